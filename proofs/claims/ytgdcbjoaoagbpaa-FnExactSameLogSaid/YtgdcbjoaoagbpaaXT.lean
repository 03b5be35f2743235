/- Records, and what the functions compute. -/
import Derived.Test.YtgdcbjoaoagbpaaXE
/- Records, and how they lie in cells. -/
namespace Go.Proofs.Ytgdcbjoaoagbpaa.V
open Go Go.Proofs Go.RowKit
set_option maxRecDepth 100000
structure TWrite where
  At : Int
  Text : List UInt8
def enc_TWrite (_ : Bool) (x : TWrite) : List AV := [.int .i64 x.At, .str x.Text]
theorem sc_TWrite (o : Bool) (x : TWrite) : ∀ v ∈ enc_TWrite o x, Scl v := (fac .int (fac .str fan))
theorem fk_TWrite : FlatOk enc_TWrite 2 := ⟨⟨fun _ _ => rfl, by omega, fun _ _ => (fac .int (fac .str fan)), fun _ => (fac .int (fac .str fan)), fun _ => (.cons .refl (.cons .refl .nil))⟩, fun _ => rfl, fun _ _ => (fac rfl (fac rfl fan)), fun _ _ => (fac rfl (fac rfl fan))⟩
theorem ek_TWrite : EncOk enc_TWrite 2 := fk_TWrite.toEncOk
structure TDisk where
  Sectors : List (List UInt8)
  Cache : List TWrite
def enc_TDisk (o : Bool) (x : TDisk) : List AV := [.lst o 1 (fl (encS o) x.Sectors) x.Sectors.length, .lst o 2 (fl (enc_TWrite o) x.Cache) x.Cache.length]
theorem ek_TDisk : EncOk enc_TDisk 2 := ⟨fun _ _ => rfl, by omega, fun _ _ => (fac (.lst (ekS.fdat _ _)) (fac (.lst (ek_TWrite.fdat _ _)) fan)), fun _ => (fac (.lst (ekS.fown _)) (fac (.lst (ek_TWrite.fown _)) fan)), fun _ => (.cons (ekS.fflag _).lst (.cons (ek_TWrite.fflag _).lst .nil))⟩
structure TRec where
  Kind : Int
  Valid : Int
  Uid : Int
  Next : Int
  Flags : Int
  User : List UInt8
  Name : List UInt8
  Text : List UInt8
def enc_TRec (_ : Bool) (x : TRec) : List AV := [.int .i64 x.Kind, .int .i64 x.Valid, .int .i64 x.Uid, .int .i64 x.Next, .int .i64 x.Flags, .str x.User, .str x.Name, .str x.Text]
theorem sc_TRec (o : Bool) (x : TRec) : ∀ v ∈ enc_TRec o x, Scl v := (fac .int (fac .int (fac .int (fac .int (fac .int (fac .str (fac .str (fac .str fan))))))))
theorem fk_TRec : FlatOk enc_TRec 8 := ⟨⟨fun _ _ => rfl, by omega, fun _ _ => (fac .int (fac .int (fac .int (fac .int (fac .int (fac .str (fac .str (fac .str fan)))))))), fun _ => (fac .int (fac .int (fac .int (fac .int (fac .int (fac .str (fac .str (fac .str fan)))))))), fun _ => (.cons .refl (.cons .refl (.cons .refl (.cons .refl (.cons .refl (.cons .refl (.cons .refl (.cons .refl .nil))))))))⟩, fun _ => rfl, fun _ _ => (fac rfl (fac rfl (fac rfl (fac rfl (fac rfl (fac rfl (fac rfl (fac rfl fan)))))))), fun _ _ => (fac rfl (fac rfl (fac rfl (fac rfl (fac rfl (fac rfl (fac rfl (fac rfl fan))))))))⟩
theorem ek_TRec : EncOk enc_TRec 8 := fk_TRec.toEncOk
structure TItem where
  Seq : Int
  Rec : TRec
def enc_TItem (_ : Bool) (x : TItem) : List AV := [.int .i64 x.Seq, .int .i64 x.Rec.Kind, .int .i64 x.Rec.Valid, .int .i64 x.Rec.Uid, .int .i64 x.Rec.Next, .int .i64 x.Rec.Flags, .str x.Rec.User, .str x.Rec.Name, .str x.Rec.Text]
theorem sc_TItem (o : Bool) (x : TItem) : ∀ v ∈ enc_TItem o x, Scl v := (fac .int (fac .int (fac .int (fac .int (fac .int (fac .int (fac .str (fac .str (fac .str fan)))))))))
theorem fk_TItem : FlatOk enc_TItem 9 := ⟨⟨fun _ _ => rfl, by omega, fun _ _ => (fac .int (fac .int (fac .int (fac .int (fac .int (fac .int (fac .str (fac .str (fac .str fan))))))))), fun _ => (fac .int (fac .int (fac .int (fac .int (fac .int (fac .int (fac .str (fac .str (fac .str fan))))))))), fun _ => (.cons .refl (.cons .refl (.cons .refl (.cons .refl (.cons .refl (.cons .refl (.cons .refl (.cons .refl (.cons .refl .nil)))))))))⟩, fun _ => rfl, fun _ _ => (fac rfl (fac rfl (fac rfl (fac rfl (fac rfl (fac rfl (fac rfl (fac rfl (fac rfl fan))))))))), fun _ _ => (fac rfl (fac rfl (fac rfl (fac rfl (fac rfl (fac rfl (fac rfl (fac rfl (fac rfl fan)))))))))⟩
theorem ek_TItem : EncOk enc_TItem 9 := fk_TItem.toEncOk
structure TSeg where
  No : Int
  Gen : Int
  End : Int
  Items : List TItem
def enc_TSeg (o : Bool) (x : TSeg) : List AV := [.int .i64 x.No, .int .i64 x.Gen, .int .i64 x.End, .lst o 9 (fl (enc_TItem o) x.Items) x.Items.length]
theorem ek_TSeg : EncOk enc_TSeg 4 := ⟨fun _ _ => rfl, by omega, fun _ _ => (fac .int (fac .int (fac .int (fac (.lst (ek_TItem.fdat _ _)) fan)))), fun _ => (fac .int (fac .int (fac .int (fac (.lst (ek_TItem.fown _)) fan)))), fun _ => (.cons .refl (.cons .refl (.cons .refl (.cons (ek_TItem.fflag _).lst .nil))))⟩
structure TLog where
  Disk : TDisk
  Segs : Int
  Used : List TSeg
  NextGen : Int
  NextSeq : Int
  Stamp : Int
  NextValid : Int
def enc_TLog (o : Bool) (x : TLog) : List AV := [.lst o 1 (fl (encS o) x.Disk.Sectors) x.Disk.Sectors.length, .lst o 2 (fl (enc_TWrite o) x.Disk.Cache) x.Disk.Cache.length, .int .i64 x.Segs, .lst o 4 (fl (enc_TSeg o) x.Used) x.Used.length, .int .i64 x.NextGen, .int .i64 x.NextSeq, .int .i64 x.Stamp, .int .i64 x.NextValid]
theorem ek_TLog : EncOk enc_TLog 8 := ⟨fun _ _ => rfl, by omega, fun _ _ => (fac (.lst (ekS.fdat _ _)) (fac (.lst (ek_TWrite.fdat _ _)) (fac .int (fac (.lst (ek_TSeg.fdat _ _)) (fac .int (fac .int (fac .int (fac .int fan)))))))), fun _ => (fac (.lst (ekS.fown _)) (fac (.lst (ek_TWrite.fown _)) (fac .int (fac (.lst (ek_TSeg.fown _)) (fac .int (fac .int (fac .int (fac .int fan)))))))), fun _ => (.cons (ekS.fflag _).lst (.cons (ek_TWrite.fflag _).lst (.cons .refl (.cons (ek_TSeg.fflag _).lst (.cons .refl (.cons .refl (.cons .refl (.cons .refl .nil))))))))⟩
structure TRef where
  No : Int
  Gen : Int
def enc_TRef (_ : Bool) (x : TRef) : List AV := [.int .i64 x.No, .int .i64 x.Gen]
theorem sc_TRef (o : Bool) (x : TRef) : ∀ v ∈ enc_TRef o x, Scl v := (fac .int (fac .int fan))
theorem fk_TRef : FlatOk enc_TRef 2 := ⟨⟨fun _ _ => rfl, by omega, fun _ _ => (fac .int (fac .int fan)), fun _ => (fac .int (fac .int fan)), fun _ => (.cons .refl (.cons .refl .nil))⟩, fun _ => rfl, fun _ _ => (fac rfl (fac rfl fan)), fun _ _ => (fac rfl (fac rfl fan))⟩
theorem ek_TRef : EncOk enc_TRef 2 := fk_TRef.toEncOk
structure TCheck where
  Stamp : Int
  NextGen : Int
  NextSeq : Int
  NextValid : Int
  Refs : List TRef
def enc_TCheck (o : Bool) (x : TCheck) : List AV := [.int .i64 x.Stamp, .int .i64 x.NextGen, .int .i64 x.NextSeq, .int .i64 x.NextValid, .lst o 2 (fl (enc_TRef o) x.Refs) x.Refs.length]
theorem ek_TCheck : EncOk enc_TCheck 5 := ⟨fun _ _ => rfl, by omega, fun _ _ => (fac .int (fac .int (fac .int (fac .int (fac (.lst (ek_TRef.fdat _ _)) fan))))), fun _ => (fac .int (fac .int (fac .int (fac .int (fac (.lst (ek_TRef.fown _)) fan))))), fun _ => (.cons .refl (.cons .refl (.cons .refl (.cons .refl (.cons (ek_TRef.fflag _).lst .nil)))))⟩
structure TL06Cur where
  mText : List UInt8
  mAt : Int
  mBad : Bool
def enc_TL06Cur (_ : Bool) (x : TL06Cur) : List AV := [.str x.mText, .int .i64 x.mAt, .bool x.mBad]
theorem sc_TL06Cur (o : Bool) (x : TL06Cur) : ∀ v ∈ enc_TL06Cur o x, Scl v := (fac .str (fac .int (fac .bool fan)))
theorem fk_TL06Cur : FlatOk enc_TL06Cur 3 := ⟨⟨fun _ _ => rfl, by omega, fun _ _ => (fac .str (fac .int (fac .bool fan))), fun _ => (fac .str (fac .int (fac .bool fan))), fun _ => (.cons .refl (.cons .refl (.cons .refl .nil)))⟩, fun _ => rfl, fun _ _ => (fac rfl (fac rfl (fac rfl fan))), fun _ _ => (fac rfl (fac rfl (fac rfl fan)))⟩
theorem ek_TL06Cur : EncOk enc_TL06Cur 3 := fk_TL06Cur.toEncOk
structure TFrame where
  Gen : Int
  Seq : Int
  Body : List UInt8
def enc_TFrame (_ : Bool) (x : TFrame) : List AV := [.int .i64 x.Gen, .int .i64 x.Seq, .str x.Body]
theorem sc_TFrame (o : Bool) (x : TFrame) : ∀ v ∈ enc_TFrame o x, Scl v := (fac .int (fac .int (fac .str fan)))
theorem fk_TFrame : FlatOk enc_TFrame 3 := ⟨⟨fun _ _ => rfl, by omega, fun _ _ => (fac .int (fac .int (fac .str fan))), fun _ => (fac .int (fac .int (fac .str fan))), fun _ => (.cons .refl (.cons .refl (.cons .refl .nil)))⟩, fun _ => rfl, fun _ _ => (fac rfl (fac rfl (fac rfl fan))), fun _ _ => (fac rfl (fac rfl (fac rfl fan)))⟩
theorem ek_TFrame : EncOk enc_TFrame 3 := fk_TFrame.toEncOk
structure TStore where
  Log : TLog
  Freed : List Int
def enc_TStore (o : Bool) (x : TStore) : List AV := [.lst o 1 (fl (encS o) x.Log.Disk.Sectors) x.Log.Disk.Sectors.length, .lst o 2 (fl (enc_TWrite o) x.Log.Disk.Cache) x.Log.Disk.Cache.length, .int .i64 x.Log.Segs, .lst o 4 (fl (enc_TSeg o) x.Log.Used) x.Log.Used.length, .int .i64 x.Log.NextGen, .int .i64 x.Log.NextSeq, .int .i64 x.Log.Stamp, .int .i64 x.Log.NextValid, .lst o 1 (fl (encI o) x.Freed) x.Freed.length]
theorem ek_TStore : EncOk enc_TStore 9 := ⟨fun _ _ => rfl, by omega, fun _ _ => (fac (.lst (ekS.fdat _ _)) (fac (.lst (ek_TWrite.fdat _ _)) (fac .int (fac (.lst (ek_TSeg.fdat _ _)) (fac .int (fac .int (fac .int (fac .int (fac (.lst (ekI.fdat _ _)) fan))))))))), fun _ => (fac (.lst (ekS.fown _)) (fac (.lst (ek_TWrite.fown _)) (fac .int (fac (.lst (ek_TSeg.fown _)) (fac .int (fac .int (fac .int (fac .int (fac (.lst (ekI.fown _)) fan))))))))), fun _ => (.cons (ekS.fflag _).lst (.cons (ek_TWrite.fflag _).lst (.cons .refl (.cons (ek_TSeg.fflag _).lst (.cons .refl (.cons .refl (.cons .refl (.cons .refl (.cons (ekI.fflag _).lst .nil)))))))))⟩
def wf_TWrite (x : TWrite) : Prop := ((Lit.int .i64 x.At).wf = true) ∧ (x.Text.length ≤ maxLen) ∧ True
def wf_TDisk (x : TDisk) : Prop := (x.Sectors.length ≤ maxLen ∧ ∀ a ∈ x.Sectors, a.length ≤ maxLen) ∧ (x.Cache.length ≤ maxLen ∧ ∀ a ∈ x.Cache, wf_TWrite a) ∧ True
def wf_TRec (x : TRec) : Prop := ((Lit.int .i64 x.Kind).wf = true) ∧ ((Lit.int .i64 x.Valid).wf = true) ∧ ((Lit.int .i64 x.Uid).wf = true) ∧ ((Lit.int .i64 x.Next).wf = true) ∧ ((Lit.int .i64 x.Flags).wf = true) ∧ (x.User.length ≤ maxLen) ∧ (x.Name.length ≤ maxLen) ∧ (x.Text.length ≤ maxLen) ∧ True
def wf_TItem (x : TItem) : Prop := ((Lit.int .i64 x.Seq).wf = true) ∧ (wf_TRec x.Rec) ∧ True
def wf_TSeg (x : TSeg) : Prop := ((Lit.int .i64 x.No).wf = true) ∧ ((Lit.int .i64 x.Gen).wf = true) ∧ ((Lit.int .i64 x.End).wf = true) ∧ (x.Items.length ≤ maxLen ∧ ∀ a ∈ x.Items, wf_TItem a) ∧ True
def wf_TLog (x : TLog) : Prop := (wf_TDisk x.Disk) ∧ ((Lit.int .i64 x.Segs).wf = true) ∧ (x.Used.length ≤ maxLen ∧ ∀ a ∈ x.Used, wf_TSeg a) ∧ ((Lit.int .i64 x.NextGen).wf = true) ∧ ((Lit.int .i64 x.NextSeq).wf = true) ∧ ((Lit.int .i64 x.Stamp).wf = true) ∧ ((Lit.int .i64 x.NextValid).wf = true) ∧ True
def wf_TRef (x : TRef) : Prop := ((Lit.int .i64 x.No).wf = true) ∧ ((Lit.int .i64 x.Gen).wf = true) ∧ True
def wf_TCheck (x : TCheck) : Prop := ((Lit.int .i64 x.Stamp).wf = true) ∧ ((Lit.int .i64 x.NextGen).wf = true) ∧ ((Lit.int .i64 x.NextSeq).wf = true) ∧ ((Lit.int .i64 x.NextValid).wf = true) ∧ (x.Refs.length ≤ maxLen ∧ ∀ a ∈ x.Refs, wf_TRef a) ∧ True
def wf_TL06Cur (x : TL06Cur) : Prop := (x.mText.length ≤ maxLen) ∧ ((Lit.int .i64 x.mAt).wf = true) ∧ (True) ∧ True
def wf_TFrame (x : TFrame) : Prop := ((Lit.int .i64 x.Gen).wf = true) ∧ ((Lit.int .i64 x.Seq).wf = true) ∧ (x.Body.length ≤ maxLen) ∧ True
def wf_TStore (x : TStore) : Prop := (wf_TLog x.Log) ∧ (x.Freed.length ≤ maxLen ∧ ∀ a ∈ x.Freed, (Lit.int .i64 a).wf = true) ∧ True
end Go.Proofs.Ytgdcbjoaoagbpaa.V
/- What the functions compute. -/
namespace Go.Proofs.Ytgdcbjoaoagbpaa.V
open Go Go.Proofs Go.RowKit
set_option maxRecDepth 100000
noncomputable def S_laws_szStringS_1 (x0 : List (List UInt8)) (s1 : Int × Int) : Option ((Int × Int) ⊕ (Int ⊕ Int)) :=
  (if decide (s1.2 < (x0.length : Int)) then (at? x0 s1.2).bind fun v3 => (if decide ((w64 (s1.1 - (v3.length : Int))) < 0) then some (.inr (.inl (-1))) else some (.inl (w64 (s1.1 - (v3.length : Int)), w64 (s1.2 + 1)))) else some (.inr (.inr s1.1)))
noncomputable def F_laws_szStringS (x0 : List (List UInt8)) (x1 : Int) : Option Int :=
  (if decide ((w64 (x1 - (x0.length : Int))) < 0) then some (-1) else (iter (S_laws_szStringS_1 x0) (w64 (x1 - (x0.length : Int)), 0)).bind (Sum.elim (fun r => some r) (fun y2 => some y2)))
noncomputable def F_laws_szWrite (x0 : TWrite) (x1 : Int) : Option Int :=
  (if decide ((w64 (x1 - (x0.Text.length : Int))) < 0) then some (-1) else some (w64 (x1 - (x0.Text.length : Int))))
noncomputable def S_laws_szWriteS_1 (x0 : List TWrite) (s1 : Int × Int) : Option ((Int × Int) ⊕ (Int ⊕ Int)) :=
  (if decide (s1.2 < (x0.length : Int)) then (at? x0 s1.2).bind fun v3 => (F_laws_szWrite v3 s1.1).bind fun v4 => (if decide (v4 < 0) then some (.inr (.inl (-1))) else some (.inl (v4, w64 (s1.2 + 1)))) else some (.inr (.inr s1.1)))
noncomputable def F_laws_szWriteS (x0 : List TWrite) (x1 : Int) : Option Int :=
  (if decide ((w64 (x1 - (x0.length : Int))) < 0) then some (-1) else (iter (S_laws_szWriteS_1 x0) (w64 (x1 - (x0.length : Int)), 0)).bind (Sum.elim (fun r => some r) (fun y2 => some y2)))
noncomputable def F_laws_szDisk (x0 : TDisk) (x1 : Int) : Option Int :=
  (F_laws_szStringS x0.Sectors x1).bind fun v1 => (if decide (v1 < 0) then some (-1) else (F_laws_szWriteS x0.Cache v1).bind fun v2 => (if decide (v2 < 0) then some (-1) else some v2))
noncomputable def F_laws_szRec (x0 : TRec) (x1 : Int) : Option Int :=
  (if decide ((w64 (x1 - (x0.User.length : Int))) < 0) then some (-1) else (if decide ((w64 ((w64 (x1 - (x0.User.length : Int))) - (x0.Name.length : Int))) < 0) then some (-1) else (if decide ((w64 ((w64 ((w64 (x1 - (x0.User.length : Int))) - (x0.Name.length : Int))) - (x0.Text.length : Int))) < 0) then some (-1) else some (w64 ((w64 ((w64 (x1 - (x0.User.length : Int))) - (x0.Name.length : Int))) - (x0.Text.length : Int))))))
noncomputable def F_laws_szItem (x0 : TItem) (x1 : Int) : Option Int :=
  (F_laws_szRec x0.Rec x1).bind fun v1 => (if decide (v1 < 0) then some (-1) else some v1)
noncomputable def S_laws_szItemS_1 (x0 : List TItem) (s1 : Int × Int) : Option ((Int × Int) ⊕ (Int ⊕ Int)) :=
  (if decide (s1.2 < (x0.length : Int)) then (at? x0 s1.2).bind fun v3 => (F_laws_szItem v3 s1.1).bind fun v4 => (if decide (v4 < 0) then some (.inr (.inl (-1))) else some (.inl (v4, w64 (s1.2 + 1)))) else some (.inr (.inr s1.1)))
noncomputable def F_laws_szItemS (x0 : List TItem) (x1 : Int) : Option Int :=
  (if decide ((w64 (x1 - (x0.length : Int))) < 0) then some (-1) else (iter (S_laws_szItemS_1 x0) (w64 (x1 - (x0.length : Int)), 0)).bind (Sum.elim (fun r => some r) (fun y2 => some y2)))
noncomputable def F_laws_szSeg (x0 : TSeg) (x1 : Int) : Option Int :=
  (F_laws_szItemS x0.Items x1).bind fun v1 => (if decide (v1 < 0) then some (-1) else some v1)
noncomputable def S_laws_szSegS_1 (x0 : List TSeg) (s1 : Int × Int) : Option ((Int × Int) ⊕ (Int ⊕ Int)) :=
  (if decide (s1.2 < (x0.length : Int)) then (at? x0 s1.2).bind fun v3 => (F_laws_szSeg v3 s1.1).bind fun v4 => (if decide (v4 < 0) then some (.inr (.inl (-1))) else some (.inl (v4, w64 (s1.2 + 1)))) else some (.inr (.inr s1.1)))
noncomputable def F_laws_szSegS (x0 : List TSeg) (x1 : Int) : Option Int :=
  (if decide ((w64 (x1 - (x0.length : Int))) < 0) then some (-1) else (iter (S_laws_szSegS_1 x0) (w64 (x1 - (x0.length : Int)), 0)).bind (Sum.elim (fun r => some r) (fun y2 => some y2)))
noncomputable def F_laws_szLog (x0 : TLog) (x1 : Int) : Option Int :=
  (F_laws_szDisk x0.Disk x1).bind fun v1 => (if decide (v1 < 0) then some (-1) else (F_laws_szSegS x0.Used v1).bind fun v2 => (if decide (v2 < 0) then some (-1) else some v2))
noncomputable def S_spec_l09Same_1 (x0 : TSeg) (x1 : TSeg) (s2 : Int) : Option (Int ⊕ (Bool ⊕ Unit)) :=
  (if decide (s2 < (x0.Items.length : Int)) then (at? x0.Items s2).bind fun v4 => (at? x1.Items s2).bind fun v5 => (if !(v4.Seq == v5.Seq && (v4.Rec.Kind == v5.Rec.Kind && (v4.Rec.Valid == v5.Rec.Valid && (v4.Rec.Uid == v5.Rec.Uid && (v4.Rec.Next == v5.Rec.Next && (v4.Rec.Flags == v5.Rec.Flags && (v4.Rec.User == v5.Rec.User && (v4.Rec.Name == v5.Rec.Name && (v4.Rec.Text == v5.Rec.Text && true))))))))) then some (.inr (.inl false)) else some (.inl (w64 (s2 + 1)))) else some (.inr (.inr ())))
noncomputable def F_spec_l09Same (x0 : TSeg) (x1 : TSeg) : Option Bool :=
  ((if (x0.No != x1.No) then some true else (if (x0.Gen != x1.Gen) then some true else (if (x0.End != x1.End) then some true else (if ((x0.Items.length : Int) != (x1.Items.length : Int)) then some true else some false)))) : Option Bool).bind (fun y1 => (if y1 then some false else (iter (S_spec_l09Same_1 x0 x1) 0).bind (Sum.elim (fun r => some r) (fun y3 => some true))))
noncomputable def S_spec_SameLog_1 (x0 : TLog) (x1 : TLog) (s2 : Int) : Option (Int ⊕ (Bool ⊕ Unit)) :=
  (if decide (s2 < (x0.Used.length : Int)) then (at? x0.Used s2).bind fun v4 => (at? x1.Used s2).bind fun v5 => (F_spec_l09Same v4 v5).bind fun v6 => (if v6 then some (.inl (w64 (s2 + 1))) else some (.inr (.inl false))) else some (.inr (.inr ())))
noncomputable def F_spec_SameLog (x0 : TLog) (x1 : TLog) : Option Bool :=
  ((if ((x0.Used.length : Int) != (x1.Used.length : Int)) then some true else (if (x0.NextGen != x1.NextGen) then some true else (if (x0.NextSeq != x1.NextSeq) then some true else (if (x0.NextValid != x1.NextValid) then some true else some false)))) : Option Bool).bind (fun y1 => (if y1 then some false else (iter (S_spec_SameLog_1 x0 x1) 0).bind (Sum.elim (fun r => some r) (fun y3 => some true))))
noncomputable def S_laws_toStringS_1 (x0 : List (List UInt8)) (s2 : Int × (List (List UInt8))) : Option ((Int × (List (List UInt8))) ⊕ (List (List UInt8))) :=
  (if decide (s2.1 < (x0.length : Int)) then (at? x0 s2.1).bind fun v4 => (at? s2.2 s2.1).bind fun v5 => (some (set' s2.2 s2.1 v4)).bind fun v6 => some (.inl (w64 (s2.1 + 1), v6)) else some (.inr s2.2))
noncomputable def F_laws_toStringS (x0 : List (List UInt8)) : Option (List (List UInt8)) :=
  (mk? 16 ([] : List UInt8) (x0.length : Int)).bind fun v1 => (iter (S_laws_toStringS_1 x0) (0, v1)).bind (fun y7 => some y7)
noncomputable def F_laws_toWrite (x0 : TWrite) : Option TWrite :=
  some x0
noncomputable def S_laws_toWriteS_1 (x0 : List TWrite) (s2 : Int × (List TWrite)) : Option ((Int × (List TWrite)) ⊕ (List TWrite)) :=
  (if decide (s2.1 < (x0.length : Int)) then (at? x0 s2.1).bind fun v4 => (F_laws_toWrite v4).bind fun v5 => (at? s2.2 s2.1).bind fun v6 => (some (set' s2.2 s2.1 v5)).bind fun v7 => some (.inl (w64 (s2.1 + 1), v7)) else some (.inr s2.2))
noncomputable def F_laws_toWriteS (x0 : List TWrite) : Option (List TWrite) :=
  (mk? 24 (({ At := 0, Text := [] } : TWrite) : TWrite) (x0.length : Int)).bind fun v1 => (iter (S_laws_toWriteS_1 x0) (0, v1)).bind (fun y8 => some y8)
noncomputable def F_laws_toDisk (x0 : TDisk) : Option TDisk :=
  (F_laws_toStringS x0.Sectors).bind fun v1 => (F_laws_toWriteS x0.Cache).bind fun v2 => some ({ Sectors := v1, Cache := v2 } : TDisk)
noncomputable def F_laws_toRec (x0 : TRec) : Option TRec :=
  some x0
noncomputable def F_laws_toItem (x0 : TItem) : Option TItem :=
  (F_laws_toRec x0.Rec).bind fun v1 => some ({ Seq := x0.Seq, Rec := v1 } : TItem)
noncomputable def S_laws_toItemS_1 (x0 : List TItem) (s2 : Int × (List TItem)) : Option ((Int × (List TItem)) ⊕ (List TItem)) :=
  (if decide (s2.1 < (x0.length : Int)) then (at? x0 s2.1).bind fun v4 => (F_laws_toItem v4).bind fun v5 => (at? s2.2 s2.1).bind fun v6 => (some (set' s2.2 s2.1 v5)).bind fun v7 => some (.inl (w64 (s2.1 + 1), v7)) else some (.inr s2.2))
noncomputable def F_laws_toItemS (x0 : List TItem) : Option (List TItem) :=
  (mk? 96 (({ Seq := 0, Rec := ({ Kind := 0, Valid := 0, Uid := 0, Next := 0, Flags := 0, User := [], Name := [], Text := [] } : TRec) } : TItem) : TItem) (x0.length : Int)).bind fun v1 => (iter (S_laws_toItemS_1 x0) (0, v1)).bind (fun y8 => some y8)
noncomputable def F_laws_toSeg (x0 : TSeg) : Option TSeg :=
  (F_laws_toItemS x0.Items).bind fun v1 => some ({ No := x0.No, Gen := x0.Gen, End := x0.End, Items := v1 } : TSeg)
noncomputable def S_laws_toSegS_1 (x0 : List TSeg) (s2 : Int × (List TSeg)) : Option ((Int × (List TSeg)) ⊕ (List TSeg)) :=
  (if decide (s2.1 < (x0.length : Int)) then (at? x0 s2.1).bind fun v4 => (F_laws_toSeg v4).bind fun v5 => (at? s2.2 s2.1).bind fun v6 => (some (set' s2.2 s2.1 ({ No := v5.No, Gen := v5.Gen, End := v5.End, Items := v5.Items } : TSeg))).bind fun v7 => some (.inl (w64 (s2.1 + 1), v7)) else some (.inr s2.2))
noncomputable def F_laws_toSegS (x0 : List TSeg) : Option (List TSeg) :=
  (mk? 48 (({ No := 0, Gen := 0, End := 0, Items := [] } : TSeg) : TSeg) (x0.length : Int)).bind fun v1 => (iter (S_laws_toSegS_1 x0) (0, v1)).bind (fun y8 => some y8)
noncomputable def F_laws_toLog (x0 : TLog) : Option TLog :=
  (F_laws_toDisk x0.Disk).bind fun v1 => (F_laws_toSegS x0.Used).bind fun v2 => some ({ Disk := ({ Sectors := v1.Sectors, Cache := v1.Cache } : TDisk), Segs := x0.Segs, Used := v2, NextGen := x0.NextGen, NextSeq := x0.NextSeq, Stamp := x0.Stamp, NextValid := x0.NextValid } : TLog)
noncomputable def S_slices_Equal_Item_1 (x0 : List TItem) (x1 : List TItem) (s1 : Int) : Option (Int ⊕ (Bool ⊕ Unit)) :=
  (if decide (s1 < (x0.length : Int)) then (at? x0 s1).bind fun v3 => (at? x1 s1).bind fun v4 => (if !(v3.Seq == v4.Seq && (v3.Rec.Kind == v4.Rec.Kind && (v3.Rec.Valid == v4.Rec.Valid && (v3.Rec.Uid == v4.Rec.Uid && (v3.Rec.Next == v4.Rec.Next && (v3.Rec.Flags == v4.Rec.Flags && (v3.Rec.User == v4.Rec.User && (v3.Rec.Name == v4.Rec.Name && (v3.Rec.Text == v4.Rec.Text && true))))))))) then some (.inr (.inl false)) else some (.inl (w64 (s1 + 1)))) else some (.inr (.inr ())))
noncomputable def F_slices_Equal_Item (x0 : List TItem) (x1 : List TItem) : Option Bool :=
  (if ((x0.length : Int) != (x1.length : Int)) then some false else (iter (S_slices_Equal_Item_1 x0 x1) 0).bind (Sum.elim (fun r => some r) (fun y2 => some true)))
noncomputable def F_impl_sameSeg (x0 : TSeg) (x1 : TSeg) : Option Bool :=
  ((if (x0.No == x1.No) then (if (x0.Gen == x1.Gen) then (if (x0.End == x1.End) then (F_slices_Equal_Item x0.Items x1.Items).bind fun v2 => some v2 else some false) else some false) else some false) : Option Bool).bind (fun y1 => some y1)
noncomputable def S_slices_EqualFunc_Seg_sameSeg_1 (x0 : List TSeg) (x1 : List TSeg) (s1 : Int) : Option (Int ⊕ (Bool ⊕ Unit)) :=
  (if decide (s1 < (x0.length : Int)) then (at? x0 s1).bind fun v3 => (at? x1 s1).bind fun v4 => (F_impl_sameSeg v3 v4).bind fun v5 => (if v5 then some (.inl (w64 (s1 + 1))) else some (.inr (.inl false))) else some (.inr (.inr ())))
noncomputable def F_slices_EqualFunc_Seg_sameSeg (x0 : List TSeg) (x1 : List TSeg) : Option Bool :=
  (if ((x0.length : Int) != (x1.length : Int)) then some false else (iter (S_slices_EqualFunc_Seg_sameSeg_1 x0 x1) 0).bind (Sum.elim (fun r => some r) (fun y2 => some true)))
noncomputable def F_impl_SameLog (x0 : TLog) (x1 : TLog) : Option Bool :=
  ((F_slices_EqualFunc_Seg_sameSeg x0.Used x1.Used).bind fun v2 => (if v2 then (if (x0.NextGen == x1.NextGen) then (if (x0.NextSeq == x1.NextSeq) then some (x0.NextValid == x1.NextValid) else some false) else some false) else some false) : Option Bool).bind (fun y1 => some y1)
noncomputable def S_laws_eqStringS_1 (x0 : List (List UInt8)) (x1 : List (List UInt8)) (s1 : Int) : Option (Int ⊕ (Bool ⊕ Unit)) :=
  (if decide (s1 < (x0.length : Int)) then (at? x0 s1).bind fun v3 => (at? x1 s1).bind fun v4 => (if (!(v3 == v4)) then some (.inr (.inl false)) else some (.inl (w64 (s1 + 1)))) else some (.inr (.inr ())))
noncomputable def F_laws_eqStringS (x0 : List (List UInt8)) (x1 : List (List UInt8)) : Option Bool :=
  (if ((x0.length : Int) != (x1.length : Int)) then some false else (iter (S_laws_eqStringS_1 x0 x1) 0).bind (Sum.elim (fun r => some r) (fun y2 => some true)))
noncomputable def F_laws_eqWrite (x0 : TWrite) (x1 : TWrite) : Option Bool :=
  (if (x0.At != x1.At) then some false else (if (!(x0.Text == x1.Text)) then some false else some true))
noncomputable def S_laws_eqWriteS_1 (x0 : List TWrite) (x1 : List TWrite) (s1 : Int) : Option (Int ⊕ (Bool ⊕ Unit)) :=
  (if decide (s1 < (x0.length : Int)) then (at? x0 s1).bind fun v3 => (at? x1 s1).bind fun v4 => (F_laws_eqWrite v3 v4).bind fun v5 => (if v5 then some (.inl (w64 (s1 + 1))) else some (.inr (.inl false))) else some (.inr (.inr ())))
noncomputable def F_laws_eqWriteS (x0 : List TWrite) (x1 : List TWrite) : Option Bool :=
  (if ((x0.length : Int) != (x1.length : Int)) then some false else (iter (S_laws_eqWriteS_1 x0 x1) 0).bind (Sum.elim (fun r => some r) (fun y2 => some true)))
noncomputable def F_laws_eqDisk (x0 : TDisk) (x1 : TDisk) : Option Bool :=
  (F_laws_eqStringS x0.Sectors x1.Sectors).bind fun v1 => (if v1 then (F_laws_eqWriteS x0.Cache x1.Cache).bind fun v2 => (if v2 then some true else some false) else some false)
noncomputable def F_laws_eqRec (x0 : TRec) (x1 : TRec) : Option Bool :=
  (if (x0.Kind != x1.Kind) then some false else (if (x0.Valid != x1.Valid) then some false else (if (x0.Uid != x1.Uid) then some false else (if (x0.Next != x1.Next) then some false else (if (x0.Flags != x1.Flags) then some false else (if (!(x0.User == x1.User)) then some false else (if (!(x0.Name == x1.Name)) then some false else (if (!(x0.Text == x1.Text)) then some false else some true))))))))
noncomputable def F_laws_eqItem (x0 : TItem) (x1 : TItem) : Option Bool :=
  (if (x0.Seq != x1.Seq) then some false else (F_laws_eqRec x0.Rec x1.Rec).bind fun v1 => (if v1 then some true else some false))
noncomputable def S_laws_eqItemS_1 (x0 : List TItem) (x1 : List TItem) (s1 : Int) : Option (Int ⊕ (Bool ⊕ Unit)) :=
  (if decide (s1 < (x0.length : Int)) then (at? x0 s1).bind fun v3 => (at? x1 s1).bind fun v4 => (F_laws_eqItem v3 v4).bind fun v5 => (if v5 then some (.inl (w64 (s1 + 1))) else some (.inr (.inl false))) else some (.inr (.inr ())))
noncomputable def F_laws_eqItemS (x0 : List TItem) (x1 : List TItem) : Option Bool :=
  (if ((x0.length : Int) != (x1.length : Int)) then some false else (iter (S_laws_eqItemS_1 x0 x1) 0).bind (Sum.elim (fun r => some r) (fun y2 => some true)))
noncomputable def F_laws_eqSeg (x0 : TSeg) (x1 : TSeg) : Option Bool :=
  (if (x0.No != x1.No) then some false else (if (x0.Gen != x1.Gen) then some false else (if (x0.End != x1.End) then some false else (F_laws_eqItemS x0.Items x1.Items).bind fun v1 => (if v1 then some true else some false))))
noncomputable def S_laws_eqSegS_1 (x0 : List TSeg) (x1 : List TSeg) (s1 : Int) : Option (Int ⊕ (Bool ⊕ Unit)) :=
  (if decide (s1 < (x0.length : Int)) then (at? x0 s1).bind fun v3 => (at? x1 s1).bind fun v4 => (F_laws_eqSeg v3 v4).bind fun v5 => (if v5 then some (.inl (w64 (s1 + 1))) else some (.inr (.inl false))) else some (.inr (.inr ())))
noncomputable def F_laws_eqSegS (x0 : List TSeg) (x1 : List TSeg) : Option Bool :=
  (if ((x0.length : Int) != (x1.length : Int)) then some false else (iter (S_laws_eqSegS_1 x0 x1) 0).bind (Sum.elim (fun r => some r) (fun y2 => some true)))
noncomputable def F_laws_eqLog (x0 : TLog) (x1 : TLog) : Option Bool :=
  (F_laws_eqDisk x0.Disk x1.Disk).bind fun v1 => (if v1 then (if (x0.Segs != x1.Segs) then some false else (F_laws_eqSegS x0.Used x1.Used).bind fun v2 => (if v2 then (if (x0.NextGen != x1.NextGen) then some false else (if (x0.NextSeq != x1.NextSeq) then some false else (if (x0.Stamp != x1.Stamp) then some false else (if (x0.NextValid != x1.NextValid) then some false else some true)))) else some false)) else some false)
noncomputable def F_laws_FnExactSameLog (x0 : TLog) (x1 : TLog) : Option Bool :=
  (F_laws_szLog x0 1048576).bind fun v1 => (if decide (v1 < 0) then some true else (F_laws_szLog x1 v1).bind fun v2 => (if decide (v2 < 0) then some true else (F_laws_toLog x0).bind fun v3 => (F_laws_toLog x1).bind fun v4 => (F_spec_SameLog v3 v4).bind fun v5 => (F_laws_toLog x0).bind fun v6 => (F_laws_toLog x1).bind fun v7 => (F_impl_SameLog v6 v7).bind fun v8 => (if !(v8 == v5) then some false else (F_laws_toLog x0).bind fun v9 => (F_laws_eqLog v6 v9).bind fun v10 => (if v10 then (F_laws_toLog x1).bind fun v11 => (F_laws_eqLog v7 v11).bind fun v12 => (if v12 then some true else some false) else some false))))
end Go.Proofs.Ytgdcbjoaoagbpaa.V
