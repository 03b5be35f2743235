/- Records, and what the functions compute. -/
import Derived.Test.YtcehlicmghnghaaGreatXE
/- Records, and how they lie in cells. -/
namespace Go.Proofs.YtcehlicmghnghaaGreat.V
open Go Go.Proofs Go.RowKit
set_option maxRecDepth 100000
structure TWrite where
  At : Int
  Text : List UInt8
def enc_TWrite (_ : Bool) (x : TWrite) : List AV := [.int .i64 x.At, .str x.Text]
theorem sc_TWrite (o : Bool) (x : TWrite) : ∀ v ∈ enc_TWrite o x, Scl v := (fac .int (fac .str fan))
theorem fk_TWrite : FlatOk enc_TWrite 2 := ⟨⟨fun _ _ => rfl, by omega, fun _ _ => (fac .int (fac .str fan)), fun _ => (fac .int (fac .str fan)), fun _ => (.cons .refl (.cons .refl .nil))⟩, fun _ => rfl, fun _ _ => (fac rfl (fac rfl fan)), fun _ _ => (fac rfl (fac rfl fan))⟩
theorem ek_TWrite : EncOk enc_TWrite 2 := fk_TWrite.toEncOk
structure TDisk where
  Sectors : List (List UInt8)
  Cache : List TWrite
def enc_TDisk (o : Bool) (x : TDisk) : List AV := [.lst o 1 (fl (encS o) x.Sectors) x.Sectors.length, .lst o 2 (fl (enc_TWrite o) x.Cache) x.Cache.length]
theorem ek_TDisk : EncOk enc_TDisk 2 := ⟨fun _ _ => rfl, by omega, fun _ _ => (fac (.lst (ekS.fdat _ _)) (fac (.lst (ek_TWrite.fdat _ _)) fan)), fun _ => (fac (.lst (ekS.fown _)) (fac (.lst (ek_TWrite.fown _)) fan)), fun _ => (.cons (ekS.fflag _).lst (.cons (ek_TWrite.fflag _).lst .nil))⟩
structure TRec where
  Kind : Int
  Valid : Int
  Uid : Int
  Next : Int
  Flags : Int
  User : List UInt8
  Name : List UInt8
  Text : List UInt8
def enc_TRec (_ : Bool) (x : TRec) : List AV := [.int .i64 x.Kind, .int .i64 x.Valid, .int .i64 x.Uid, .int .i64 x.Next, .int .i64 x.Flags, .str x.User, .str x.Name, .str x.Text]
theorem sc_TRec (o : Bool) (x : TRec) : ∀ v ∈ enc_TRec o x, Scl v := (fac .int (fac .int (fac .int (fac .int (fac .int (fac .str (fac .str (fac .str fan))))))))
theorem fk_TRec : FlatOk enc_TRec 8 := ⟨⟨fun _ _ => rfl, by omega, fun _ _ => (fac .int (fac .int (fac .int (fac .int (fac .int (fac .str (fac .str (fac .str fan)))))))), fun _ => (fac .int (fac .int (fac .int (fac .int (fac .int (fac .str (fac .str (fac .str fan)))))))), fun _ => (.cons .refl (.cons .refl (.cons .refl (.cons .refl (.cons .refl (.cons .refl (.cons .refl (.cons .refl .nil))))))))⟩, fun _ => rfl, fun _ _ => (fac rfl (fac rfl (fac rfl (fac rfl (fac rfl (fac rfl (fac rfl (fac rfl fan)))))))), fun _ _ => (fac rfl (fac rfl (fac rfl (fac rfl (fac rfl (fac rfl (fac rfl (fac rfl fan))))))))⟩
theorem ek_TRec : EncOk enc_TRec 8 := fk_TRec.toEncOk
structure TItem where
  Seq : Int
  Rec : TRec
def enc_TItem (_ : Bool) (x : TItem) : List AV := [.int .i64 x.Seq, .int .i64 x.Rec.Kind, .int .i64 x.Rec.Valid, .int .i64 x.Rec.Uid, .int .i64 x.Rec.Next, .int .i64 x.Rec.Flags, .str x.Rec.User, .str x.Rec.Name, .str x.Rec.Text]
theorem sc_TItem (o : Bool) (x : TItem) : ∀ v ∈ enc_TItem o x, Scl v := (fac .int (fac .int (fac .int (fac .int (fac .int (fac .int (fac .str (fac .str (fac .str fan)))))))))
theorem fk_TItem : FlatOk enc_TItem 9 := ⟨⟨fun _ _ => rfl, by omega, fun _ _ => (fac .int (fac .int (fac .int (fac .int (fac .int (fac .int (fac .str (fac .str (fac .str fan))))))))), fun _ => (fac .int (fac .int (fac .int (fac .int (fac .int (fac .int (fac .str (fac .str (fac .str fan))))))))), fun _ => (.cons .refl (.cons .refl (.cons .refl (.cons .refl (.cons .refl (.cons .refl (.cons .refl (.cons .refl (.cons .refl .nil)))))))))⟩, fun _ => rfl, fun _ _ => (fac rfl (fac rfl (fac rfl (fac rfl (fac rfl (fac rfl (fac rfl (fac rfl (fac rfl fan))))))))), fun _ _ => (fac rfl (fac rfl (fac rfl (fac rfl (fac rfl (fac rfl (fac rfl (fac rfl (fac rfl fan)))))))))⟩
theorem ek_TItem : EncOk enc_TItem 9 := fk_TItem.toEncOk
structure TSeg where
  No : Int
  Gen : Int
  End : Int
  Items : List TItem
def enc_TSeg (o : Bool) (x : TSeg) : List AV := [.int .i64 x.No, .int .i64 x.Gen, .int .i64 x.End, .lst o 9 (fl (enc_TItem o) x.Items) x.Items.length]
theorem ek_TSeg : EncOk enc_TSeg 4 := ⟨fun _ _ => rfl, by omega, fun _ _ => (fac .int (fac .int (fac .int (fac (.lst (ek_TItem.fdat _ _)) fan)))), fun _ => (fac .int (fac .int (fac .int (fac (.lst (ek_TItem.fown _)) fan)))), fun _ => (.cons .refl (.cons .refl (.cons .refl (.cons (ek_TItem.fflag _).lst .nil))))⟩
structure TLog where
  Disk : TDisk
  Segs : Int
  Used : List TSeg
  NextGen : Int
  NextSeq : Int
  Stamp : Int
  NextValid : Int
def enc_TLog (o : Bool) (x : TLog) : List AV := [.lst o 1 (fl (encS o) x.Disk.Sectors) x.Disk.Sectors.length, .lst o 2 (fl (enc_TWrite o) x.Disk.Cache) x.Disk.Cache.length, .int .i64 x.Segs, .lst o 4 (fl (enc_TSeg o) x.Used) x.Used.length, .int .i64 x.NextGen, .int .i64 x.NextSeq, .int .i64 x.Stamp, .int .i64 x.NextValid]
theorem ek_TLog : EncOk enc_TLog 8 := ⟨fun _ _ => rfl, by omega, fun _ _ => (fac (.lst (ekS.fdat _ _)) (fac (.lst (ek_TWrite.fdat _ _)) (fac .int (fac (.lst (ek_TSeg.fdat _ _)) (fac .int (fac .int (fac .int (fac .int fan)))))))), fun _ => (fac (.lst (ekS.fown _)) (fac (.lst (ek_TWrite.fown _)) (fac .int (fac (.lst (ek_TSeg.fown _)) (fac .int (fac .int (fac .int (fac .int fan)))))))), fun _ => (.cons (ekS.fflag _).lst (.cons (ek_TWrite.fflag _).lst (.cons .refl (.cons (ek_TSeg.fflag _).lst (.cons .refl (.cons .refl (.cons .refl (.cons .refl .nil))))))))⟩
structure TFrame where
  Gen : Int
  Seq : Int
  Body : List UInt8
def enc_TFrame (_ : Bool) (x : TFrame) : List AV := [.int .i64 x.Gen, .int .i64 x.Seq, .str x.Body]
theorem sc_TFrame (o : Bool) (x : TFrame) : ∀ v ∈ enc_TFrame o x, Scl v := (fac .int (fac .int (fac .str fan)))
theorem fk_TFrame : FlatOk enc_TFrame 3 := ⟨⟨fun _ _ => rfl, by omega, fun _ _ => (fac .int (fac .int (fac .str fan))), fun _ => (fac .int (fac .int (fac .str fan))), fun _ => (.cons .refl (.cons .refl (.cons .refl .nil)))⟩, fun _ => rfl, fun _ _ => (fac rfl (fac rfl (fac rfl fan))), fun _ _ => (fac rfl (fac rfl (fac rfl fan)))⟩
theorem ek_TFrame : EncOk enc_TFrame 3 := fk_TFrame.toEncOk
structure TStore where
  Log : TLog
  Freed : List Int
def enc_TStore (o : Bool) (x : TStore) : List AV := [.lst o 1 (fl (encS o) x.Log.Disk.Sectors) x.Log.Disk.Sectors.length, .lst o 2 (fl (enc_TWrite o) x.Log.Disk.Cache) x.Log.Disk.Cache.length, .int .i64 x.Log.Segs, .lst o 4 (fl (enc_TSeg o) x.Log.Used) x.Log.Used.length, .int .i64 x.Log.NextGen, .int .i64 x.Log.NextSeq, .int .i64 x.Log.Stamp, .int .i64 x.Log.NextValid, .lst o 1 (fl (encI o) x.Freed) x.Freed.length]
theorem ek_TStore : EncOk enc_TStore 9 := ⟨fun _ _ => rfl, by omega, fun _ _ => (fac (.lst (ekS.fdat _ _)) (fac (.lst (ek_TWrite.fdat _ _)) (fac .int (fac (.lst (ek_TSeg.fdat _ _)) (fac .int (fac .int (fac .int (fac .int (fac (.lst (ekI.fdat _ _)) fan))))))))), fun _ => (fac (.lst (ekS.fown _)) (fac (.lst (ek_TWrite.fown _)) (fac .int (fac (.lst (ek_TSeg.fown _)) (fac .int (fac .int (fac .int (fac .int (fac (.lst (ekI.fown _)) fan))))))))), fun _ => (.cons (ekS.fflag _).lst (.cons (ek_TWrite.fflag _).lst (.cons .refl (.cons (ek_TSeg.fflag _).lst (.cons .refl (.cons .refl (.cons .refl (.cons .refl (.cons (ekI.fflag _).lst .nil)))))))))⟩
structure TMail where
  Uid : Int
  Flags : Int
  Text : List UInt8
def enc_TMail (_ : Bool) (x : TMail) : List AV := [.int .i64 x.Uid, .int .i64 x.Flags, .str x.Text]
theorem sc_TMail (o : Bool) (x : TMail) : ∀ v ∈ enc_TMail o x, Scl v := (fac .int (fac .int (fac .str fan)))
theorem fk_TMail : FlatOk enc_TMail 3 := ⟨⟨fun _ _ => rfl, by omega, fun _ _ => (fac .int (fac .int (fac .str fan))), fun _ => (fac .int (fac .int (fac .str fan))), fun _ => (.cons .refl (.cons .refl (.cons .refl .nil)))⟩, fun _ => rfl, fun _ _ => (fac rfl (fac rfl (fac rfl fan))), fun _ _ => (fac rfl (fac rfl (fac rfl fan)))⟩
theorem ek_TMail : EncOk enc_TMail 3 := fk_TMail.toEncOk
structure TBox where
  Valid : Int
  User : List UInt8
  Name : List UInt8
  Next : Int
  Mails : List TMail
def enc_TBox (o : Bool) (x : TBox) : List AV := [.int .i64 x.Valid, .str x.User, .str x.Name, .int .i64 x.Next, .lst o 3 (fl (enc_TMail o) x.Mails) x.Mails.length]
theorem ek_TBox : EncOk enc_TBox 5 := ⟨fun _ _ => rfl, by omega, fun _ _ => (fac .int (fac .str (fac .str (fac .int (fac (.lst (ek_TMail.fdat _ _)) fan))))), fun _ => (fac .int (fac .str (fac .str (fac .int (fac (.lst (ek_TMail.fown _)) fan))))), fun _ => (.cons .refl (.cons .refl (.cons .refl (.cons .refl (.cons (ek_TMail.fflag _).lst .nil)))))⟩
structure TState where
  Boxes : List TBox
def enc_TState (o : Bool) (x : TState) : List AV := [.lst o 5 (fl (enc_TBox o) x.Boxes) x.Boxes.length]
theorem ek_TState : EncOk enc_TState 1 := ⟨fun _ _ => rfl, by omega, fun _ _ => (fac (.lst (ek_TBox.fdat _ _)) fan), fun _ => (fac (.lst (ek_TBox.fown _)) fan), fun _ => (.cons (ek_TBox.fflag _).lst .nil)⟩
structure TRef where
  No : Int
  Gen : Int
def enc_TRef (_ : Bool) (x : TRef) : List AV := [.int .i64 x.No, .int .i64 x.Gen]
theorem sc_TRef (o : Bool) (x : TRef) : ∀ v ∈ enc_TRef o x, Scl v := (fac .int (fac .int fan))
theorem fk_TRef : FlatOk enc_TRef 2 := ⟨⟨fun _ _ => rfl, by omega, fun _ _ => (fac .int (fac .int fan)), fun _ => (fac .int (fac .int fan)), fun _ => (.cons .refl (.cons .refl .nil))⟩, fun _ => rfl, fun _ _ => (fac rfl (fac rfl fan)), fun _ _ => (fac rfl (fac rfl fan))⟩
theorem ek_TRef : EncOk enc_TRef 2 := fk_TRef.toEncOk
structure TCheck where
  Stamp : Int
  NextGen : Int
  NextSeq : Int
  NextValid : Int
  Refs : List TRef
def enc_TCheck (o : Bool) (x : TCheck) : List AV := [.int .i64 x.Stamp, .int .i64 x.NextGen, .int .i64 x.NextSeq, .int .i64 x.NextValid, .lst o 2 (fl (enc_TRef o) x.Refs) x.Refs.length]
theorem ek_TCheck : EncOk enc_TCheck 5 := ⟨fun _ _ => rfl, by omega, fun _ _ => (fac .int (fac .int (fac .int (fac .int (fac (.lst (ek_TRef.fdat _ _)) fan))))), fun _ => (fac .int (fac .int (fac .int (fac .int (fac (.lst (ek_TRef.fown _)) fan))))), fun _ => (.cons .refl (.cons .refl (.cons .refl (.cons .refl (.cons (ek_TRef.fflag _).lst .nil)))))⟩
def wf_TWrite (x : TWrite) : Prop := ((Lit.int .i64 x.At).wf = true) ∧ (x.Text.length ≤ maxLen) ∧ True
def wf_TDisk (x : TDisk) : Prop := (x.Sectors.length ≤ maxLen ∧ ∀ a ∈ x.Sectors, a.length ≤ maxLen) ∧ (x.Cache.length ≤ maxLen ∧ ∀ a ∈ x.Cache, wf_TWrite a) ∧ True
def wf_TRec (x : TRec) : Prop := ((Lit.int .i64 x.Kind).wf = true) ∧ ((Lit.int .i64 x.Valid).wf = true) ∧ ((Lit.int .i64 x.Uid).wf = true) ∧ ((Lit.int .i64 x.Next).wf = true) ∧ ((Lit.int .i64 x.Flags).wf = true) ∧ (x.User.length ≤ maxLen) ∧ (x.Name.length ≤ maxLen) ∧ (x.Text.length ≤ maxLen) ∧ True
def wf_TItem (x : TItem) : Prop := ((Lit.int .i64 x.Seq).wf = true) ∧ (wf_TRec x.Rec) ∧ True
def wf_TSeg (x : TSeg) : Prop := ((Lit.int .i64 x.No).wf = true) ∧ ((Lit.int .i64 x.Gen).wf = true) ∧ ((Lit.int .i64 x.End).wf = true) ∧ (x.Items.length ≤ maxLen ∧ ∀ a ∈ x.Items, wf_TItem a) ∧ True
def wf_TLog (x : TLog) : Prop := (wf_TDisk x.Disk) ∧ ((Lit.int .i64 x.Segs).wf = true) ∧ (x.Used.length ≤ maxLen ∧ ∀ a ∈ x.Used, wf_TSeg a) ∧ ((Lit.int .i64 x.NextGen).wf = true) ∧ ((Lit.int .i64 x.NextSeq).wf = true) ∧ ((Lit.int .i64 x.Stamp).wf = true) ∧ ((Lit.int .i64 x.NextValid).wf = true) ∧ True
def wf_TFrame (x : TFrame) : Prop := ((Lit.int .i64 x.Gen).wf = true) ∧ ((Lit.int .i64 x.Seq).wf = true) ∧ (x.Body.length ≤ maxLen) ∧ True
def wf_TStore (x : TStore) : Prop := (wf_TLog x.Log) ∧ (x.Freed.length ≤ maxLen ∧ ∀ a ∈ x.Freed, (Lit.int .i64 a).wf = true) ∧ True
def wf_TMail (x : TMail) : Prop := ((Lit.int .i64 x.Uid).wf = true) ∧ ((Lit.int .i64 x.Flags).wf = true) ∧ (x.Text.length ≤ maxLen) ∧ True
def wf_TBox (x : TBox) : Prop := ((Lit.int .i64 x.Valid).wf = true) ∧ (x.User.length ≤ maxLen) ∧ (x.Name.length ≤ maxLen) ∧ ((Lit.int .i64 x.Next).wf = true) ∧ (x.Mails.length ≤ maxLen ∧ ∀ a ∈ x.Mails, wf_TMail a) ∧ True
def wf_TState (x : TState) : Prop := (x.Boxes.length ≤ maxLen ∧ ∀ a ∈ x.Boxes, wf_TBox a) ∧ True
def wf_TRef (x : TRef) : Prop := ((Lit.int .i64 x.No).wf = true) ∧ ((Lit.int .i64 x.Gen).wf = true) ∧ True
def wf_TCheck (x : TCheck) : Prop := ((Lit.int .i64 x.Stamp).wf = true) ∧ ((Lit.int .i64 x.NextGen).wf = true) ∧ ((Lit.int .i64 x.NextSeq).wf = true) ∧ ((Lit.int .i64 x.NextValid).wf = true) ∧ (x.Refs.length ≤ maxLen ∧ ∀ a ∈ x.Refs, wf_TRef a) ∧ True
end Go.Proofs.YtcehlicmghnghaaGreat.V
/- What the functions compute. -/
namespace Go.Proofs.YtcehlicmghnghaaGreat.V
open Go Go.Proofs Go.RowKit
set_option maxRecDepth 100000
noncomputable def S_laws_eqIntS_1 (x0 : List Int) (x1 : List Int) (s1 : Int) : Option (Int ⊕ (Bool ⊕ Unit)) :=
  (if decide (s1 < (x0.length : Int)) then (at? x0 s1).bind fun v3 => (at? x1 s1).bind fun v4 => (if (v3 != v4) then some (.inr (.inl false)) else some (.inl (w64 (s1 + 1)))) else some (.inr (.inr ())))
noncomputable def F_laws_eqIntS (x0 : List Int) (x1 : List Int) : Option Bool :=
  (if ((x0.length : Int) != (x1.length : Int)) then some false else (iter (S_laws_eqIntS_1 x0 x1) 0).bind (Sum.elim (fun r => some r) (fun y2 => some true)))
noncomputable def S_laws_eqStringS_1 (x0 : List (List UInt8)) (x1 : List (List UInt8)) (s1 : Int) : Option (Int ⊕ (Bool ⊕ Unit)) :=
  (if decide (s1 < (x0.length : Int)) then (at? x0 s1).bind fun v3 => (at? x1 s1).bind fun v4 => (if (!(v3 == v4)) then some (.inr (.inl false)) else some (.inl (w64 (s1 + 1)))) else some (.inr (.inr ())))
noncomputable def F_laws_eqStringS (x0 : List (List UInt8)) (x1 : List (List UInt8)) : Option Bool :=
  (if ((x0.length : Int) != (x1.length : Int)) then some false else (iter (S_laws_eqStringS_1 x0 x1) 0).bind (Sum.elim (fun r => some r) (fun y2 => some true)))
noncomputable def F_laws_eqWrite (x0 : TWrite) (x1 : TWrite) : Option Bool :=
  (if (x0.At != x1.At) then some false else (if (!(x0.Text == x1.Text)) then some false else some true))
noncomputable def S_laws_eqWriteS_1 (x0 : List TWrite) (x1 : List TWrite) (s1 : Int) : Option (Int ⊕ (Bool ⊕ Unit)) :=
  (if decide (s1 < (x0.length : Int)) then (at? x0 s1).bind fun v3 => (at? x1 s1).bind fun v4 => (F_laws_eqWrite v3 v4).bind fun v5 => (if v5 then some (.inl (w64 (s1 + 1))) else some (.inr (.inl false))) else some (.inr (.inr ())))
noncomputable def F_laws_eqWriteS (x0 : List TWrite) (x1 : List TWrite) : Option Bool :=
  (if ((x0.length : Int) != (x1.length : Int)) then some false else (iter (S_laws_eqWriteS_1 x0 x1) 0).bind (Sum.elim (fun r => some r) (fun y2 => some true)))
noncomputable def F_laws_eqDisk (x0 : TDisk) (x1 : TDisk) : Option Bool :=
  (F_laws_eqStringS x0.Sectors x1.Sectors).bind fun v1 => (if v1 then (F_laws_eqWriteS x0.Cache x1.Cache).bind fun v2 => (if v2 then some true else some false) else some false)
noncomputable def F_laws_eqRec (x0 : TRec) (x1 : TRec) : Option Bool :=
  (if (x0.Kind != x1.Kind) then some false else (if (x0.Valid != x1.Valid) then some false else (if (x0.Uid != x1.Uid) then some false else (if (x0.Next != x1.Next) then some false else (if (x0.Flags != x1.Flags) then some false else (if (!(x0.User == x1.User)) then some false else (if (!(x0.Name == x1.Name)) then some false else (if (!(x0.Text == x1.Text)) then some false else some true))))))))
noncomputable def F_laws_eqItem (x0 : TItem) (x1 : TItem) : Option Bool :=
  (if (x0.Seq != x1.Seq) then some false else (F_laws_eqRec x0.Rec x1.Rec).bind fun v1 => (if v1 then some true else some false))
noncomputable def S_laws_eqItemS_1 (x0 : List TItem) (x1 : List TItem) (s1 : Int) : Option (Int ⊕ (Bool ⊕ Unit)) :=
  (if decide (s1 < (x0.length : Int)) then (at? x0 s1).bind fun v3 => (at? x1 s1).bind fun v4 => (F_laws_eqItem v3 v4).bind fun v5 => (if v5 then some (.inl (w64 (s1 + 1))) else some (.inr (.inl false))) else some (.inr (.inr ())))
noncomputable def F_laws_eqItemS (x0 : List TItem) (x1 : List TItem) : Option Bool :=
  (if ((x0.length : Int) != (x1.length : Int)) then some false else (iter (S_laws_eqItemS_1 x0 x1) 0).bind (Sum.elim (fun r => some r) (fun y2 => some true)))
noncomputable def F_laws_eqSeg (x0 : TSeg) (x1 : TSeg) : Option Bool :=
  (if (x0.No != x1.No) then some false else (if (x0.Gen != x1.Gen) then some false else (if (x0.End != x1.End) then some false else (F_laws_eqItemS x0.Items x1.Items).bind fun v1 => (if v1 then some true else some false))))
noncomputable def S_laws_eqSegS_1 (x0 : List TSeg) (x1 : List TSeg) (s1 : Int) : Option (Int ⊕ (Bool ⊕ Unit)) :=
  (if decide (s1 < (x0.length : Int)) then (at? x0 s1).bind fun v3 => (at? x1 s1).bind fun v4 => (F_laws_eqSeg v3 v4).bind fun v5 => (if v5 then some (.inl (w64 (s1 + 1))) else some (.inr (.inl false))) else some (.inr (.inr ())))
noncomputable def F_laws_eqSegS (x0 : List TSeg) (x1 : List TSeg) : Option Bool :=
  (if ((x0.length : Int) != (x1.length : Int)) then some false else (iter (S_laws_eqSegS_1 x0 x1) 0).bind (Sum.elim (fun r => some r) (fun y2 => some true)))
noncomputable def F_laws_eqLog (x0 : TLog) (x1 : TLog) : Option Bool :=
  (F_laws_eqDisk x0.Disk x1.Disk).bind fun v1 => (if v1 then (if (x0.Segs != x1.Segs) then some false else (F_laws_eqSegS x0.Used x1.Used).bind fun v2 => (if v2 then (if (x0.NextGen != x1.NextGen) then some false else (if (x0.NextSeq != x1.NextSeq) then some false else (if (x0.Stamp != x1.Stamp) then some false else (if (x0.NextValid != x1.NextValid) then some false else some true)))) else some false)) else some false)
noncomputable def F_laws_eqStore (x0 : TStore) (x1 : TStore) : Option Bool :=
  (F_laws_eqLog x0.Log x1.Log).bind fun v1 => (if v1 then (F_laws_eqIntS x0.Freed x1.Freed).bind fun v2 => (if v2 then some true else some false) else some false)
noncomputable def S_laws_markText_1 (s1 : Int × (List UInt8)) : Option ((Int × (List UInt8)) ⊕ (List UInt8)) :=
  (if decide (s1.1 > 0) then (cat? ([IntKind.u8.wrap (w64 (48 + (Int.tmod s1.1 10)))].map ofI) s1.2).bind fun v3 => some (.inl (w64 (Int.tdiv s1.1 10), v3)) else some (.inr s1.2))
noncomputable def F_laws_markText (x0 : Int) : Option (List UInt8) :=
  (if decide (x0 ≤ 0) then some [109, 48] else (iter (S_laws_markText_1) (x0, [])).bind (fun y4 => (cat? [109] y4).bind fun v5 => some v5))
noncomputable def S_laws_markStringS_w_1 (s1 : Int × Int × (List (List UInt8))) : Option ((Int × Int × (List (List UInt8))) ⊕ (Int × (List (List UInt8)))) :=
  (if decide (s1.2.1 < (s1.2.2.length : Int)) then (F_laws_markText s1.1).bind fun v3 => (at? s1.2.2 s1.2.1).bind fun v4 => (some (set' s1.2.2 s1.2.1 v3)).bind fun v5 => some (.inl (w64 (s1.1 + 1), w64 (s1.2.1 + 1), v5)) else some (.inr (s1.1, s1.2.2)))
noncomputable def F_laws_markStringS_w (x0 : List (List UInt8)) (x1 : Int) : Option (Int × (List (List UInt8))) :=
  (iter (S_laws_markStringS_w_1) (x1, 0, x0)).bind (fun y6 => some (y6.1, y6.2))
noncomputable def S_laws_markWriteS_w_1 (s1 : Int × Int × (List TWrite)) : Option ((Int × Int × (List TWrite)) ⊕ (Int × (List TWrite))) :=
  (if decide (s1.2.1 < (s1.2.2.length : Int)) then (at? s1.2.2 s1.2.1).bind fun v3 => (some (set' s1.2.2 s1.2.1 ({ At := s1.1, Text := v3.Text } : TWrite))).bind fun v4 => (F_laws_markText (w64 (s1.1 + 1))).bind fun v5 => (at? v4 s1.2.1).bind fun v6 => (some (set' v4 s1.2.1 ({ At := v6.At, Text := v5 } : TWrite))).bind fun v7 => some (.inl (w64 ((w64 (s1.1 + 1)) + 1), w64 (s1.2.1 + 1), v7)) else some (.inr (s1.1, s1.2.2)))
noncomputable def F_laws_markWriteS_w (x0 : List TWrite) (x1 : Int) : Option (Int × (List TWrite)) :=
  (iter (S_laws_markWriteS_w_1) (x1, 0, x0)).bind (fun y8 => some (y8.1, y8.2))
noncomputable def F_laws_markDisk_w (x0 : List (List UInt8)) (x1 : List TWrite) (x2 : Int) : Option (Int × (List (List UInt8)) × (List TWrite)) :=
  (guardO (fun r => x0.length = r.2.length) (F_laws_markStringS_w x0 x2)).bind fun v1 => (guardO (fun r => x1.length = r.2.length) (F_laws_markWriteS_w x1 v1.1)).bind fun v2 => some (v2.1, v1.2, v2.2)
noncomputable def S_laws_markItemS_w_1 (s1 : Int × Int × (List TItem)) : Option ((Int × Int × (List TItem)) ⊕ (Int × (List TItem))) :=
  (if decide (s1.2.1 < (s1.2.2.length : Int)) then (at? s1.2.2 s1.2.1).bind fun v3 => (some (set' s1.2.2 s1.2.1 ({ Seq := s1.1, Rec := v3.Rec } : TItem))).bind fun v4 => (at? v4 s1.2.1).bind fun v5 => (some (set' v4 s1.2.1 ({ Seq := v5.Seq, Rec := ({ Kind := w64 (s1.1 + 1), Valid := v5.Rec.Valid, Uid := v5.Rec.Uid, Next := v5.Rec.Next, Flags := v5.Rec.Flags, User := v5.Rec.User, Name := v5.Rec.Name, Text := v5.Rec.Text } : TRec) } : TItem))).bind fun v6 => (at? v6 s1.2.1).bind fun v7 => (some (set' v6 s1.2.1 ({ Seq := v7.Seq, Rec := ({ Kind := v7.Rec.Kind, Valid := w64 ((w64 (s1.1 + 1)) + 1), Uid := v7.Rec.Uid, Next := v7.Rec.Next, Flags := v7.Rec.Flags, User := v7.Rec.User, Name := v7.Rec.Name, Text := v7.Rec.Text } : TRec) } : TItem))).bind fun v8 => (at? v8 s1.2.1).bind fun v9 => (some (set' v8 s1.2.1 ({ Seq := v9.Seq, Rec := ({ Kind := v9.Rec.Kind, Valid := v9.Rec.Valid, Uid := w64 ((w64 ((w64 (s1.1 + 1)) + 1)) + 1), Next := v9.Rec.Next, Flags := v9.Rec.Flags, User := v9.Rec.User, Name := v9.Rec.Name, Text := v9.Rec.Text } : TRec) } : TItem))).bind fun v10 => (at? v10 s1.2.1).bind fun v11 => (some (set' v10 s1.2.1 ({ Seq := v11.Seq, Rec := ({ Kind := v11.Rec.Kind, Valid := v11.Rec.Valid, Uid := v11.Rec.Uid, Next := w64 ((w64 ((w64 ((w64 (s1.1 + 1)) + 1)) + 1)) + 1), Flags := v11.Rec.Flags, User := v11.Rec.User, Name := v11.Rec.Name, Text := v11.Rec.Text } : TRec) } : TItem))).bind fun v12 => (at? v12 s1.2.1).bind fun v13 => (some (set' v12 s1.2.1 ({ Seq := v13.Seq, Rec := ({ Kind := v13.Rec.Kind, Valid := v13.Rec.Valid, Uid := v13.Rec.Uid, Next := v13.Rec.Next, Flags := w64 ((w64 ((w64 ((w64 ((w64 (s1.1 + 1)) + 1)) + 1)) + 1)) + 1), User := v13.Rec.User, Name := v13.Rec.Name, Text := v13.Rec.Text } : TRec) } : TItem))).bind fun v14 => (F_laws_markText (w64 ((w64 ((w64 ((w64 ((w64 ((w64 (s1.1 + 1)) + 1)) + 1)) + 1)) + 1)) + 1))).bind fun v15 => (at? v14 s1.2.1).bind fun v16 => (some (set' v14 s1.2.1 ({ Seq := v16.Seq, Rec := ({ Kind := v16.Rec.Kind, Valid := v16.Rec.Valid, Uid := v16.Rec.Uid, Next := v16.Rec.Next, Flags := v16.Rec.Flags, User := v15, Name := v16.Rec.Name, Text := v16.Rec.Text } : TRec) } : TItem))).bind fun v17 => (F_laws_markText (w64 ((w64 ((w64 ((w64 ((w64 ((w64 ((w64 (s1.1 + 1)) + 1)) + 1)) + 1)) + 1)) + 1)) + 1))).bind fun v18 => (at? v17 s1.2.1).bind fun v19 => (some (set' v17 s1.2.1 ({ Seq := v19.Seq, Rec := ({ Kind := v19.Rec.Kind, Valid := v19.Rec.Valid, Uid := v19.Rec.Uid, Next := v19.Rec.Next, Flags := v19.Rec.Flags, User := v19.Rec.User, Name := v18, Text := v19.Rec.Text } : TRec) } : TItem))).bind fun v20 => (F_laws_markText (w64 ((w64 ((w64 ((w64 ((w64 ((w64 ((w64 ((w64 (s1.1 + 1)) + 1)) + 1)) + 1)) + 1)) + 1)) + 1)) + 1))).bind fun v21 => (at? v20 s1.2.1).bind fun v22 => (some (set' v20 s1.2.1 ({ Seq := v22.Seq, Rec := ({ Kind := v22.Rec.Kind, Valid := v22.Rec.Valid, Uid := v22.Rec.Uid, Next := v22.Rec.Next, Flags := v22.Rec.Flags, User := v22.Rec.User, Name := v22.Rec.Name, Text := v21 } : TRec) } : TItem))).bind fun v23 => some (.inl (w64 ((w64 ((w64 ((w64 ((w64 ((w64 ((w64 ((w64 ((w64 (s1.1 + 1)) + 1)) + 1)) + 1)) + 1)) + 1)) + 1)) + 1)) + 1), w64 (s1.2.1 + 1), v23)) else some (.inr (s1.1, s1.2.2)))
noncomputable def F_laws_markItemS_w (x0 : List TItem) (x1 : Int) : Option (Int × (List TItem)) :=
  (iter (S_laws_markItemS_w_1) (x1, 0, x0)).bind (fun y24 => some (y24.1, y24.2))
noncomputable def S_laws_markSegS_w_1 (s1 : Int × Int × (List TSeg)) : Option ((Int × Int × (List TSeg)) ⊕ (Int × (List TSeg))) :=
  (if decide (s1.2.1 < (s1.2.2.length : Int)) then (at? s1.2.2 s1.2.1).bind fun v3 => (some (set' s1.2.2 s1.2.1 ({ No := s1.1, Gen := v3.Gen, End := v3.End, Items := v3.Items } : TSeg))).bind fun v4 => (at? v4 s1.2.1).bind fun v5 => (some (set' v4 s1.2.1 ({ No := v5.No, Gen := w64 (s1.1 + 1), End := v5.End, Items := v5.Items } : TSeg))).bind fun v6 => (at? v6 s1.2.1).bind fun v7 => (some (set' v6 s1.2.1 ({ No := v7.No, Gen := v7.Gen, End := w64 ((w64 (s1.1 + 1)) + 1), Items := v7.Items } : TSeg))).bind fun v8 => (at? v8 s1.2.1).bind fun v9 => (guardO (fun r => v9.Items.length = r.2.length) (F_laws_markItemS_w v9.Items (w64 ((w64 ((w64 (s1.1 + 1)) + 1)) + 1)))).bind fun v10 => (some (set' v8 s1.2.1 ({ No := v9.No, Gen := v9.Gen, End := v9.End, Items := v10.2 } : TSeg))).bind fun v11 => some (.inl (v10.1, w64 (s1.2.1 + 1), v11)) else some (.inr (s1.1, s1.2.2)))
noncomputable def F_laws_markSegS_w (x0 : List TSeg) (x1 : Int) : Option (Int × (List TSeg)) :=
  (iter (S_laws_markSegS_w_1) (x1, 0, x0)).bind (fun y12 => some (y12.1, y12.2))
noncomputable def F_laws_markLog_w (x0 : List (List UInt8)) (x1 : List TWrite) (x2 : Int) (x3 : List TSeg) (x4 : Int) (x5 : Int) (x6 : Int) (x7 : Int) (x8 : Int) : Option (Int × (List (List UInt8)) × (List TWrite) × (List TSeg)) :=
  (guardO (fun r => x0.length = r.2.1.length ∧ x1.length = r.2.2.length) (F_laws_markDisk_w x0 x1 x8)).bind fun v1 => (guardO (fun r => x3.length = r.2.length) (F_laws_markSegS_w x3 v1.1)).bind fun v2 => some (v2.1, v1.2.1, v1.2.2, v2.2)
noncomputable def S_laws_markIntS_w_1 (s1 : Int × Int × (List Int)) : Option ((Int × Int × (List Int)) ⊕ (Int × (List Int))) :=
  (if decide (s1.2.1 < (s1.2.2.length : Int)) then (at? s1.2.2 s1.2.1).bind fun v3 => (some (set' s1.2.2 s1.2.1 s1.1)).bind fun v4 => some (.inl (w64 (s1.1 + 1), w64 (s1.2.1 + 1), v4)) else some (.inr (s1.1, s1.2.2)))
noncomputable def F_laws_markIntS_w (x0 : List Int) (x1 : Int) : Option (Int × (List Int)) :=
  (iter (S_laws_markIntS_w_1) (x1, 0, x0)).bind (fun y5 => some (y5.1, y5.2))
noncomputable def F_laws_markStore_w (x0 : List (List UInt8)) (x1 : List TWrite) (x2 : Int) (x3 : List TSeg) (x4 : Int) (x5 : Int) (x6 : Int) (x7 : Int) (x8 : List Int) (x9 : Int) : Option (Int × (List (List UInt8)) × (List TWrite) × (List TSeg) × (List Int)) :=
  (guardO (fun r => x0.length = r.2.1.length ∧ x1.length = r.2.2.1.length ∧ x3.length = r.2.2.2.length) (F_laws_markLog_w x0 x1 x2 x3 x4 x5 x6 x7 x9)).bind fun v1 => (guardO (fun r => x8.length = r.2.length) (F_laws_markIntS_w x8 v1.1)).bind fun v2 => some (v2.1, v1.2.1, v1.2.2.1, v1.2.2.2, v2.2)
noncomputable def S_laws_szStringS_1 (x0 : List (List UInt8)) (s1 : Int × Int) : Option ((Int × Int) ⊕ (Int ⊕ Int)) :=
  (if decide (s1.2 < (x0.length : Int)) then (at? x0 s1.2).bind fun v3 => (if decide ((w64 (s1.1 - (v3.length : Int))) < 0) then some (.inr (.inl (-1))) else some (.inl (w64 (s1.1 - (v3.length : Int)), w64 (s1.2 + 1)))) else some (.inr (.inr s1.1)))
noncomputable def F_laws_szStringS (x0 : List (List UInt8)) (x1 : Int) : Option Int :=
  (if decide ((w64 (x1 - (x0.length : Int))) < 0) then some (-1) else (iter (S_laws_szStringS_1 x0) (w64 (x1 - (x0.length : Int)), 0)).bind (Sum.elim (fun r => some r) (fun y2 => some y2)))
noncomputable def F_laws_szWrite (x0 : TWrite) (x1 : Int) : Option Int :=
  (if decide ((w64 (x1 - (x0.Text.length : Int))) < 0) then some (-1) else some (w64 (x1 - (x0.Text.length : Int))))
noncomputable def S_laws_szWriteS_1 (x0 : List TWrite) (s1 : Int × Int) : Option ((Int × Int) ⊕ (Int ⊕ Int)) :=
  (if decide (s1.2 < (x0.length : Int)) then (at? x0 s1.2).bind fun v3 => (F_laws_szWrite v3 s1.1).bind fun v4 => (if decide (v4 < 0) then some (.inr (.inl (-1))) else some (.inl (v4, w64 (s1.2 + 1)))) else some (.inr (.inr s1.1)))
noncomputable def F_laws_szWriteS (x0 : List TWrite) (x1 : Int) : Option Int :=
  (if decide ((w64 (x1 - (x0.length : Int))) < 0) then some (-1) else (iter (S_laws_szWriteS_1 x0) (w64 (x1 - (x0.length : Int)), 0)).bind (Sum.elim (fun r => some r) (fun y2 => some y2)))
noncomputable def F_laws_szDisk (x0 : TDisk) (x1 : Int) : Option Int :=
  (F_laws_szStringS x0.Sectors x1).bind fun v1 => (if decide (v1 < 0) then some (-1) else (F_laws_szWriteS x0.Cache v1).bind fun v2 => (if decide (v2 < 0) then some (-1) else some v2))
noncomputable def F_laws_szRec (x0 : TRec) (x1 : Int) : Option Int :=
  (if decide ((w64 (x1 - (x0.User.length : Int))) < 0) then some (-1) else (if decide ((w64 ((w64 (x1 - (x0.User.length : Int))) - (x0.Name.length : Int))) < 0) then some (-1) else (if decide ((w64 ((w64 ((w64 (x1 - (x0.User.length : Int))) - (x0.Name.length : Int))) - (x0.Text.length : Int))) < 0) then some (-1) else some (w64 ((w64 ((w64 (x1 - (x0.User.length : Int))) - (x0.Name.length : Int))) - (x0.Text.length : Int))))))
noncomputable def F_laws_szItem (x0 : TItem) (x1 : Int) : Option Int :=
  (F_laws_szRec x0.Rec x1).bind fun v1 => (if decide (v1 < 0) then some (-1) else some v1)
noncomputable def S_laws_szItemS_1 (x0 : List TItem) (s1 : Int × Int) : Option ((Int × Int) ⊕ (Int ⊕ Int)) :=
  (if decide (s1.2 < (x0.length : Int)) then (at? x0 s1.2).bind fun v3 => (F_laws_szItem v3 s1.1).bind fun v4 => (if decide (v4 < 0) then some (.inr (.inl (-1))) else some (.inl (v4, w64 (s1.2 + 1)))) else some (.inr (.inr s1.1)))
noncomputable def F_laws_szItemS (x0 : List TItem) (x1 : Int) : Option Int :=
  (if decide ((w64 (x1 - (x0.length : Int))) < 0) then some (-1) else (iter (S_laws_szItemS_1 x0) (w64 (x1 - (x0.length : Int)), 0)).bind (Sum.elim (fun r => some r) (fun y2 => some y2)))
noncomputable def F_laws_szSeg (x0 : TSeg) (x1 : Int) : Option Int :=
  (F_laws_szItemS x0.Items x1).bind fun v1 => (if decide (v1 < 0) then some (-1) else some v1)
noncomputable def S_laws_szSegS_1 (x0 : List TSeg) (s1 : Int × Int) : Option ((Int × Int) ⊕ (Int ⊕ Int)) :=
  (if decide (s1.2 < (x0.length : Int)) then (at? x0 s1.2).bind fun v3 => (F_laws_szSeg v3 s1.1).bind fun v4 => (if decide (v4 < 0) then some (.inr (.inl (-1))) else some (.inl (v4, w64 (s1.2 + 1)))) else some (.inr (.inr s1.1)))
noncomputable def F_laws_szSegS (x0 : List TSeg) (x1 : Int) : Option Int :=
  (if decide ((w64 (x1 - (x0.length : Int))) < 0) then some (-1) else (iter (S_laws_szSegS_1 x0) (w64 (x1 - (x0.length : Int)), 0)).bind (Sum.elim (fun r => some r) (fun y2 => some y2)))
noncomputable def F_laws_szLog (x0 : TLog) (x1 : Int) : Option Int :=
  (F_laws_szDisk x0.Disk x1).bind fun v1 => (if decide (v1 < 0) then some (-1) else (F_laws_szSegS x0.Used v1).bind fun v2 => (if decide (v2 < 0) then some (-1) else some v2))
noncomputable def F_laws_szIntS (x0 : List Int) (x1 : Int) : Option Int :=
  (if decide ((w64 (x1 - (x0.length : Int))) < 0) then some (-1) else some (w64 (x1 - (x0.length : Int))))
noncomputable def F_laws_szStore (x0 : TStore) (x1 : Int) : Option Int :=
  (F_laws_szLog x0.Log x1).bind fun v1 => (if decide (v1 < 0) then some (-1) else (F_laws_szIntS x0.Freed v1).bind fun v2 => (if decide (v2 < 0) then some (-1) else some v2))
noncomputable def F_spec_l01In (x0 : Int) (x1 : Int) (x2 : Int) : Option Bool :=
  (if decide (x0 ≥ x1) then some (decide (x0 ≤ x2)) else some false)
noncomputable def S_spec_WordOk_1 (x0 : List UInt8) (s1 : Int) : Option (Int ⊕ (Bool ⊕ Unit)) :=
  (if decide (s1 < (x0.length : Int)) then ((bt? x0 s1).bind fun v4 => (if decide ((v4.toNat : Int) < 97) then some true else (bt? x0 s1).bind fun v5 => (if decide ((v5.toNat : Int) > 122) then some true else some false)) : Option Bool).bind (fun y3 => (if y3 then some (.inr (.inl false)) else some (.inl (w64 (s1 + 1))))) else some (.inr (.inr ())))
noncomputable def F_spec_WordOk (x0 : List UInt8) : Option Bool :=
  (iter (S_spec_WordOk_1 x0) 0).bind (Sum.elim (fun r => some r) (fun y2 => (F_spec_l01In (x0.length : Int) 1 8).bind fun v7 => some v7))
noncomputable def F_spec_RecOk (x0 : TRec) : Option Bool :=
  ((F_spec_l01In x0.Kind 1 5).bind fun v2 => (if v2 then (F_spec_l01In x0.Valid 1 9999).bind fun v3 => (if v3 then some false else some true) else some true) : Option Bool).bind (fun y1 => (if y1 then some false else (if (x0.Kind == 1) then ((if (x0.Kind == 3) then some true else (if (x0.Kind == 4) then some true else (if (x0.Kind == 5) then some true else some false))) : Option Bool).bind (fun y11 => ((if (x0.Kind == 3) then some true else (if (x0.Kind == 4) then some true else some false)) : Option Bool).bind (fun y12 => ((F_spec_WordOk x0.User).bind fun v14 => (if v14 then (F_spec_WordOk x0.Name).bind fun v15 => (if v15 then (F_spec_l01In x0.Next 1 10000).bind fun v16 => (if v16 then some false else some true) else some true) else some true) : Option Bool).bind (fun y13 => (if y13 then some false else ((if y11 then (F_spec_l01In x0.Uid 1 9999).bind fun v18 => (if v18 then some false else some true) else (if (x0.Uid != 0) then some true else some false)) : Option Bool).bind (fun y17 => (if y17 then some false else ((if y12 then (F_spec_l01In x0.Flags 0 7).bind fun v20 => (if v20 then some false else some true) else (if (x0.Flags != 0) then some true else some false)) : Option Bool).bind (fun y19 => (if y19 then some false else (if (x0.Kind == 3) then some (decide ((x0.Text.length : Int) ≤ 100)) else some (x0.Text == [])))))))))) else ((if (x0.Kind == 3) then some true else (if (x0.Kind == 4) then some true else (if (x0.Kind == 5) then some true else some false))) : Option Bool).bind (fun y4 => ((if (x0.Kind == 3) then some true else (if (x0.Kind == 4) then some true else some false)) : Option Bool).bind (fun y5 => ((if (!(x0.User == [])) then some true else (if (!(x0.Name == [])) then some true else (if (x0.Next != 0) then some true else some false))) : Option Bool).bind (fun y6 => (if y6 then some false else ((if y4 then (F_spec_l01In x0.Uid 1 9999).bind fun v8 => (if v8 then some false else some true) else (if (x0.Uid != 0) then some true else some false)) : Option Bool).bind (fun y7 => (if y7 then some false else ((if y5 then (F_spec_l01In x0.Flags 0 7).bind fun v10 => (if v10 then some false else some true) else (if (x0.Flags != 0) then some true else some false)) : Option Bool).bind (fun y9 => (if y9 then some false else (if (x0.Kind == 3) then some (decide ((x0.Text.length : Int) ≤ 100)) else some (x0.Text == [])))))))))))))
noncomputable def S_spec_ItemsOk_2 (x0 : List TItem) (s1 : Int) (s8 : Int) : Option (Int ⊕ (Bool ⊕ Unit)) :=
  (if decide (s8 < s1) then ((at? x0 s8).bind fun v11 => (at? x0 s1).bind fun v12 => (if (v11.Seq == v12.Seq) then (at? x0 s8).bind fun v13 => (at? x0 s1).bind fun v14 => (if !(v13.Seq == v14.Seq && (v13.Rec.Kind == v14.Rec.Kind && (v13.Rec.Valid == v14.Rec.Valid && (v13.Rec.Uid == v14.Rec.Uid && (v13.Rec.Next == v14.Rec.Next && (v13.Rec.Flags == v14.Rec.Flags && (v13.Rec.User == v14.Rec.User && (v13.Rec.Name == v14.Rec.Name && (v13.Rec.Text == v14.Rec.Text && true))))))))) then some true else some false) else some false) : Option Bool).bind (fun y10 => (if y10 then some (.inr (.inl false)) else some (.inl (w64 (s8 + 1))))) else some (.inr (.inr ())))
noncomputable def S_spec_ItemsOk_1 (x0 : List TItem) (s1 : Int) : Option (Int ⊕ (Bool ⊕ Unit)) :=
  (if decide (s1 < (x0.length : Int)) then ((at? x0 s1).bind fun v4 => (F_spec_l01In v4.Seq 1 1000000000).bind fun v5 => (if v5 then (at? x0 s1).bind fun v6 => (F_spec_RecOk v6.Rec).bind fun v7 => (if v7 then some false else some true) else some true) : Option Bool).bind (fun y3 => (if y3 then some (.inr (.inl false)) else (iter (S_spec_ItemsOk_2 x0 s1) 0).bind (Sum.elim (fun r => some (.inr (.inl r))) (fun y9 => some (.inl (w64 (s1 + 1))))))) else some (.inr (.inr ())))
noncomputable def F_spec_ItemsOk (x0 : List TItem) : Option Bool :=
  (iter (S_spec_ItemsOk_1 x0) 0).bind (Sum.elim (fun r => some r) (fun y2 => some (decide ((x0.length : Int) ≤ 200))))
noncomputable def S_spec_l07Best_1 (x0 : List TItem) (x1 : Int) (x2 : Int) (x3 : Int) (s1 : Bool × Int × Int × Int × Int × Int × Int × Int × (List UInt8) × (List UInt8) × (List UInt8)) : Option ((Bool × Int × Int × Int × Int × Int × Int × Int × (List UInt8) × (List UInt8) × (List UInt8)) ⊕ (Bool × Int × Int × Int × Int × Int × Int × (List UInt8) × (List UInt8) × (List UInt8))) :=
  (if decide (s1.2.1 < (x0.length : Int)) then (at? x0 s1.2.1).bind fun v3 => ((if (v3.Rec.Kind == x1) then (if (v3.Rec.Valid == x2) then (if (v3.Rec.Uid == x3) then (if !s1.1 then some true else (if decide (v3.Seq > s1.2.2.1) then some true else some false)) else some false) else some false) else some false) : Option Bool).bind (fun y4 => (if y4 then some (.inl (true, w64 (s1.2.1 + 1), v3.Seq, v3.Rec.Kind, v3.Rec.Valid, v3.Rec.Uid, v3.Rec.Next, v3.Rec.Flags, v3.Rec.User, v3.Rec.Name, v3.Rec.Text)) else some (.inl (s1.1, w64 (s1.2.1 + 1), s1.2.2.1, s1.2.2.2.1, s1.2.2.2.2.1, s1.2.2.2.2.2.1, s1.2.2.2.2.2.2.1, s1.2.2.2.2.2.2.2.1, s1.2.2.2.2.2.2.2.2.1, s1.2.2.2.2.2.2.2.2.2.1, s1.2.2.2.2.2.2.2.2.2.2)))) else some (.inr (s1.1, s1.2.2.1, s1.2.2.2.1, s1.2.2.2.2.1, s1.2.2.2.2.2.1, s1.2.2.2.2.2.2.1, s1.2.2.2.2.2.2.2.1, s1.2.2.2.2.2.2.2.2.1, s1.2.2.2.2.2.2.2.2.2.1, s1.2.2.2.2.2.2.2.2.2.2)))
noncomputable def F_spec_l07Best (x0 : List TItem) (x1 : Int) (x2 : Int) (x3 : Int) : Option (TItem × Bool) :=
  (iter (S_spec_l07Best_1 x0 x1 x2 x3) (false, 0, 0, 0, 0, 0, 0, 0, [], [], [])).bind (fun y5 => some (({ Seq := y5.2.1, Rec := ({ Kind := y5.2.2.1, Valid := y5.2.2.2.1, Uid := y5.2.2.2.2.1, Next := y5.2.2.2.2.2.1, Flags := y5.2.2.2.2.2.2.1, User := y5.2.2.2.2.2.2.2.1, Name := y5.2.2.2.2.2.2.2.2.1, Text := y5.2.2.2.2.2.2.2.2.2 } : TRec) } : TItem), y5.1))
noncomputable def S_spec_l07Sorted_2 (x0 : List Int) (x1 : Int) (s8 : Int × (List Int)) : Option ((Int × (List Int)) ⊕ (List Int)) :=
  (if decide (s8.1 < (x0.length : Int)) then (at? x0 s8.1).bind fun v10 => (if decide (v10 > x1) then (at? x0 s8.1).bind fun v11 => (app? 8 s8.2 [v11]).bind fun v12 => some (.inl (w64 (s8.1 + 1), v12)) else some (.inl (w64 (s8.1 + 1), s8.2))) else some (.inr s8.2))
noncomputable def S_spec_l07Sorted_1 (x0 : List Int) (x1 : Int) (s1 : Int × (List Int)) : Option ((Int × (List Int)) ⊕ (List Int)) :=
  (if decide (s1.1 < (x0.length : Int)) then (at? x0 s1.1).bind fun v3 => (if decide (v3 < x1) then (at? x0 s1.1).bind fun v4 => (app? 8 s1.2 [v4]).bind fun v5 => some (.inl (w64 (s1.1 + 1), v5)) else some (.inl (w64 (s1.1 + 1), s1.2))) else some (.inr s1.2))
noncomputable def F_spec_l07Sorted (x0 : List Int) (x1 : Int) : Option (List Int) :=
  (iter (S_spec_l07Sorted_1 x0 x1) (0, ([] : List Int))).bind (fun y6 => (app? 8 y6 [x1]).bind fun v7 => (iter (S_spec_l07Sorted_2 x0 x1) (0, v7)).bind (fun y13 => some y13))
noncomputable def S_spec_l07Tell_1 (x0 : List TItem) (x1 : Int) (s1 : Int × Int × Int × Int × Int × Int × Int × (List UInt8) × (List UInt8) × (List UInt8)) : Option ((Int × Int × Int × Int × Int × Int × Int × (List UInt8) × (List UInt8) × (List UInt8)) ⊕ (Int × Int × Int × Int × Int × Int × (List UInt8) × (List UInt8) × (List UInt8))) :=
  (if decide (s1.1 < (x0.length : Int)) then (at? x0 s1.1).bind fun v3 => ((if (v3.Rec.Kind != 1) then some true else (if (v3.Rec.Valid != x1) then some true else some false)) : Option Bool).bind (fun y4 => (if y4 then some (.inl (w64 (s1.1 + 1), s1.2.1, s1.2.2.1, s1.2.2.2.1, s1.2.2.2.2.1, s1.2.2.2.2.2.1, s1.2.2.2.2.2.2.1, s1.2.2.2.2.2.2.2.1, s1.2.2.2.2.2.2.2.2.1, s1.2.2.2.2.2.2.2.2.2)) else ((if (s1.2.1 == 0) then some true else (if decide (v3.Rec.Next > s1.2.2.2.2.2.1) then some true else (if (v3.Rec.Next == s1.2.2.2.2.2.1) then (if decide (v3.Seq > s1.2.1) then some true else some false) else some false))) : Option Bool).bind (fun y5 => (if y5 then some (.inl (w64 (s1.1 + 1), v3.Seq, v3.Rec.Kind, v3.Rec.Valid, v3.Rec.Uid, v3.Rec.Next, v3.Rec.Flags, v3.Rec.User, v3.Rec.Name, v3.Rec.Text)) else some (.inl (w64 (s1.1 + 1), s1.2.1, s1.2.2.1, s1.2.2.2.1, s1.2.2.2.2.1, s1.2.2.2.2.2.1, s1.2.2.2.2.2.2.1, s1.2.2.2.2.2.2.2.1, s1.2.2.2.2.2.2.2.2.1, s1.2.2.2.2.2.2.2.2.2)))))) else some (.inr (s1.2.1, s1.2.2.1, s1.2.2.2.1, s1.2.2.2.2.1, s1.2.2.2.2.2.1, s1.2.2.2.2.2.2.1, s1.2.2.2.2.2.2.2.1, s1.2.2.2.2.2.2.2.2.1, s1.2.2.2.2.2.2.2.2.2)))
noncomputable def F_spec_l07Tell (x0 : List TItem) (x1 : Int) : Option TItem :=
  (iter (S_spec_l07Tell_1 x0 x1) (0, 0, 0, 0, 0, 0, 0, [], [], [])).bind (fun y6 => some ({ Seq := y6.1, Rec := ({ Kind := y6.2.1, Valid := y6.2.2.1, Uid := y6.2.2.2.1, Next := y6.2.2.2.2.1, Flags := y6.2.2.2.2.2.1, User := y6.2.2.2.2.2.2.1, Name := y6.2.2.2.2.2.2.2.1, Text := y6.2.2.2.2.2.2.2.2 } : TRec) } : TItem))
noncomputable def S_spec_l07Next_1 (x0 : List TItem) (x1 : Int) (s1 : Int × Int) : Option ((Int × Int) ⊕ Int) :=
  (if decide (s1.2 < (x0.length : Int)) then (at? x0 s1.2).bind fun v3 => (if (v3.Rec.Valid != x1) then some (.inl (s1.1, w64 (s1.2 + 1))) else ((if (v3.Rec.Kind == 1) then some v3.Rec.Next else (if (v3.Rec.Kind == 3) then some (w64 (v3.Rec.Uid + 1)) else (if (v3.Rec.Kind == 5) then some (w64 (v3.Rec.Uid + 1)) else some 0))) : Option Int).bind (fun y4 => (if decide (y4 > s1.1) then some (.inl (y4, w64 (s1.2 + 1))) else some (.inl (s1.1, w64 (s1.2 + 1)))))) else some (.inr s1.1))
noncomputable def F_spec_l07Next (x0 : List TItem) (x1 : Int) : Option Int :=
  (iter (S_spec_l07Next_1 x0 x1) (1, 0)).bind (fun y5 => some y5)
noncomputable def S_spec_l07Mails_2 (x0 : List TItem) (x1 : Int) (y7 : (List Int)) (s8 : Int × (List TMail)) : Option ((Int × (List TMail)) ⊕ (List TMail)) :=
  (if decide (s8.1 < (y7.length : Int)) then (at? y7 s8.1).bind fun v10 => (F_spec_l07Best x0 3 x1 v10).bind fun v11 => (at? y7 s8.1).bind fun v12 => (at? y7 s8.1).bind fun v13 => (F_spec_l07Best x0 4 x1 v13).bind fun v14 => ((if v14.2 then some v14.1.Rec.Flags else some v11.1.Rec.Flags) : Option Int).bind (fun y15 => (app? 32 s8.2 [({ Uid := v12, Flags := y15, Text := v11.1.Rec.Text } : TMail)]).bind fun v16 => some (.inl (w64 (s8.1 + 1), v16))) else some (.inr s8.2))
noncomputable def S_spec_l07Mails_1 (x0 : List TItem) (x1 : Int) (s1 : Int × (List Int)) : Option ((Int × (List Int)) ⊕ (List Int)) :=
  (if decide (s1.1 < (x0.length : Int)) then (at? x0 s1.1).bind fun v3 => (F_spec_l07Best x0 5 x1 v3.Rec.Uid).bind fun v4 => ((if (v3.Rec.Kind == 3) then (if (v3.Rec.Valid == x1) then some (!v4.2) else some false) else some false) : Option Bool).bind (fun y5 => (if y5 then (F_spec_l07Sorted s1.2 v3.Rec.Uid).bind fun v6 => some (.inl (w64 (s1.1 + 1), v6)) else some (.inl (w64 (s1.1 + 1), s1.2)))) else some (.inr s1.2))
noncomputable def F_spec_l07Mails (x0 : List TItem) (x1 : Int) : Option (List TMail) :=
  (iter (S_spec_l07Mails_1 x0 x1) (0, ([] : List Int))).bind (fun y7 => (iter (S_spec_l07Mails_2 x0 x1 y7) (0, ([] : List TMail))).bind (fun y17 => some y17))
noncomputable def S_spec_StateOf_2 (x0 : List TItem) (y7 : (List Int)) (s8 : Int × (List TBox)) : Option ((Int × (List TBox)) ⊕ (List TBox)) :=
  (if decide (s8.1 < (y7.length : Int)) then (at? y7 s8.1).bind fun v10 => (F_spec_l07Tell x0 v10).bind fun v11 => (at? y7 s8.1).bind fun v12 => (at? y7 s8.1).bind fun v13 => (F_spec_l07Next x0 v13).bind fun v14 => (at? y7 s8.1).bind fun v15 => (F_spec_l07Mails x0 v15).bind fun v16 => (app? 72 s8.2 [({ Valid := v12, User := v11.Rec.User, Name := v11.Rec.Name, Next := v14, Mails := v16 } : TBox)]).bind fun v17 => some (.inl (w64 (s8.1 + 1), v17)) else some (.inr s8.2))
noncomputable def S_spec_StateOf_1 (x0 : List TItem) (s2 : Int × (List Int)) : Option ((Int × (List Int)) ⊕ (List Int)) :=
  (if decide (s2.1 < (x0.length : Int)) then (at? x0 s2.1).bind fun v4 => (F_spec_l07Best x0 2 v4.Rec.Valid 0).bind fun v5 => (if (v4.Rec.Kind == 1) then (if !v5.2 then (F_spec_l07Sorted s2.2 v4.Rec.Valid).bind fun v6 => some (.inl (w64 (s2.1 + 1), v6)) else some (.inl (w64 (s2.1 + 1), s2.2))) else some (.inl (w64 (s2.1 + 1), s2.2))) else some (.inr s2.2))
noncomputable def F_spec_StateOf (x0 : List TItem) : Option TState :=
  (F_spec_ItemsOk x0).bind fun v1 => (if v1 then (iter (S_spec_StateOf_1 x0) (0, ([] : List Int))).bind (fun y7 => (iter (S_spec_StateOf_2 x0 y7) (0, ([] : List TBox))).bind (fun y18 => some ({ Boxes := y18 } : TState))) else some ({ Boxes := [] } : TState))
noncomputable def S_spec_ItemsOf_1 (x0 : TLog) (s1 : Int × (List TItem)) : Option ((Int × (List TItem)) ⊕ (List TItem)) :=
  (if decide (s1.1 < (x0.Used.length : Int)) then (at? x0.Used s1.1).bind fun v3 => (app? 96 s1.2 v3.Items).bind fun v4 => some (.inl (w64 (s1.1 + 1), v4)) else some (.inr s1.2))
noncomputable def F_spec_ItemsOf (x0 : TLog) : Option (List TItem) :=
  (iter (S_spec_ItemsOf_1 x0) (0, ([] : List TItem))).bind (fun y5 => some y5)
noncomputable def F_spec_StateNow (x0 : TStore) : Option TState :=
  (F_spec_ItemsOf x0.Log).bind fun v1 => (F_spec_StateOf v1).bind fun v2 => some ({ Boxes := v2.Boxes } : TState)
noncomputable def F_laws_toRec (x0 : TRec) : Option TRec :=
  some x0
noncomputable def F_laws_toItem (x0 : TItem) : Option TItem :=
  (F_laws_toRec x0.Rec).bind fun v1 => some ({ Seq := x0.Seq, Rec := v1 } : TItem)
noncomputable def S_laws_toItemS_1 (x0 : List TItem) (s2 : Int × (List TItem)) : Option ((Int × (List TItem)) ⊕ (List TItem)) :=
  (if decide (s2.1 < (x0.length : Int)) then (at? x0 s2.1).bind fun v4 => (F_laws_toItem v4).bind fun v5 => (at? s2.2 s2.1).bind fun v6 => (some (set' s2.2 s2.1 v5)).bind fun v7 => some (.inl (w64 (s2.1 + 1), v7)) else some (.inr s2.2))
noncomputable def F_laws_toItemS (x0 : List TItem) : Option (List TItem) :=
  (mk? 96 (({ Seq := 0, Rec := ({ Kind := 0, Valid := 0, Uid := 0, Next := 0, Flags := 0, User := [], Name := [], Text := [] } : TRec) } : TItem) : TItem) (x0.length : Int)).bind fun v1 => (iter (S_laws_toItemS_1 x0) (0, v1)).bind (fun y8 => some y8)
noncomputable def F_laws_toSeg (x0 : TSeg) : Option TSeg :=
  (F_laws_toItemS x0.Items).bind fun v1 => some ({ No := x0.No, Gen := x0.Gen, End := x0.End, Items := v1 } : TSeg)
noncomputable def S_laws_toSegS_1 (x0 : List TSeg) (s2 : Int × (List TSeg)) : Option ((Int × (List TSeg)) ⊕ (List TSeg)) :=
  (if decide (s2.1 < (x0.length : Int)) then (at? x0 s2.1).bind fun v4 => (F_laws_toSeg v4).bind fun v5 => (at? s2.2 s2.1).bind fun v6 => (some (set' s2.2 s2.1 ({ No := v5.No, Gen := v5.Gen, End := v5.End, Items := v5.Items } : TSeg))).bind fun v7 => some (.inl (w64 (s2.1 + 1), v7)) else some (.inr s2.2))
noncomputable def F_laws_toSegS (x0 : List TSeg) : Option (List TSeg) :=
  (mk? 48 (({ No := 0, Gen := 0, End := 0, Items := [] } : TSeg) : TSeg) (x0.length : Int)).bind fun v1 => (iter (S_laws_toSegS_1 x0) (0, v1)).bind (fun y8 => some y8)
noncomputable def S_laws_toStringS_1 (x0 : List (List UInt8)) (s2 : Int × (List (List UInt8))) : Option ((Int × (List (List UInt8))) ⊕ (List (List UInt8))) :=
  (if decide (s2.1 < (x0.length : Int)) then (at? x0 s2.1).bind fun v4 => (at? s2.2 s2.1).bind fun v5 => (some (set' s2.2 s2.1 v4)).bind fun v6 => some (.inl (w64 (s2.1 + 1), v6)) else some (.inr s2.2))
noncomputable def F_laws_toStringS (x0 : List (List UInt8)) : Option (List (List UInt8)) :=
  (mk? 16 ([] : List UInt8) (x0.length : Int)).bind fun v1 => (iter (S_laws_toStringS_1 x0) (0, v1)).bind (fun y7 => some y7)
noncomputable def F_laws_toWrite (x0 : TWrite) : Option TWrite :=
  some x0
noncomputable def S_laws_toWriteS_1 (x0 : List TWrite) (s2 : Int × (List TWrite)) : Option ((Int × (List TWrite)) ⊕ (List TWrite)) :=
  (if decide (s2.1 < (x0.length : Int)) then (at? x0 s2.1).bind fun v4 => (F_laws_toWrite v4).bind fun v5 => (at? s2.2 s2.1).bind fun v6 => (some (set' s2.2 s2.1 v5)).bind fun v7 => some (.inl (w64 (s2.1 + 1), v7)) else some (.inr s2.2))
noncomputable def F_laws_toWriteS (x0 : List TWrite) : Option (List TWrite) :=
  (mk? 24 (({ At := 0, Text := [] } : TWrite) : TWrite) (x0.length : Int)).bind fun v1 => (iter (S_laws_toWriteS_1 x0) (0, v1)).bind (fun y8 => some y8)
noncomputable def F_laws_toDisk (x0 : TDisk) : Option TDisk :=
  (F_laws_toStringS x0.Sectors).bind fun v1 => (F_laws_toWriteS x0.Cache).bind fun v2 => some ({ Sectors := v1, Cache := v2 } : TDisk)
noncomputable def F_laws_toLog (x0 : TLog) : Option TLog :=
  (F_laws_toDisk x0.Disk).bind fun v1 => (F_laws_toSegS x0.Used).bind fun v2 => some ({ Disk := ({ Sectors := v1.Sectors, Cache := v1.Cache } : TDisk), Segs := x0.Segs, Used := v2, NextGen := x0.NextGen, NextSeq := x0.NextSeq, Stamp := x0.Stamp, NextValid := x0.NextValid } : TLog)
noncomputable def S_laws_toIntS_1 (x0 : List Int) (s2 : Int × (List Int)) : Option ((Int × (List Int)) ⊕ (List Int)) :=
  (if decide (s2.1 < (x0.length : Int)) then (at? x0 s2.1).bind fun v4 => (at? s2.2 s2.1).bind fun v5 => (some (set' s2.2 s2.1 v4)).bind fun v6 => some (.inl (w64 (s2.1 + 1), v6)) else some (.inr s2.2))
noncomputable def F_laws_toIntS (x0 : List Int) : Option (List Int) :=
  (mk? 8 (0 : Int) (x0.length : Int)).bind fun v1 => (iter (S_laws_toIntS_1 x0) (0, v1)).bind (fun y7 => some y7)
noncomputable def F_laws_toStore (x0 : TStore) : Option TStore :=
  (F_laws_toLog x0.Log).bind fun v1 => (F_laws_toIntS x0.Freed).bind fun v2 => some ({ Log := ({ Disk := ({ Sectors := v1.Disk.Sectors, Cache := v1.Disk.Cache } : TDisk), Segs := v1.Segs, Used := v1.Used, NextGen := v1.NextGen, NextSeq := v1.NextSeq, Stamp := v1.Stamp, NextValid := v1.NextValid } : TLog), Freed := v2 } : TStore)
noncomputable def F_impl_in (x0 : Int) (x1 : Int) (x2 : Int) : Option Bool :=
  (if decide (x0 ≥ x1) then some (decide (x0 ≤ x2)) else some false)
noncomputable def S_impl_WordOk_1 (x0 : List UInt8) (s2 : Int) : Option (Int ⊕ (Bool ⊕ Unit)) :=
  (if decide (s2 < (x0.length : Int)) then ((bt? x0 s2).bind fun v5 => (if decide ((v5.toNat : Int) < 97) then some true else (bt? x0 s2).bind fun v6 => (if decide ((v6.toNat : Int) > 122) then some true else some false)) : Option Bool).bind (fun y4 => (if y4 then some (.inr (.inl false)) else some (.inl (w64 (s2 + 1))))) else some (.inr (.inr ())))
noncomputable def F_impl_WordOk (x0 : List UInt8) : Option Bool :=
  (F_impl_in (x0.length : Int) 1 8).bind fun v1 => (if v1 then (iter (S_impl_WordOk_1 x0) 0).bind (Sum.elim (fun r => some r) (fun y3 => some true)) else some false)
noncomputable def F_impl_RecOk (x0 : TRec) : Option Bool :=
  (F_impl_in x0.Valid 1 9999).bind fun v1 => (if v1 then ((if (x0.Kind == 3) then some true else (if (x0.Kind == 4) then some true else (if (x0.Kind == 5) then some true else some false))) : Option Bool).bind (fun y2 => ((if y2 then (F_impl_in x0.Uid 1 9999).bind fun v4 => (if v4 then some (true, 0) else some (false, 0)) else some (true, x0.Uid)) : Option (Bool × Int)).bind (fun y3 => ((if (x0.Kind == 3) then some true else (if (x0.Kind == 4) then some true else some false)) : Option Bool).bind (fun y5 => ((if y5 then ((if y3.1 then (F_impl_in x0.Flags 0 7).bind fun v8 => (if v8 then some true else some false) else some false) : Option Bool).bind (fun y7 => some (y7, 0)) else some (y3.1, x0.Flags)) : Option (Bool × Int)).bind (fun y6 => ((if (x0.Kind == 1) then ((F_impl_WordOk x0.User).bind fun v12 => (if v12 then (F_impl_WordOk x0.Name).bind fun v13 => (if v13 then (F_impl_in x0.Next 1 10000).bind fun v14 => (if v14 then some true else some false) else some false) else some false) : Option Bool).bind (fun y11 => some (.inr (y11, 0, [], [], x0.Text))) else (if (x0.Kind == 3) then ((if y6.1 then (if decide ((x0.Text.length : Int) ≤ 100) then some true else some false) else some false) : Option Bool).bind (fun y10 => some (.inr (y10, x0.Next, x0.User, x0.Name, []))) else (if (x0.Kind == 2) then some (.inr (y6.1, x0.Next, x0.User, x0.Name, x0.Text)) else (if (x0.Kind == 4) then some (.inr (y6.1, x0.Next, x0.User, x0.Name, x0.Text)) else (if (x0.Kind == 5) then some (.inr (y6.1, x0.Next, x0.User, x0.Name, x0.Text)) else some (.inl false)))))) : Option (Bool ⊕ (Bool × Int × (List UInt8) × (List UInt8) × (List UInt8)))).bind (Sum.elim (fun r => some r) (fun y9_ => (if y9_.1 then some (0 == 0 && (0 == 0 && (y3.2 == 0 && (y9_.2.1 == 0 && (y6.2 == 0 && (y9_.2.2.1 == [] && (y9_.2.2.2.1 == [] && (y9_.2.2.2.2 == [] && true)))))))) else some false))))))) else some false)
noncomputable def F_impl_ItemsOk_1_w (x0 : TItem) (x1 : TItem) : Option Bool :=
  (if (x0.Seq == x1.Seq) then some (!(x0.Seq == x1.Seq && (x0.Rec.Kind == x1.Rec.Kind && (x0.Rec.Valid == x1.Rec.Valid && (x0.Rec.Uid == x1.Rec.Uid && (x0.Rec.Next == x1.Rec.Next && (x0.Rec.Flags == x1.Rec.Flags && (x0.Rec.User == x1.Rec.User && (x0.Rec.Name == x1.Rec.Name && (x0.Rec.Text == x1.Rec.Text && true)))))))))) else some false)
noncomputable def S_slices_IndexFunc_Item_ItemsOk_1_1 (x0 : List TItem) (x1 : TItem) (s1 : Int) : Option (Int ⊕ (Int ⊕ Unit)) :=
  (if decide (s1 < (x0.length : Int)) then (at? x0 s1).bind fun v3 => (F_impl_ItemsOk_1_w v3 x1).bind fun v4 => (if v4 then some (.inr (.inl s1)) else some (.inl (w64 (s1 + 1)))) else some (.inr (.inr ())))
noncomputable def F_slices_IndexFunc_Item_ItemsOk_1 (x0 : List TItem) (x1 : TItem) : Option Int :=
  (iter (S_slices_IndexFunc_Item_ItemsOk_1_1 x0 x1) 0).bind (Sum.elim (fun r => some r) (fun y2 => some (-1)))
noncomputable def F_slices_ContainsFunc_Item_ItemsOk_1 (x0 : List TItem) (x1 : TItem) : Option Bool :=
  (F_slices_IndexFunc_Item_ItemsOk_1 x0 x1).bind fun v1 => some (decide (v1 ≥ 0))
noncomputable def S_impl_ItemsOk_1 (x0 : List TItem) (s1 : Int) : Option (Int ⊕ (Bool ⊕ Unit)) :=
  (if decide (s1 < (x0.length : Int)) then (at? x0 s1).bind fun v3 => ((F_impl_in v3.Seq 1 1000000000).bind fun v5 => (if v5 then (F_impl_RecOk v3.Rec).bind fun v6 => (if v6 then some false else some true) else some true) : Option Bool).bind (fun y4 => (if y4 then some (.inr (.inl false)) else (sub? x0 0 s1).bind fun v7 => (F_slices_ContainsFunc_Item_ItemsOk_1 v7 v3).bind fun v8 => (if v8 then some (.inr (.inl false)) else some (.inl (w64 (s1 + 1)))))) else some (.inr (.inr ())))
noncomputable def F_impl_ItemsOk (x0 : List TItem) : Option Bool :=
  (if decide ((x0.length : Int) > 200) then some false else (iter (S_impl_ItemsOk_1 x0) 0).bind (Sum.elim (fun r => some r) (fun y2 => some true)))
noncomputable def F_impl_StateOf_1 (x0 : TRec) : Option (Int × Bool) :=
  some (x0.Valid, (x0.Kind == 1))
noncomputable def S_impl_numbers_StateOf_1_1 (x0 : List TItem) (s1 : Int × (List Int)) : Option ((Int × (List Int)) ⊕ (List Int)) :=
  (if decide (s1.1 < (x0.length : Int)) then (at? x0 s1.1).bind fun v3 => (F_impl_StateOf_1 v3.Rec).bind fun v4 => (if v4.2 then (app? 8 s1.2 [v4.1]).bind fun v5 => some (.inl (w64 (s1.1 + 1), v5)) else some (.inl (w64 (s1.1 + 1), s1.2))) else some (.inr s1.2))
noncomputable def F_impl_numbers_StateOf_1 (x0 : List TItem) : Option (List Int) :=
  (iter (S_impl_numbers_StateOf_1_1 x0) (0, ([] : List Int))).bind (fun y6 => (sort? y6).bind fun v7 => (comp? v7).bind fun v8 => some v8)
noncomputable def F_impl_about (x0 : TRec) (x1 : Int) (x2 : Int) : Option Bool :=
  (if (x0.Kind == x1) then some (x0.Valid == x2) else some false)
noncomputable def F_impl_boxThere_1_w (x0 : TRec) (x1 : Int) : Option Bool :=
  (F_impl_about x0 2 x1).bind fun v1 => some v1
noncomputable def F_impl_bySeq (x0 : TItem) (x1 : TItem) : Option Bool :=
  some (decide (x0.Seq < x1.Seq))
noncomputable def S_impl_latest_boxThere_1_bySeq_1 (x0 : List TItem) (x1 : Int) (s1 : Bool × Int × Int × Int × Int × Int × Int × Int × (List UInt8) × (List UInt8) × (List UInt8)) : Option ((Bool × Int × Int × Int × Int × Int × Int × Int × (List UInt8) × (List UInt8) × (List UInt8)) ⊕ (Bool × Int × Int × Int × Int × Int × Int × (List UInt8) × (List UInt8) × (List UInt8))) :=
  (if decide (s1.2.1 < (x0.length : Int)) then (at? x0 s1.2.1).bind fun v3 => ((F_impl_boxThere_1_w v3.Rec x1).bind fun v5 => (if v5 then (if !s1.1 then some true else (F_impl_bySeq ({ Seq := s1.2.2.1, Rec := ({ Kind := s1.2.2.2.1, Valid := s1.2.2.2.2.1, Uid := s1.2.2.2.2.2.1, Next := s1.2.2.2.2.2.2.1, Flags := s1.2.2.2.2.2.2.2.1, User := s1.2.2.2.2.2.2.2.2.1, Name := s1.2.2.2.2.2.2.2.2.2.1, Text := s1.2.2.2.2.2.2.2.2.2.2 } : TRec) } : TItem) v3).bind fun v6 => (if v6 then some true else some false)) else some false) : Option Bool).bind (fun y4 => (if y4 then some (.inl (true, w64 (s1.2.1 + 1), v3.Seq, v3.Rec.Kind, v3.Rec.Valid, v3.Rec.Uid, v3.Rec.Next, v3.Rec.Flags, v3.Rec.User, v3.Rec.Name, v3.Rec.Text)) else some (.inl (s1.1, w64 (s1.2.1 + 1), s1.2.2.1, s1.2.2.2.1, s1.2.2.2.2.1, s1.2.2.2.2.2.1, s1.2.2.2.2.2.2.1, s1.2.2.2.2.2.2.2.1, s1.2.2.2.2.2.2.2.2.1, s1.2.2.2.2.2.2.2.2.2.1, s1.2.2.2.2.2.2.2.2.2.2)))) else some (.inr (s1.1, s1.2.2.1, s1.2.2.2.1, s1.2.2.2.2.1, s1.2.2.2.2.2.1, s1.2.2.2.2.2.2.1, s1.2.2.2.2.2.2.2.1, s1.2.2.2.2.2.2.2.2.1, s1.2.2.2.2.2.2.2.2.2.1, s1.2.2.2.2.2.2.2.2.2.2)))
noncomputable def F_impl_latest_boxThere_1_bySeq (x0 : List TItem) (x1 : Int) : Option (TItem × Bool) :=
  (iter (S_impl_latest_boxThere_1_bySeq_1 x0 x1) (false, 0, 0, 0, 0, 0, 0, 0, [], [], [])).bind (fun y7 => some (({ Seq := y7.2.1, Rec := ({ Kind := y7.2.2.1, Valid := y7.2.2.2.1, Uid := y7.2.2.2.2.1, Next := y7.2.2.2.2.2.1, Flags := y7.2.2.2.2.2.2.1, User := y7.2.2.2.2.2.2.2.1, Name := y7.2.2.2.2.2.2.2.2.1, Text := y7.2.2.2.2.2.2.2.2.2 } : TRec) } : TItem), y7.1))
noncomputable def F_impl_boxThere_2_w (x0 : TRec) (x1 : Int) : Option Bool :=
  (F_impl_about x0 1 x1).bind fun v1 => some v1
noncomputable def F_impl_byNext (x0 : TItem) (x1 : TItem) : Option Bool :=
  (if (x0.Rec.Next != x1.Rec.Next) then some (decide (x0.Rec.Next < x1.Rec.Next)) else some (decide (x0.Seq < x1.Seq)))
noncomputable def S_impl_latest_boxThere_2_byNext_1 (x0 : List TItem) (x1 : Int) (s1 : Bool × Int × Int × Int × Int × Int × Int × Int × (List UInt8) × (List UInt8) × (List UInt8)) : Option ((Bool × Int × Int × Int × Int × Int × Int × Int × (List UInt8) × (List UInt8) × (List UInt8)) ⊕ (Bool × Int × Int × Int × Int × Int × Int × (List UInt8) × (List UInt8) × (List UInt8))) :=
  (if decide (s1.2.1 < (x0.length : Int)) then (at? x0 s1.2.1).bind fun v3 => ((F_impl_boxThere_2_w v3.Rec x1).bind fun v5 => (if v5 then (if !s1.1 then some true else (F_impl_byNext ({ Seq := s1.2.2.1, Rec := ({ Kind := s1.2.2.2.1, Valid := s1.2.2.2.2.1, Uid := s1.2.2.2.2.2.1, Next := s1.2.2.2.2.2.2.1, Flags := s1.2.2.2.2.2.2.2.1, User := s1.2.2.2.2.2.2.2.2.1, Name := s1.2.2.2.2.2.2.2.2.2.1, Text := s1.2.2.2.2.2.2.2.2.2.2 } : TRec) } : TItem) v3).bind fun v6 => (if v6 then some true else some false)) else some false) : Option Bool).bind (fun y4 => (if y4 then some (.inl (true, w64 (s1.2.1 + 1), v3.Seq, v3.Rec.Kind, v3.Rec.Valid, v3.Rec.Uid, v3.Rec.Next, v3.Rec.Flags, v3.Rec.User, v3.Rec.Name, v3.Rec.Text)) else some (.inl (s1.1, w64 (s1.2.1 + 1), s1.2.2.1, s1.2.2.2.1, s1.2.2.2.2.1, s1.2.2.2.2.2.1, s1.2.2.2.2.2.2.1, s1.2.2.2.2.2.2.2.1, s1.2.2.2.2.2.2.2.2.1, s1.2.2.2.2.2.2.2.2.2.1, s1.2.2.2.2.2.2.2.2.2.2)))) else some (.inr (s1.1, s1.2.2.1, s1.2.2.2.1, s1.2.2.2.2.1, s1.2.2.2.2.2.1, s1.2.2.2.2.2.2.1, s1.2.2.2.2.2.2.2.1, s1.2.2.2.2.2.2.2.2.1, s1.2.2.2.2.2.2.2.2.2.1, s1.2.2.2.2.2.2.2.2.2.2)))
noncomputable def F_impl_latest_boxThere_2_byNext (x0 : List TItem) (x1 : Int) : Option (TItem × Bool) :=
  (iter (S_impl_latest_boxThere_2_byNext_1 x0 x1) (false, 0, 0, 0, 0, 0, 0, 0, [], [], [])).bind (fun y7 => some (({ Seq := y7.2.1, Rec := ({ Kind := y7.2.2.1, Valid := y7.2.2.2.1, Uid := y7.2.2.2.2.1, Next := y7.2.2.2.2.2.1, Flags := y7.2.2.2.2.2.2.1, User := y7.2.2.2.2.2.2.2.1, Name := y7.2.2.2.2.2.2.2.2.1, Text := y7.2.2.2.2.2.2.2.2.2 } : TRec) } : TItem), y7.1))
noncomputable def F_impl_boxThere (x0 : List TItem) (x1 : Int) : Option (TItem × Bool) :=
  (F_impl_latest_boxThere_1_bySeq x0 x1).bind fun v1 => (if v1.2 then some (({ Seq := 0, Rec := ({ Kind := 0, Valid := 0, Uid := 0, Next := 0, Flags := 0, User := [], Name := [], Text := [] } : TRec) } : TItem), false) else (F_impl_latest_boxThere_2_byNext x0 x1).bind fun v2 => some (v2.1, v2.2))
noncomputable def F_impl_boxState_1_w (x0 : TRec) (x1c0 : Int) : Option (Int × Bool) :=
  (F_impl_about x0 3 x1c0).bind fun v1 => (if v1 then some (x0.Uid, true) else (F_impl_about x0 5 x1c0).bind fun v2 => some (x0.Uid, v2))
noncomputable def S_impl_numbers_boxState_1_1 (x0 : List TItem) (x1ac0 : Int) (s1 : Int × (List Int)) : Option ((Int × (List Int)) ⊕ (List Int)) :=
  (if decide (s1.1 < (x0.length : Int)) then (at? x0 s1.1).bind fun v3 => (F_impl_boxState_1_w v3.Rec x1ac0).bind fun v4 => (if v4.2 then (app? 8 s1.2 [v4.1]).bind fun v5 => some (.inl (w64 (s1.1 + 1), v5)) else some (.inl (w64 (s1.1 + 1), s1.2))) else some (.inr s1.2))
noncomputable def F_impl_numbers_boxState_1 (x0 : List TItem) (x1ac0 : Int) : Option (List Int) :=
  (iter (S_impl_numbers_boxState_1_1 x0 x1ac0) (0, ([] : List Int))).bind (fun y6 => (sort? y6).bind fun v7 => (comp? v7).bind fun v8 => some v8)
noncomputable def F_impl_mailItem_1_w (x0 : TRec) (x1 : Int) (x2 : Int) (x3 : Int) : Option Bool :=
  (F_impl_about x0 x1 x2).bind fun v1 => (if v1 then some (x0.Uid == x3) else some false)
noncomputable def S_impl_latest_mailItem_1_bySeq_1 (x0 : List TItem) (x1 : Int) (x2 : Int) (x3 : Int) (s1 : Bool × Int × Int × Int × Int × Int × Int × Int × (List UInt8) × (List UInt8) × (List UInt8)) : Option ((Bool × Int × Int × Int × Int × Int × Int × Int × (List UInt8) × (List UInt8) × (List UInt8)) ⊕ (Bool × Int × Int × Int × Int × Int × Int × (List UInt8) × (List UInt8) × (List UInt8))) :=
  (if decide (s1.2.1 < (x0.length : Int)) then (at? x0 s1.2.1).bind fun v3 => ((F_impl_mailItem_1_w v3.Rec x1 x2 x3).bind fun v5 => (if v5 then (if !s1.1 then some true else (F_impl_bySeq ({ Seq := s1.2.2.1, Rec := ({ Kind := s1.2.2.2.1, Valid := s1.2.2.2.2.1, Uid := s1.2.2.2.2.2.1, Next := s1.2.2.2.2.2.2.1, Flags := s1.2.2.2.2.2.2.2.1, User := s1.2.2.2.2.2.2.2.2.1, Name := s1.2.2.2.2.2.2.2.2.2.1, Text := s1.2.2.2.2.2.2.2.2.2.2 } : TRec) } : TItem) v3).bind fun v6 => (if v6 then some true else some false)) else some false) : Option Bool).bind (fun y4 => (if y4 then some (.inl (true, w64 (s1.2.1 + 1), v3.Seq, v3.Rec.Kind, v3.Rec.Valid, v3.Rec.Uid, v3.Rec.Next, v3.Rec.Flags, v3.Rec.User, v3.Rec.Name, v3.Rec.Text)) else some (.inl (s1.1, w64 (s1.2.1 + 1), s1.2.2.1, s1.2.2.2.1, s1.2.2.2.2.1, s1.2.2.2.2.2.1, s1.2.2.2.2.2.2.1, s1.2.2.2.2.2.2.2.1, s1.2.2.2.2.2.2.2.2.1, s1.2.2.2.2.2.2.2.2.2.1, s1.2.2.2.2.2.2.2.2.2.2)))) else some (.inr (s1.1, s1.2.2.1, s1.2.2.2.1, s1.2.2.2.2.1, s1.2.2.2.2.2.1, s1.2.2.2.2.2.2.1, s1.2.2.2.2.2.2.2.1, s1.2.2.2.2.2.2.2.2.1, s1.2.2.2.2.2.2.2.2.2.1, s1.2.2.2.2.2.2.2.2.2.2)))
noncomputable def F_impl_latest_mailItem_1_bySeq (x0 : List TItem) (x1 : Int) (x2 : Int) (x3 : Int) : Option (TItem × Bool) :=
  (iter (S_impl_latest_mailItem_1_bySeq_1 x0 x1 x2 x3) (false, 0, 0, 0, 0, 0, 0, 0, [], [], [])).bind (fun y7 => some (({ Seq := y7.2.1, Rec := ({ Kind := y7.2.2.1, Valid := y7.2.2.2.1, Uid := y7.2.2.2.2.1, Next := y7.2.2.2.2.2.1, Flags := y7.2.2.2.2.2.2.1, User := y7.2.2.2.2.2.2.2.1, Name := y7.2.2.2.2.2.2.2.2.1, Text := y7.2.2.2.2.2.2.2.2.2 } : TRec) } : TItem), y7.1))
noncomputable def F_impl_mailItem (x0 : List TItem) (x1 : Int) (x2 : Int) (x3 : Int) : Option (TItem × Bool) :=
  (F_impl_latest_mailItem_1_bySeq x0 x1 x2 x3).bind fun v1 => some (v1.1, v1.2)
noncomputable def F_impl_mailThere (x0 : List TItem) (x1 : Int) (x2 : Int) : Option (TItem × Bool) :=
  (F_impl_boxThere x0 x1).bind fun v1 => (if !v1.2 then some (({ Seq := 0, Rec := ({ Kind := 0, Valid := 0, Uid := 0, Next := 0, Flags := 0, User := [], Name := [], Text := [] } : TRec) } : TItem), false) else (F_impl_mailItem x0 5 x1 x2).bind fun v2 => (if v2.2 then some (({ Seq := 0, Rec := ({ Kind := 0, Valid := 0, Uid := 0, Next := 0, Flags := 0, User := [], Name := [], Text := [] } : TRec) } : TItem), false) else (F_impl_mailItem x0 3 x1 x2).bind fun v3 => some (v3.1, v3.2)))
noncomputable def S_impl_boxState_1 (x0 : List TItem) (x1 : TItem) (v1 : List Int) (s2 : Int × Int × (List TMail)) : Option ((Int × Int × (List TMail)) ⊕ (Int × (List TMail))) :=
  (if decide (s2.1 < (v1.length : Int)) then (at? v1 s2.1).bind fun v4 => (F_impl_mailThere x0 x1.Rec.Valid v4).bind fun v5 => (if !v5.2 then some (.inl (w64 (s2.1 + 1), (if w64 (v4 + 1) > s2.2.1 then w64 (v4 + 1) else s2.2.1), s2.2.2)) else (F_impl_mailItem x0 4 x1.Rec.Valid v4).bind fun v6 => ((if v6.2 then some v6.1.Rec.Flags else some v5.1.Rec.Flags) : Option Int).bind (fun y7 => (app? 32 s2.2.2 [({ Uid := v4, Flags := y7, Text := v5.1.Rec.Text } : TMail)]).bind fun v8 => some (.inl (w64 (s2.1 + 1), (if w64 (v4 + 1) > s2.2.1 then w64 (v4 + 1) else s2.2.1), v8)))) else some (.inr (s2.2.1, s2.2.2)))
noncomputable def F_impl_boxState (x0 : List TItem) (x1 : TItem) : Option TBox :=
  (F_impl_numbers_boxState_1 x0 x1.Rec.Valid).bind fun v1 => (iter (S_impl_boxState_1 x0 x1 v1) (0, x1.Rec.Next, ([] : List TMail))).bind (fun y9 => some ({ Valid := x1.Rec.Valid, User := x1.Rec.User, Name := x1.Rec.Name, Next := y9.1, Mails := y9.2 } : TBox))
noncomputable def S_impl_StateOf_1 (x0 : List TItem) (v2 : List Int) (s3 : Int × (List TBox)) : Option ((Int × (List TBox)) ⊕ (List TBox)) :=
  (if decide (s3.1 < (v2.length : Int)) then (at? v2 s3.1).bind fun v5 => (F_impl_boxThere x0 v5).bind fun v6 => (if v6.2 then (F_impl_boxState x0 v6.1).bind fun v7 => (app? 72 s3.2 [({ Valid := v7.Valid, User := v7.User, Name := v7.Name, Next := v7.Next, Mails := v7.Mails } : TBox)]).bind fun v8 => some (.inl (w64 (s3.1 + 1), v8)) else some (.inl (w64 (s3.1 + 1), s3.2))) else some (.inr s3.2))
noncomputable def F_impl_StateOf (x0 : List TItem) : Option TState :=
  (F_impl_ItemsOk x0).bind fun v1 => (if v1 then (F_impl_numbers_StateOf_1 x0).bind fun v2 => (iter (S_impl_StateOf_1 x0 v2) (0, ([] : List TBox))).bind (fun y9 => some ({ Boxes := y9 } : TState)) else some ({ Boxes := [] } : TState))
noncomputable def S_impl_ItemsOf_1 (x0 : TLog) (s1 : Int × (List TItem)) : Option ((Int × (List TItem)) ⊕ (List TItem)) :=
  (if decide (s1.1 < (x0.Used.length : Int)) then (at? x0.Used s1.1).bind fun v3 => (app? 96 s1.2 v3.Items).bind fun v4 => some (.inl (w64 (s1.1 + 1), v4)) else some (.inr s1.2))
noncomputable def F_impl_ItemsOf (x0 : TLog) : Option (List TItem) :=
  (iter (S_impl_ItemsOf_1 x0) (0, ([] : List TItem))).bind (fun y5 => some y5)
noncomputable def F_impl_StateNow (x0 : TStore) : Option TState :=
  (F_impl_ItemsOf x0.Log).bind fun v1 => (F_impl_StateOf v1).bind fun v2 => some ({ Boxes := v2.Boxes } : TState)
noncomputable def F_laws_eqMail (x0 : TMail) (x1 : TMail) : Option Bool :=
  (if (x0.Uid != x1.Uid) then some false else (if (x0.Flags != x1.Flags) then some false else (if (!(x0.Text == x1.Text)) then some false else some true)))
noncomputable def S_laws_eqMailS_1 (x0 : List TMail) (x1 : List TMail) (s1 : Int) : Option (Int ⊕ (Bool ⊕ Unit)) :=
  (if decide (s1 < (x0.length : Int)) then (at? x0 s1).bind fun v3 => (at? x1 s1).bind fun v4 => (F_laws_eqMail v3 v4).bind fun v5 => (if v5 then some (.inl (w64 (s1 + 1))) else some (.inr (.inl false))) else some (.inr (.inr ())))
noncomputable def F_laws_eqMailS (x0 : List TMail) (x1 : List TMail) : Option Bool :=
  (if ((x0.length : Int) != (x1.length : Int)) then some false else (iter (S_laws_eqMailS_1 x0 x1) 0).bind (Sum.elim (fun r => some r) (fun y2 => some true)))
noncomputable def F_laws_eqBox (x0 : TBox) (x1 : TBox) : Option Bool :=
  (if (x0.Valid != x1.Valid) then some false else (if (!(x0.User == x1.User)) then some false else (if (!(x0.Name == x1.Name)) then some false else (if (x0.Next != x1.Next) then some false else (F_laws_eqMailS x0.Mails x1.Mails).bind fun v1 => (if v1 then some true else some false)))))
noncomputable def S_laws_eqBoxS_1 (x0 : List TBox) (x1 : List TBox) (s1 : Int) : Option (Int ⊕ (Bool ⊕ Unit)) :=
  (if decide (s1 < (x0.length : Int)) then (at? x0 s1).bind fun v3 => (at? x1 s1).bind fun v4 => (F_laws_eqBox v3 v4).bind fun v5 => (if v5 then some (.inl (w64 (s1 + 1))) else some (.inr (.inl false))) else some (.inr (.inr ())))
noncomputable def F_laws_eqBoxS (x0 : List TBox) (x1 : List TBox) : Option Bool :=
  (if ((x0.length : Int) != (x1.length : Int)) then some false else (iter (S_laws_eqBoxS_1 x0 x1) 0).bind (Sum.elim (fun r => some r) (fun y2 => some true)))
noncomputable def F_laws_eqState (x0 : TState) (x1 : TState) : Option Bool :=
  (F_laws_eqBoxS x0.Boxes x1.Boxes).bind fun v1 => (if v1 then some true else some false)
noncomputable def S_laws_markMailS_w_1 (s1 : Int × Int × (List TMail)) : Option ((Int × Int × (List TMail)) ⊕ (Int × (List TMail))) :=
  (if decide (s1.2.1 < (s1.2.2.length : Int)) then (at? s1.2.2 s1.2.1).bind fun v3 => (some (set' s1.2.2 s1.2.1 ({ Uid := s1.1, Flags := v3.Flags, Text := v3.Text } : TMail))).bind fun v4 => (at? v4 s1.2.1).bind fun v5 => (some (set' v4 s1.2.1 ({ Uid := v5.Uid, Flags := w64 (s1.1 + 1), Text := v5.Text } : TMail))).bind fun v6 => (F_laws_markText (w64 ((w64 (s1.1 + 1)) + 1))).bind fun v7 => (at? v6 s1.2.1).bind fun v8 => (some (set' v6 s1.2.1 ({ Uid := v8.Uid, Flags := v8.Flags, Text := v7 } : TMail))).bind fun v9 => some (.inl (w64 ((w64 ((w64 (s1.1 + 1)) + 1)) + 1), w64 (s1.2.1 + 1), v9)) else some (.inr (s1.1, s1.2.2)))
noncomputable def F_laws_markMailS_w (x0 : List TMail) (x1 : Int) : Option (Int × (List TMail)) :=
  (iter (S_laws_markMailS_w_1) (x1, 0, x0)).bind (fun y10 => some (y10.1, y10.2))
noncomputable def S_laws_markBoxS_w_1 (s1 : Int × Int × (List TBox)) : Option ((Int × Int × (List TBox)) ⊕ (Int × (List TBox))) :=
  (if decide (s1.2.1 < (s1.2.2.length : Int)) then (at? s1.2.2 s1.2.1).bind fun v3 => (some (set' s1.2.2 s1.2.1 ({ Valid := s1.1, User := v3.User, Name := v3.Name, Next := v3.Next, Mails := v3.Mails } : TBox))).bind fun v4 => (F_laws_markText (w64 (s1.1 + 1))).bind fun v5 => (at? v4 s1.2.1).bind fun v6 => (some (set' v4 s1.2.1 ({ Valid := v6.Valid, User := v5, Name := v6.Name, Next := v6.Next, Mails := v6.Mails } : TBox))).bind fun v7 => (F_laws_markText (w64 ((w64 (s1.1 + 1)) + 1))).bind fun v8 => (at? v7 s1.2.1).bind fun v9 => (some (set' v7 s1.2.1 ({ Valid := v9.Valid, User := v9.User, Name := v8, Next := v9.Next, Mails := v9.Mails } : TBox))).bind fun v10 => (at? v10 s1.2.1).bind fun v11 => (some (set' v10 s1.2.1 ({ Valid := v11.Valid, User := v11.User, Name := v11.Name, Next := w64 ((w64 ((w64 (s1.1 + 1)) + 1)) + 1), Mails := v11.Mails } : TBox))).bind fun v12 => (at? v12 s1.2.1).bind fun v13 => (guardO (fun r => v13.Mails.length = r.2.length) (F_laws_markMailS_w v13.Mails (w64 ((w64 ((w64 ((w64 (s1.1 + 1)) + 1)) + 1)) + 1)))).bind fun v14 => (some (set' v12 s1.2.1 ({ Valid := v13.Valid, User := v13.User, Name := v13.Name, Next := v13.Next, Mails := v14.2 } : TBox))).bind fun v15 => some (.inl (v14.1, w64 (s1.2.1 + 1), v15)) else some (.inr (s1.1, s1.2.2)))
noncomputable def F_laws_markBoxS_w (x0 : List TBox) (x1 : Int) : Option (Int × (List TBox)) :=
  (iter (S_laws_markBoxS_w_1) (x1, 0, x0)).bind (fun y16 => some (y16.1, y16.2))
noncomputable def F_laws_markState_w (x0 : List TBox) (x1 : Int) : Option (Int × (List TBox)) :=
  (guardO (fun r => x0.length = r.2.length) (F_laws_markBoxS_w x0 x1)).bind fun v1 => some (v1.1, v1.2)
noncomputable def S_laws_heldMailS_1 (x0 : List TMail) (s1 : Int × Int) : Option ((Int × Int) ⊕ (Int ⊕ Int)) :=
  (if decide (s1.2 < (x0.length : Int)) then (at? x0 s1.2).bind fun v3 => (if (v3.Uid != s1.1) then some (.inr (.inl (-1))) else (at? x0 s1.2).bind fun v4 => (if (v4.Flags != (w64 (s1.1 + 1))) then some (.inr (.inl (-1))) else (at? x0 s1.2).bind fun v5 => (F_laws_markText (w64 ((w64 (s1.1 + 1)) + 1))).bind fun v6 => (if (!(v5.Text == v6)) then some (.inr (.inl (-1))) else some (.inl (w64 ((w64 ((w64 (s1.1 + 1)) + 1)) + 1), w64 (s1.2 + 1)))))) else some (.inr (.inr s1.1)))
noncomputable def F_laws_heldMailS (x0 : List TMail) (x1 : Int) : Option Int :=
  (iter (S_laws_heldMailS_1 x0) (x1, 0)).bind (Sum.elim (fun r => some r) (fun y2 => some y2))
noncomputable def S_laws_heldBoxS_1 (x0 : List TBox) (s1 : Int × Int) : Option ((Int × Int) ⊕ (Int ⊕ Int)) :=
  (if decide (s1.2 < (x0.length : Int)) then (at? x0 s1.2).bind fun v3 => (if (v3.Valid != s1.1) then some (.inr (.inl (-1))) else (at? x0 s1.2).bind fun v4 => (F_laws_markText (w64 (s1.1 + 1))).bind fun v5 => (if (!(v4.User == v5)) then some (.inr (.inl (-1))) else (at? x0 s1.2).bind fun v6 => (F_laws_markText (w64 ((w64 (s1.1 + 1)) + 1))).bind fun v7 => (if (!(v6.Name == v7)) then some (.inr (.inl (-1))) else (at? x0 s1.2).bind fun v8 => (if (v8.Next != (w64 ((w64 ((w64 (s1.1 + 1)) + 1)) + 1))) then some (.inr (.inl (-1))) else (at? x0 s1.2).bind fun v9 => (F_laws_heldMailS v9.Mails (w64 ((w64 ((w64 ((w64 (s1.1 + 1)) + 1)) + 1)) + 1))).bind fun v10 => (if decide (v10 < 0) then some (.inr (.inl (-1))) else some (.inl (v10, w64 (s1.2 + 1)))))))) else some (.inr (.inr s1.1)))
noncomputable def F_laws_heldBoxS (x0 : List TBox) (x1 : Int) : Option Int :=
  (iter (S_laws_heldBoxS_1 x0) (x1, 0)).bind (Sum.elim (fun r => some r) (fun y2 => some y2))
noncomputable def F_laws_heldState (x0 : TState) (x1 : Int) : Option Int :=
  (F_laws_heldBoxS x0.Boxes x1).bind fun v1 => (if decide (v1 < 0) then some (-1) else some v1)
noncomputable def F_laws_FnExactStateNow (x0 : TStore) : Option Bool :=
  (F_laws_szStore x0 1048576).bind fun v1 => (if decide (v1 < 0) then some true else (F_laws_toStore x0).bind fun v2 => (F_spec_StateNow v2).bind fun v3 => (F_laws_toStore x0).bind fun v4 => (F_impl_StateNow ({ Log := ({ Disk := ({ Sectors := v4.Log.Disk.Sectors, Cache := v4.Log.Disk.Cache } : TDisk), Segs := v4.Log.Segs, Used := v4.Log.Used, NextGen := v4.Log.NextGen, NextSeq := v4.Log.NextSeq, Stamp := v4.Log.Stamp, NextValid := v4.Log.NextValid } : TLog), Freed := v4.Freed } : TStore)).bind fun v5 => (F_laws_eqState ({ Boxes := v5.Boxes } : TState) v3).bind fun v6 => (if v6 then (F_laws_toStore x0).bind fun v7 => (F_laws_eqStore ({ Log := ({ Disk := ({ Sectors := v4.Log.Disk.Sectors, Cache := v4.Log.Disk.Cache } : TDisk), Segs := v4.Log.Segs, Used := v4.Log.Used, NextGen := v4.Log.NextGen, NextSeq := v4.Log.NextSeq, Stamp := v4.Log.Stamp, NextValid := v4.Log.NextValid } : TLog), Freed := v4.Freed } : TStore) v7).bind fun v8 => (if v8 then (guardO (fun r => v4.Log.Disk.Sectors.length = r.2.1.length ∧ v4.Log.Disk.Cache.length = r.2.2.1.length ∧ v4.Log.Used.length = r.2.2.2.1.length ∧ v4.Freed.length = r.2.2.2.2.length) (F_laws_markStore_w v4.Log.Disk.Sectors v4.Log.Disk.Cache v4.Log.Segs v4.Log.Used v4.Log.NextGen v4.Log.NextSeq v4.Log.Stamp v4.Log.NextValid v4.Freed 1)).bind fun v9 => ((if decide (v9.1 < 0) then some true else (F_laws_eqState ({ Boxes := v5.Boxes } : TState) v3).bind fun v11 => (if v11 then some false else some true)) : Option Bool).bind (fun y10 => (if y10 then some false else (guardO (fun r => v5.Boxes.length = r.2.length) (F_laws_markState_w v5.Boxes 1)).bind fun v12 => (F_laws_heldState ({ Boxes := v12.2 } : TState) 1).bind fun v13 => (if decide (v13 < 0) then some false else (if (v13 != v12.1) then some false else (F_laws_toStore x0).bind fun v14 => (F_impl_StateNow v14).bind fun v15 => (F_laws_eqState v15 v3).bind fun v16 => (if v16 then (F_laws_heldState ({ Boxes := v12.2 } : TState) 1).bind fun v17 => (if decide (v17 < 0) then some false else (if (v17 != v12.1) then some false else some true)) else some false))))) else some false) else some false))
end Go.Proofs.YtcehlicmghnghaaGreat.V
