/- Records, and what the functions compute. -/
import Derived.Test.YtcehlicmghnghaaGreatXE
/- Records, and how they lie in cells. -/
namespace Go.Proofs.YtcehlicmghnghaaGreat.V
open Go Go.Proofs Go.RowKit
set_option maxRecDepth 100000
structure TWrite where
 At : Int
 Text : List UInt8
def enc_TWrite (_ : Bool) (x : TWrite) : List AV := [.j x.At, .str x.Text]
theorem sc_TWrite (o : Bool) (x : TWrite) : ∀ v ∈ enc_TWrite o x, Scl v := (fac .int (fac .str fan))
theorem fk_TWrite : FlatOk enc_TWrite 2 := ⟨⟨fun _ _ => rfl, by omega, fun _ _ => (fac .int (fac .str fan)), fun _ => (fac .int (fac .str fan)), fun _ => (.cons .refl (.cons .refl .nil))⟩, fun _ => rfl, fun _ _ => (fac rfl (fac rfl fan)), fun _ _ => (fac rfl (fac rfl fan))⟩
theorem ek_TWrite : EncOk enc_TWrite 2 := fk_TWrite.toEncOk
abbrev L_TWrite (l : List TWrite) : AV := .lst false 2 (fl (enc_TWrite false) l) l.length
structure TDisk where
 Sectors : List (List UInt8)
 Cache : List TWrite
def enc_TDisk (o : Bool) (x : TDisk) : List AV := [.lst o 1 (fl (encS o) x.Sectors) x.Sectors.length, .lst o 2 (fl (enc_TWrite o) x.Cache) x.Cache.length]
theorem ek_TDisk : EncOk enc_TDisk 2 := ⟨fun _ _ => rfl, by omega, fun _ _ => (fac (.lst (ekS.fdat _ _)) (fac (.lst (ek_TWrite.fdat _ _)) fan)), fun _ => (fac (.lst (ekS.fown _)) (fac (.lst (ek_TWrite.fown _)) fan)), fun _ => (.cons (ekS.fflag _).lst (.cons (ek_TWrite.fflag _).lst .nil))⟩
abbrev L_TDisk (l : List TDisk) : AV := .lst false 2 (fl (enc_TDisk false) l) l.length
structure TRec where
 Kind : Int
 Valid : Int
 Uid : Int
 Next : Int
 Flags : Int
 User : List UInt8
 Name : List UInt8
 Text : List UInt8
def enc_TRec (_ : Bool) (x : TRec) : List AV := [.j x.Kind, .j x.Valid, .j x.Uid, .j x.Next, .j x.Flags, .str x.User, .str x.Name, .str x.Text]
theorem sc_TRec (o : Bool) (x : TRec) : ∀ v ∈ enc_TRec o x, Scl v := (fac .int (fac .int (fac .int (fac .int (fac .int (fac .str (fac .str (fac .str fan))))))))
theorem fk_TRec : FlatOk enc_TRec 8 := ⟨⟨fun _ _ => rfl, by omega, fun _ _ => (fac .int (fac .int (fac .int (fac .int (fac .int (fac .str (fac .str (fac .str fan)))))))), fun _ => (fac .int (fac .int (fac .int (fac .int (fac .int (fac .str (fac .str (fac .str fan)))))))), fun _ => (.cons .refl (.cons .refl (.cons .refl (.cons .refl (.cons .refl (.cons .refl (.cons .refl (.cons .refl .nil))))))))⟩, fun _ => rfl, fun _ _ => (fac rfl (fac rfl (fac rfl (fac rfl (fac rfl (fac rfl (fac rfl (fac rfl fan)))))))), fun _ _ => (fac rfl (fac rfl (fac rfl (fac rfl (fac rfl (fac rfl (fac rfl (fac rfl fan))))))))⟩
theorem ek_TRec : EncOk enc_TRec 8 := fk_TRec.toEncOk
abbrev L_TRec (l : List TRec) : AV := .lst false 8 (fl (enc_TRec false) l) l.length
structure TItem where
 Seq : Int
 Rec : TRec
def enc_TItem (_ : Bool) (x : TItem) : List AV := [.j x.Seq, .j x.Rec.Kind, .j x.Rec.Valid, .j x.Rec.Uid, .j x.Rec.Next, .j x.Rec.Flags, .str x.Rec.User, .str x.Rec.Name, .str x.Rec.Text]
theorem sc_TItem (o : Bool) (x : TItem) : ∀ v ∈ enc_TItem o x, Scl v := (fac .int (fac .int (fac .int (fac .int (fac .int (fac .int (fac .str (fac .str (fac .str fan)))))))))
theorem fk_TItem : FlatOk enc_TItem 9 := ⟨⟨fun _ _ => rfl, by omega, fun _ _ => (fac .int (fac .int (fac .int (fac .int (fac .int (fac .int (fac .str (fac .str (fac .str fan))))))))), fun _ => (fac .int (fac .int (fac .int (fac .int (fac .int (fac .int (fac .str (fac .str (fac .str fan))))))))), fun _ => (.cons .refl (.cons .refl (.cons .refl (.cons .refl (.cons .refl (.cons .refl (.cons .refl (.cons .refl (.cons .refl .nil)))))))))⟩, fun _ => rfl, fun _ _ => (fac rfl (fac rfl (fac rfl (fac rfl (fac rfl (fac rfl (fac rfl (fac rfl (fac rfl fan))))))))), fun _ _ => (fac rfl (fac rfl (fac rfl (fac rfl (fac rfl (fac rfl (fac rfl (fac rfl (fac rfl fan)))))))))⟩
theorem ek_TItem : EncOk enc_TItem 9 := fk_TItem.toEncOk
abbrev L_TItem (l : List TItem) : AV := .lst false 9 (fl (enc_TItem false) l) l.length
structure TSeg where
 No : Int
 Gen : Int
 End : Int
 Items : List TItem
def enc_TSeg (o : Bool) (x : TSeg) : List AV := [.j x.No, .j x.Gen, .j x.End, .lst o 9 (fl (enc_TItem o) x.Items) x.Items.length]
theorem ek_TSeg : EncOk enc_TSeg 4 := ⟨fun _ _ => rfl, by omega, fun _ _ => (fac .int (fac .int (fac .int (fac (.lst (ek_TItem.fdat _ _)) fan)))), fun _ => (fac .int (fac .int (fac .int (fac (.lst (ek_TItem.fown _)) fan)))), fun _ => (.cons .refl (.cons .refl (.cons .refl (.cons (ek_TItem.fflag _).lst .nil))))⟩
abbrev L_TSeg (l : List TSeg) : AV := .lst false 4 (fl (enc_TSeg false) l) l.length
structure TLog where
 Disk : TDisk
 Segs : Int
 Used : List TSeg
 NextGen : Int
 NextSeq : Int
 Stamp : Int
 NextValid : Int
def enc_TLog (o : Bool) (x : TLog) : List AV := [.lst o 1 (fl (encS o) x.Disk.Sectors) x.Disk.Sectors.length, .lst o 2 (fl (enc_TWrite o) x.Disk.Cache) x.Disk.Cache.length, .j x.Segs, .lst o 4 (fl (enc_TSeg o) x.Used) x.Used.length, .j x.NextGen, .j x.NextSeq, .j x.Stamp, .j x.NextValid]
theorem ek_TLog : EncOk enc_TLog 8 := ⟨fun _ _ => rfl, by omega, fun _ _ => (fac (.lst (ekS.fdat _ _)) (fac (.lst (ek_TWrite.fdat _ _)) (fac .int (fac (.lst (ek_TSeg.fdat _ _)) (fac .int (fac .int (fac .int (fac .int fan)))))))), fun _ => (fac (.lst (ekS.fown _)) (fac (.lst (ek_TWrite.fown _)) (fac .int (fac (.lst (ek_TSeg.fown _)) (fac .int (fac .int (fac .int (fac .int fan)))))))), fun _ => (.cons (ekS.fflag _).lst (.cons (ek_TWrite.fflag _).lst (.cons .refl (.cons (ek_TSeg.fflag _).lst (.cons .refl (.cons .refl (.cons .refl (.cons .refl .nil))))))))⟩
abbrev L_TLog (l : List TLog) : AV := .lst false 8 (fl (enc_TLog false) l) l.length
structure TFrame where
 Gen : Int
 Seq : Int
 Body : List UInt8
def enc_TFrame (_ : Bool) (x : TFrame) : List AV := [.j x.Gen, .j x.Seq, .str x.Body]
theorem sc_TFrame (o : Bool) (x : TFrame) : ∀ v ∈ enc_TFrame o x, Scl v := (fac .int (fac .int (fac .str fan)))
theorem fk_TFrame : FlatOk enc_TFrame 3 := ⟨⟨fun _ _ => rfl, by omega, fun _ _ => (fac .int (fac .int (fac .str fan))), fun _ => (fac .int (fac .int (fac .str fan))), fun _ => (.cons .refl (.cons .refl (.cons .refl .nil)))⟩, fun _ => rfl, fun _ _ => (fac rfl (fac rfl (fac rfl fan))), fun _ _ => (fac rfl (fac rfl (fac rfl fan)))⟩
theorem ek_TFrame : EncOk enc_TFrame 3 := fk_TFrame.toEncOk
abbrev L_TFrame (l : List TFrame) : AV := .lst false 3 (fl (enc_TFrame false) l) l.length
structure TRef where
 No : Int
 Gen : Int
def enc_TRef (_ : Bool) (x : TRef) : List AV := [.j x.No, .j x.Gen]
theorem sc_TRef (o : Bool) (x : TRef) : ∀ v ∈ enc_TRef o x, Scl v := (fac .int (fac .int fan))
theorem fk_TRef : FlatOk enc_TRef 2 := ⟨⟨fun _ _ => rfl, by omega, fun _ _ => (fac .int (fac .int fan)), fun _ => (fac .int (fac .int fan)), fun _ => (.cons .refl (.cons .refl .nil))⟩, fun _ => rfl, fun _ _ => (fac rfl (fac rfl fan)), fun _ _ => (fac rfl (fac rfl fan))⟩
theorem ek_TRef : EncOk enc_TRef 2 := fk_TRef.toEncOk
abbrev L_TRef (l : List TRef) : AV := .lst false 2 (fl (enc_TRef false) l) l.length
structure TCheck where
 Stamp : Int
 NextGen : Int
 NextSeq : Int
 NextValid : Int
 Refs : List TRef
def enc_TCheck (o : Bool) (x : TCheck) : List AV := [.j x.Stamp, .j x.NextGen, .j x.NextSeq, .j x.NextValid, .lst o 2 (fl (enc_TRef o) x.Refs) x.Refs.length]
theorem ek_TCheck : EncOk enc_TCheck 5 := ⟨fun _ _ => rfl, by omega, fun _ _ => (fac .int (fac .int (fac .int (fac .int (fac (.lst (ek_TRef.fdat _ _)) fan))))), fun _ => (fac .int (fac .int (fac .int (fac .int (fac (.lst (ek_TRef.fown _)) fan))))), fun _ => (.cons .refl (.cons .refl (.cons .refl (.cons .refl (.cons (ek_TRef.fflag _).lst .nil)))))⟩
abbrev L_TCheck (l : List TCheck) : AV := .lst false 5 (fl (enc_TCheck false) l) l.length
structure TStore where
 Log : TLog
 Freed : List Int
def enc_TStore (o : Bool) (x : TStore) : List AV := [.lst o 1 (fl (encS o) x.Log.Disk.Sectors) x.Log.Disk.Sectors.length, .lst o 2 (fl (enc_TWrite o) x.Log.Disk.Cache) x.Log.Disk.Cache.length, .j x.Log.Segs, .lst o 4 (fl (enc_TSeg o) x.Log.Used) x.Log.Used.length, .j x.Log.NextGen, .j x.Log.NextSeq, .j x.Log.Stamp, .j x.Log.NextValid, .lst o 1 (fl (encI o) x.Freed) x.Freed.length]
theorem ek_TStore : EncOk enc_TStore 9 := ⟨fun _ _ => rfl, by omega, fun _ _ => (fac (.lst (ekS.fdat _ _)) (fac (.lst (ek_TWrite.fdat _ _)) (fac .int (fac (.lst (ek_TSeg.fdat _ _)) (fac .int (fac .int (fac .int (fac .int (fac (.lst (ekI.fdat _ _)) fan))))))))), fun _ => (fac (.lst (ekS.fown _)) (fac (.lst (ek_TWrite.fown _)) (fac .int (fac (.lst (ek_TSeg.fown _)) (fac .int (fac .int (fac .int (fac .int (fac (.lst (ekI.fown _)) fan))))))))), fun _ => (.cons (ekS.fflag _).lst (.cons (ek_TWrite.fflag _).lst (.cons .refl (.cons (ek_TSeg.fflag _).lst (.cons .refl (.cons .refl (.cons .refl (.cons .refl (.cons (ekI.fflag _).lst .nil)))))))))⟩
abbrev L_TStore (l : List TStore) : AV := .lst false 9 (fl (enc_TStore false) l) l.length
structure TMail where
 Uid : Int
 Flags : Int
 Text : List UInt8
def enc_TMail (_ : Bool) (x : TMail) : List AV := [.j x.Uid, .j x.Flags, .str x.Text]
theorem sc_TMail (o : Bool) (x : TMail) : ∀ v ∈ enc_TMail o x, Scl v := (fac .int (fac .int (fac .str fan)))
theorem fk_TMail : FlatOk enc_TMail 3 := ⟨⟨fun _ _ => rfl, by omega, fun _ _ => (fac .int (fac .int (fac .str fan))), fun _ => (fac .int (fac .int (fac .str fan))), fun _ => (.cons .refl (.cons .refl (.cons .refl .nil)))⟩, fun _ => rfl, fun _ _ => (fac rfl (fac rfl (fac rfl fan))), fun _ _ => (fac rfl (fac rfl (fac rfl fan)))⟩
theorem ek_TMail : EncOk enc_TMail 3 := fk_TMail.toEncOk
abbrev L_TMail (l : List TMail) : AV := .lst false 3 (fl (enc_TMail false) l) l.length
structure TBox where
 Valid : Int
 User : List UInt8
 Name : List UInt8
 Next : Int
 Mails : List TMail
def enc_TBox (o : Bool) (x : TBox) : List AV := [.j x.Valid, .str x.User, .str x.Name, .j x.Next, .lst o 3 (fl (enc_TMail o) x.Mails) x.Mails.length]
theorem ek_TBox : EncOk enc_TBox 5 := ⟨fun _ _ => rfl, by omega, fun _ _ => (fac .int (fac .str (fac .str (fac .int (fac (.lst (ek_TMail.fdat _ _)) fan))))), fun _ => (fac .int (fac .str (fac .str (fac .int (fac (.lst (ek_TMail.fown _)) fan))))), fun _ => (.cons .refl (.cons .refl (.cons .refl (.cons .refl (.cons (ek_TMail.fflag _).lst .nil)))))⟩
abbrev L_TBox (l : List TBox) : AV := .lst false 5 (fl (enc_TBox false) l) l.length
structure TState where
 Boxes : List TBox
def enc_TState (o : Bool) (x : TState) : List AV := [.lst o 5 (fl (enc_TBox o) x.Boxes) x.Boxes.length]
theorem ek_TState : EncOk enc_TState 1 := ⟨fun _ _ => rfl, by omega, fun _ _ => (fac (.lst (ek_TBox.fdat _ _)) fan), fun _ => (fac (.lst (ek_TBox.fown _)) fan), fun _ => (.cons (ek_TBox.fflag _).lst .nil)⟩
abbrev L_TState (l : List TState) : AV := .lst false 1 (fl (enc_TState false) l) l.length
def wf_TWrite (x : TWrite) : Prop := ((Lit.int .i64 x.At).wf = true) ∧ (x.Text.length ≤ maxLen) ∧ True
def wf_TDisk (x : TDisk) : Prop := (x.Sectors.length ≤ maxLen ∧ ∀ a ∈ x.Sectors, a.length ≤ maxLen) ∧ (x.Cache.length ≤ maxLen ∧ ∀ a ∈ x.Cache, wf_TWrite a) ∧ True
def wf_TRec (x : TRec) : Prop := ((Lit.int .i64 x.Kind).wf = true) ∧ ((Lit.int .i64 x.Valid).wf = true) ∧ ((Lit.int .i64 x.Uid).wf = true) ∧ ((Lit.int .i64 x.Next).wf = true) ∧ ((Lit.int .i64 x.Flags).wf = true) ∧ (x.User.length ≤ maxLen) ∧ (x.Name.length ≤ maxLen) ∧ (x.Text.length ≤ maxLen) ∧ True
def wf_TItem (x : TItem) : Prop := ((Lit.int .i64 x.Seq).wf = true) ∧ (wf_TRec x.Rec) ∧ True
def wf_TSeg (x : TSeg) : Prop := ((Lit.int .i64 x.No).wf = true) ∧ ((Lit.int .i64 x.Gen).wf = true) ∧ ((Lit.int .i64 x.End).wf = true) ∧ (x.Items.length ≤ maxLen ∧ ∀ a ∈ x.Items, wf_TItem a) ∧ True
def wf_TLog (x : TLog) : Prop := (wf_TDisk x.Disk) ∧ ((Lit.int .i64 x.Segs).wf = true) ∧ (x.Used.length ≤ maxLen ∧ ∀ a ∈ x.Used, wf_TSeg a) ∧ ((Lit.int .i64 x.NextGen).wf = true) ∧ ((Lit.int .i64 x.NextSeq).wf = true) ∧ ((Lit.int .i64 x.Stamp).wf = true) ∧ ((Lit.int .i64 x.NextValid).wf = true) ∧ True
def wf_TFrame (x : TFrame) : Prop := ((Lit.int .i64 x.Gen).wf = true) ∧ ((Lit.int .i64 x.Seq).wf = true) ∧ (x.Body.length ≤ maxLen) ∧ True
def wf_TRef (x : TRef) : Prop := ((Lit.int .i64 x.No).wf = true) ∧ ((Lit.int .i64 x.Gen).wf = true) ∧ True
def wf_TCheck (x : TCheck) : Prop := ((Lit.int .i64 x.Stamp).wf = true) ∧ ((Lit.int .i64 x.NextGen).wf = true) ∧ ((Lit.int .i64 x.NextSeq).wf = true) ∧ ((Lit.int .i64 x.NextValid).wf = true) ∧ (x.Refs.length ≤ maxLen ∧ ∀ a ∈ x.Refs, wf_TRef a) ∧ True
def wf_TStore (x : TStore) : Prop := (wf_TLog x.Log) ∧ (x.Freed.length ≤ maxLen ∧ ∀ a ∈ x.Freed, (Lit.int .i64 a).wf = true) ∧ True
def wf_TMail (x : TMail) : Prop := ((Lit.int .i64 x.Uid).wf = true) ∧ ((Lit.int .i64 x.Flags).wf = true) ∧ (x.Text.length ≤ maxLen) ∧ True
def wf_TBox (x : TBox) : Prop := ((Lit.int .i64 x.Valid).wf = true) ∧ (x.User.length ≤ maxLen) ∧ (x.Name.length ≤ maxLen) ∧ ((Lit.int .i64 x.Next).wf = true) ∧ (x.Mails.length ≤ maxLen ∧ ∀ a ∈ x.Mails, wf_TMail a) ∧ True
def wf_TState (x : TState) : Prop := (x.Boxes.length ≤ maxLen ∧ ∀ a ∈ x.Boxes, wf_TBox a) ∧ True
end Go.Proofs.YtcehlicmghnghaaGreat.V
/- What the functions compute. -/
namespace Go.Proofs.YtcehlicmghnghaaGreat.V
open Go Go.Proofs Go.RowKit
set_option maxRecDepth 100000
noncomputable def S_laws_eqIntS_1 (x0 : List Int) (x1 : List Int) (s1 : Int) : Option (Int ⊕ (Bool ⊕ Unit)) :=
 (if decide (s1 < (x0.length : Int)) then (at? x0 s1).bind fun v3 => (at? x1 s1).bind fun v4 => (if (v3 != v4) then some (.inr (.inl false)) else some (.inl (w64 (s1 + 1)))) else some (.inr (.inr ())))
noncomputable def F_laws_eqIntS (x0 : List Int) (x1 : List Int) : Option Bool :=
 (if ((x0.length : Int) != (x1.length : Int)) then some false else (iter (S_laws_eqIntS_1 x0 x1) 0).bind (Sum.elim (fun r => some r) (fun y2 => some true)))
noncomputable def S_laws_eqStringS_1 (x0 : List (List UInt8)) (x1 : List (List UInt8)) (s1 : Int) : Option (Int ⊕ (Bool ⊕ Unit)) :=
 (if decide (s1 < (x0.length : Int)) then (at? x0 s1).bind fun v3 => (at? x1 s1).bind fun v4 => (if (!(v3 == v4)) then some (.inr (.inl false)) else some (.inl (w64 (s1 + 1)))) else some (.inr (.inr ())))
noncomputable def F_laws_eqStringS (x0 : List (List UInt8)) (x1 : List (List UInt8)) : Option Bool :=
 (if ((x0.length : Int) != (x1.length : Int)) then some false else (iter (S_laws_eqStringS_1 x0 x1) 0).bind (Sum.elim (fun r => some r) (fun y2 => some true)))
noncomputable def F_laws_eqWrite (x0 : TWrite) (x1 : TWrite) : Option Bool :=
 (if (x0.At != x1.At) then some false else (if (!(x0.Text == x1.Text)) then some false else some true))
noncomputable def S_laws_eqWriteS_1 (x0 : List TWrite) (x1 : List TWrite) (s1 : Int) : Option (Int ⊕ (Bool ⊕ Unit)) :=
 (if decide (s1 < (x0.length : Int)) then (at? x0 s1).bind fun v3 => (at? x1 s1).bind fun v4 => (F_laws_eqWrite v3 v4).bind fun v5 => (if v5 then some (.inl (w64 (s1 + 1))) else some (.inr (.inl false))) else some (.inr (.inr ())))
noncomputable def F_laws_eqWriteS (x0 : List TWrite) (x1 : List TWrite) : Option Bool :=
 (if ((x0.length : Int) != (x1.length : Int)) then some false else (iter (S_laws_eqWriteS_1 x0 x1) 0).bind (Sum.elim (fun r => some r) (fun y2 => some true)))
noncomputable def F_laws_eqDisk (x0 : TDisk) (x1 : TDisk) : Option Bool :=
 (F_laws_eqStringS x0.Sectors x1.Sectors).bind fun v1 => (if v1 then (F_laws_eqWriteS x0.Cache x1.Cache).bind fun v2 => (if v2 then some true else some false) else some false)
noncomputable def F_laws_eqRec (x0 : TRec) (x1 : TRec) : Option Bool :=
 (if (x0.Kind != x1.Kind) then some false else (if (x0.Valid != x1.Valid) then some false else (if (x0.Uid != x1.Uid) then some false else (if (x0.Next != x1.Next) then some false else (if (x0.Flags != x1.Flags) then some false else (if (!(x0.User == x1.User)) then some false else (if (!(x0.Name == x1.Name)) then some false else (if (!(x0.Text == x1.Text)) then some false else some true))))))))
noncomputable def F_laws_eqItem (x0 : TItem) (x1 : TItem) : Option Bool :=
 (if (x0.Seq != x1.Seq) then some false else (F_laws_eqRec x0.Rec x1.Rec).bind fun v1 => (if v1 then some true else some false))
noncomputable def S_laws_eqItemS_1 (x0 : List TItem) (x1 : List TItem) (s1 : Int) : Option (Int ⊕ (Bool ⊕ Unit)) :=
 (if decide (s1 < (x0.length : Int)) then (at? x0 s1).bind fun v3 => (at? x1 s1).bind fun v4 => (F_laws_eqItem v3 v4).bind fun v5 => (if v5 then some (.inl (w64 (s1 + 1))) else some (.inr (.inl false))) else some (.inr (.inr ())))
noncomputable def F_laws_eqItemS (x0 : List TItem) (x1 : List TItem) : Option Bool :=
 (if ((x0.length : Int) != (x1.length : Int)) then some false else (iter (S_laws_eqItemS_1 x0 x1) 0).bind (Sum.elim (fun r => some r) (fun y2 => some true)))
noncomputable def F_laws_eqSeg (x0 : TSeg) (x1 : TSeg) : Option Bool :=
 (if (x0.No != x1.No) then some false else (if (x0.Gen != x1.Gen) then some false else (if (x0.End != x1.End) then some false else (F_laws_eqItemS x0.Items x1.Items).bind fun v1 => (if v1 then some true else some false))))
noncomputable def S_laws_eqSegS_1 (x0 : List TSeg) (x1 : List TSeg) (s1 : Int) : Option (Int ⊕ (Bool ⊕ Unit)) :=
 (if decide (s1 < (x0.length : Int)) then (at? x0 s1).bind fun v3 => (at? x1 s1).bind fun v4 => (F_laws_eqSeg v3 v4).bind fun v5 => (if v5 then some (.inl (w64 (s1 + 1))) else some (.inr (.inl false))) else some (.inr (.inr ())))
noncomputable def F_laws_eqSegS (x0 : List TSeg) (x1 : List TSeg) : Option Bool :=
 (if ((x0.length : Int) != (x1.length : Int)) then some false else (iter (S_laws_eqSegS_1 x0 x1) 0).bind (Sum.elim (fun r => some r) (fun y2 => some true)))
noncomputable def F_laws_eqLog (x0 : TLog) (x1 : TLog) : Option Bool :=
 (F_laws_eqDisk x0.Disk x1.Disk).bind fun v1 => (if v1 then (if (x0.Segs != x1.Segs) then some false else (F_laws_eqSegS x0.Used x1.Used).bind fun v2 => (if v2 then (if (x0.NextGen != x1.NextGen) then some false else (if (x0.NextSeq != x1.NextSeq) then some false else (if (x0.Stamp != x1.Stamp) then some false else (if (x0.NextValid != x1.NextValid) then some false else some true)))) else some false)) else some false)
noncomputable def F_laws_eqStore (x0 : TStore) (x1 : TStore) : Option Bool :=
 (F_laws_eqLog x0.Log x1.Log).bind fun v1 => (if v1 then (F_laws_eqIntS x0.Freed x1.Freed).bind fun v2 => (if v2 then some true else some false) else some false)
noncomputable def S_laws_szStringS_1 (x0 : List (List UInt8)) (s1 : Int × Int) : Option ((Int × Int) ⊕ (Int ⊕ Int)) :=
 (if decide (s1.2 < (x0.length : Int)) then (at? x0 s1.2).bind fun v3 => (if decide ((w64 (s1.1 - (v3.length : Int))) < 0) then some (.inr (.inl (-1))) else some (.inl (w64 (s1.1 - (v3.length : Int)), w64 (s1.2 + 1)))) else some (.inr (.inr s1.1)))
noncomputable def F_laws_szStringS (x0 : List (List UInt8)) (x1 : Int) : Option Int :=
 (if decide ((w64 (x1 - (x0.length : Int))) < 0) then some (-1) else (iter (S_laws_szStringS_1 x0) (w64 (x1 - (x0.length : Int)), 0)).bind (Sum.elim (fun r => some r) (fun y2 => some y2)))
noncomputable def F_laws_szWrite (x0 : TWrite) (x1 : Int) : Option Int :=
 (if decide ((w64 (x1 - (x0.Text.length : Int))) < 0) then some (-1) else some (w64 (x1 - (x0.Text.length : Int))))
noncomputable def S_laws_szWriteS_1 (x0 : List TWrite) (s1 : Int × Int) : Option ((Int × Int) ⊕ (Int ⊕ Int)) :=
 (if decide (s1.2 < (x0.length : Int)) then (at? x0 s1.2).bind fun v3 => (F_laws_szWrite v3 s1.1).bind fun v4 => (if decide (v4 < 0) then some (.inr (.inl (-1))) else some (.inl (v4, w64 (s1.2 + 1)))) else some (.inr (.inr s1.1)))
noncomputable def F_laws_szWriteS (x0 : List TWrite) (x1 : Int) : Option Int :=
 (if decide ((w64 (x1 - (x0.length : Int))) < 0) then some (-1) else (iter (S_laws_szWriteS_1 x0) (w64 (x1 - (x0.length : Int)), 0)).bind (Sum.elim (fun r => some r) (fun y2 => some y2)))
noncomputable def F_laws_szDisk (x0 : TDisk) (x1 : Int) : Option Int :=
 (F_laws_szStringS x0.Sectors x1).bind fun v1 => (if decide (v1 < 0) then some (-1) else (F_laws_szWriteS x0.Cache v1).bind fun v2 => (if decide (v2 < 0) then some (-1) else some v2))
noncomputable def F_laws_szRec (x0 : TRec) (x1 : Int) : Option Int :=
 (if decide ((w64 (x1 - (x0.User.length : Int))) < 0) then some (-1) else (if decide ((w64 ((w64 (x1 - (x0.User.length : Int))) - (x0.Name.length : Int))) < 0) then some (-1) else (if decide ((w64 ((w64 ((w64 (x1 - (x0.User.length : Int))) - (x0.Name.length : Int))) - (x0.Text.length : Int))) < 0) then some (-1) else some (w64 ((w64 ((w64 (x1 - (x0.User.length : Int))) - (x0.Name.length : Int))) - (x0.Text.length : Int))))))
noncomputable def F_laws_szItem (x0 : TItem) (x1 : Int) : Option Int :=
 (F_laws_szRec x0.Rec x1).bind fun v1 => (if decide (v1 < 0) then some (-1) else some v1)
noncomputable def S_laws_szItemS_1 (x0 : List TItem) (s1 : Int × Int) : Option ((Int × Int) ⊕ (Int ⊕ Int)) :=
 (if decide (s1.2 < (x0.length : Int)) then (at? x0 s1.2).bind fun v3 => (F_laws_szItem v3 s1.1).bind fun v4 => (if decide (v4 < 0) then some (.inr (.inl (-1))) else some (.inl (v4, w64 (s1.2 + 1)))) else some (.inr (.inr s1.1)))
noncomputable def F_laws_szItemS (x0 : List TItem) (x1 : Int) : Option Int :=
 (if decide ((w64 (x1 - (x0.length : Int))) < 0) then some (-1) else (iter (S_laws_szItemS_1 x0) (w64 (x1 - (x0.length : Int)), 0)).bind (Sum.elim (fun r => some r) (fun y2 => some y2)))
noncomputable def F_laws_szSeg (x0 : TSeg) (x1 : Int) : Option Int :=
 (F_laws_szItemS x0.Items x1).bind fun v1 => (if decide (v1 < 0) then some (-1) else some v1)
noncomputable def S_laws_szSegS_1 (x0 : List TSeg) (s1 : Int × Int) : Option ((Int × Int) ⊕ (Int ⊕ Int)) :=
 (if decide (s1.2 < (x0.length : Int)) then (at? x0 s1.2).bind fun v3 => (F_laws_szSeg v3 s1.1).bind fun v4 => (if decide (v4 < 0) then some (.inr (.inl (-1))) else some (.inl (v4, w64 (s1.2 + 1)))) else some (.inr (.inr s1.1)))
noncomputable def F_laws_szSegS (x0 : List TSeg) (x1 : Int) : Option Int :=
 (if decide ((w64 (x1 - (x0.length : Int))) < 0) then some (-1) else (iter (S_laws_szSegS_1 x0) (w64 (x1 - (x0.length : Int)), 0)).bind (Sum.elim (fun r => some r) (fun y2 => some y2)))
noncomputable def F_laws_szLog (x0 : TLog) (x1 : Int) : Option Int :=
 (F_laws_szDisk x0.Disk x1).bind fun v1 => (if decide (v1 < 0) then some (-1) else (F_laws_szSegS x0.Used v1).bind fun v2 => (if decide (v2 < 0) then some (-1) else some v2))
noncomputable def F_laws_szIntS (x0 : List Int) (x1 : Int) : Option Int :=
 (if decide ((w64 (x1 - (x0.length : Int))) < 0) then some (-1) else some (w64 (x1 - (x0.length : Int))))
noncomputable def F_laws_szStore (x0 : TStore) (x1 : Int) : Option Int :=
 (F_laws_szLog x0.Log x1).bind fun v1 => (if decide (v1 < 0) then some (-1) else (F_laws_szIntS x0.Freed v1).bind fun v2 => (if decide (v2 < 0) then some (-1) else some v2))
noncomputable def F_laws_toRec (x0 : TRec) : Option TRec :=
 some x0
noncomputable def F_laws_toItem (x0 : TItem) : Option TItem :=
 (F_laws_toRec x0.Rec).bind fun v1 => some ({ Seq := x0.Seq, Rec := v1 } : TItem)
noncomputable def S_laws_toItemS_1 (x0 : List TItem) (s2 : Int × (List TItem)) : Option ((Int × (List TItem)) ⊕ (List TItem)) :=
 (if decide (s2.1 < (x0.length : Int)) then (at? x0 s2.1).bind fun v4 => (F_laws_toItem v4).bind fun v5 => (at? s2.2 s2.1).bind fun v6 => (some (set' s2.2 s2.1 v5)).bind fun v7 => some (.inl (w64 (s2.1 + 1), v7)) else some (.inr s2.2))
noncomputable def F_laws_toItemS (x0 : List TItem) : Option (List TItem) :=
 (mk? 96 (({ Seq := 0, Rec := ({ Kind := 0, Valid := 0, Uid := 0, Next := 0, Flags := 0, User := [], Name := [], Text := [] } : TRec) } : TItem) : TItem) (x0.length : Int)).bind fun v1 => (iter (S_laws_toItemS_1 x0) (0, v1)).bind (fun y8 => some y8)
noncomputable def F_laws_toSeg (x0 : TSeg) : Option TSeg :=
 (F_laws_toItemS x0.Items).bind fun v1 => some ({ No := x0.No, Gen := x0.Gen, End := x0.End, Items := v1 } : TSeg)
noncomputable def S_laws_toSegS_1 (x0 : List TSeg) (s2 : Int × (List TSeg)) : Option ((Int × (List TSeg)) ⊕ (List TSeg)) :=
 (if decide (s2.1 < (x0.length : Int)) then (at? x0 s2.1).bind fun v4 => (F_laws_toSeg v4).bind fun v5 => (at? s2.2 s2.1).bind fun v6 => (some (set' s2.2 s2.1 ({ No := v5.No, Gen := v5.Gen, End := v5.End, Items := v5.Items } : TSeg))).bind fun v7 => some (.inl (w64 (s2.1 + 1), v7)) else some (.inr s2.2))
noncomputable def F_laws_toSegS (x0 : List TSeg) : Option (List TSeg) :=
 (mk? 48 (({ No := 0, Gen := 0, End := 0, Items := [] } : TSeg) : TSeg) (x0.length : Int)).bind fun v1 => (iter (S_laws_toSegS_1 x0) (0, v1)).bind (fun y8 => some y8)
noncomputable def S_laws_toStringS_1 (x0 : List (List UInt8)) (s2 : Int × (List (List UInt8))) : Option ((Int × (List (List UInt8))) ⊕ (List (List UInt8))) :=
 (if decide (s2.1 < (x0.length : Int)) then (at? x0 s2.1).bind fun v4 => (at? s2.2 s2.1).bind fun v5 => (some (set' s2.2 s2.1 v4)).bind fun v6 => some (.inl (w64 (s2.1 + 1), v6)) else some (.inr s2.2))
noncomputable def F_laws_toStringS (x0 : List (List UInt8)) : Option (List (List UInt8)) :=
 (mk? 16 ([] : List UInt8) (x0.length : Int)).bind fun v1 => (iter (S_laws_toStringS_1 x0) (0, v1)).bind (fun y7 => some y7)
noncomputable def F_laws_toWrite (x0 : TWrite) : Option TWrite :=
 some x0
noncomputable def S_laws_toWriteS_1 (x0 : List TWrite) (s2 : Int × (List TWrite)) : Option ((Int × (List TWrite)) ⊕ (List TWrite)) :=
 (if decide (s2.1 < (x0.length : Int)) then (at? x0 s2.1).bind fun v4 => (F_laws_toWrite v4).bind fun v5 => (at? s2.2 s2.1).bind fun v6 => (some (set' s2.2 s2.1 v5)).bind fun v7 => some (.inl (w64 (s2.1 + 1), v7)) else some (.inr s2.2))
noncomputable def F_laws_toWriteS (x0 : List TWrite) : Option (List TWrite) :=
 (mk? 24 (({ At := 0, Text := [] } : TWrite) : TWrite) (x0.length : Int)).bind fun v1 => (iter (S_laws_toWriteS_1 x0) (0, v1)).bind (fun y8 => some y8)
noncomputable def F_laws_toDisk (x0 : TDisk) : Option TDisk :=
 (F_laws_toStringS x0.Sectors).bind fun v1 => (F_laws_toWriteS x0.Cache).bind fun v2 => some ({ Sectors := v1, Cache := v2 } : TDisk)
noncomputable def F_laws_toLog (x0 : TLog) : Option TLog :=
 (F_laws_toDisk x0.Disk).bind fun v1 => (F_laws_toSegS x0.Used).bind fun v2 => some ({ Disk := ({ Sectors := v1.Sectors, Cache := v1.Cache } : TDisk), Segs := x0.Segs, Used := v2, NextGen := x0.NextGen, NextSeq := x0.NextSeq, Stamp := x0.Stamp, NextValid := x0.NextValid } : TLog)
noncomputable def S_laws_toIntS_1 (x0 : List Int) (s2 : Int × (List Int)) : Option ((Int × (List Int)) ⊕ (List Int)) :=
 (if decide (s2.1 < (x0.length : Int)) then (at? x0 s2.1).bind fun v4 => (at? s2.2 s2.1).bind fun v5 => (some (set' s2.2 s2.1 v4)).bind fun v6 => some (.inl (w64 (s2.1 + 1), v6)) else some (.inr s2.2))
noncomputable def F_laws_toIntS (x0 : List Int) : Option (List Int) :=
 (mk? 8 (0 : Int) (x0.length : Int)).bind fun v1 => (iter (S_laws_toIntS_1 x0) (0, v1)).bind (fun y7 => some y7)
noncomputable def F_laws_toStore (x0 : TStore) : Option TStore :=
 (F_laws_toLog x0.Log).bind fun v1 => (F_laws_toIntS x0.Freed).bind fun v2 => some ({ Log := ({ Disk := ({ Sectors := v1.Disk.Sectors, Cache := v1.Disk.Cache } : TDisk), Segs := v1.Segs, Used := v1.Used, NextGen := v1.NextGen, NextSeq := v1.NextSeq, Stamp := v1.Stamp, NextValid := v1.NextValid } : TLog), Freed := v2 } : TStore)
noncomputable def F_spec_l01In (x0 : Int) (x1 : Int) (x2 : Int) : Option Bool :=
 (if decide (x0 ≥ x1) then some (decide (x0 ≤ x2)) else some false)
noncomputable def S_spec_WordOk_1 (x0 : List UInt8) (s1 : Int) : Option (Int ⊕ (Bool ⊕ Unit)) :=
 (if decide (s1 < (x0.length : Int)) then ((bt? x0 s1).bind fun v4 => (if decide ((v4.toNat : Int) < 97) then some true else (bt? x0 s1).bind fun v5 => (if decide ((v5.toNat : Int) > 122) then some true else some false)) : Option Bool).bind (fun y3 => (if y3 then some (.inr (.inl false)) else some (.inl (w64 (s1 + 1))))) else some (.inr (.inr ())))
noncomputable def F_spec_WordOk (x0 : List UInt8) : Option Bool :=
 (iter (S_spec_WordOk_1 x0) 0).bind (Sum.elim (fun r => some r) (fun y2 => (F_spec_l01In (x0.length : Int) 1 8).bind fun v7 => some v7))
noncomputable def F_spec_RecOk (x0 : TRec) : Option Bool :=
 ((F_spec_l01In x0.Kind 1 5).bind fun v2 => (if v2 then (F_spec_l01In x0.Valid 1 9999).bind fun v3 => (if v3 then some false else some true) else some true) : Option Bool).bind (fun y1 => (if y1 then some false else (if (x0.Kind == 1) then ((if (x0.Kind == 3) then some true else (if (x0.Kind == 4) then some true else (if (x0.Kind == 5) then some true else some false))) : Option Bool).bind (fun y11 => ((if (x0.Kind == 3) then some true else (if (x0.Kind == 4) then some true else some false)) : Option Bool).bind (fun y12 => ((F_spec_WordOk x0.User).bind fun v14 => (if v14 then (F_spec_WordOk x0.Name).bind fun v15 => (if v15 then (F_spec_l01In x0.Next 1 10000).bind fun v16 => (if v16 then some false else some true) else some true) else some true) : Option Bool).bind (fun y13 => (if y13 then some false else ((if y11 then (F_spec_l01In x0.Uid 1 9999).bind fun v18 => (if v18 then some false else some true) else (if (x0.Uid != 0) then some true else some false)) : Option Bool).bind (fun y17 => (if y17 then some false else ((if y12 then (F_spec_l01In x0.Flags 0 7).bind fun v20 => (if v20 then some false else some true) else (if (x0.Flags != 0) then some true else some false)) : Option Bool).bind (fun y19 => (if y19 then some false else (if (x0.Kind == 3) then some (decide ((x0.Text.length : Int) ≤ 100)) else some (x0.Text == [])))))))))) else ((if (x0.Kind == 3) then some true else (if (x0.Kind == 4) then some true else (if (x0.Kind == 5) then some true else some false))) : Option Bool).bind (fun y4 => ((if (x0.Kind == 3) then some true else (if (x0.Kind == 4) then some true else some false)) : Option Bool).bind (fun y5 => ((if (!(x0.User == [])) then some true else (if (!(x0.Name == [])) then some true else (if (x0.Next != 0) then some true else some false))) : Option Bool).bind (fun y6 => (if y6 then some false else ((if y4 then (F_spec_l01In x0.Uid 1 9999).bind fun v8 => (if v8 then some false else some true) else (if (x0.Uid != 0) then some true else some false)) : Option Bool).bind (fun y7 => (if y7 then some false else ((if y5 then (F_spec_l01In x0.Flags 0 7).bind fun v10 => (if v10 then some false else some true) else (if (x0.Flags != 0) then some true else some false)) : Option Bool).bind (fun y9 => (if y9 then some false else (if (x0.Kind == 3) then some (decide ((x0.Text.length : Int) ≤ 100)) else some (x0.Text == [])))))))))))))
noncomputable def S_spec_ItemsOk_2 (x0 : List TItem) (s1 : Int) (s8 : Int) : Option (Int ⊕ (Bool ⊕ Unit)) :=
 (if decide (s8 < s1) then ((at? x0 s8).bind fun v11 => (at? x0 s1).bind fun v12 => (if (v11.Seq == v12.Seq) then (at? x0 s8).bind fun v13 => (at? x0 s1).bind fun v14 => (if !(v13.Seq == v14.Seq && (v13.Rec.Kind == v14.Rec.Kind && (v13.Rec.Valid == v14.Rec.Valid && (v13.Rec.Uid == v14.Rec.Uid && (v13.Rec.Next == v14.Rec.Next && (v13.Rec.Flags == v14.Rec.Flags && (v13.Rec.User == v14.Rec.User && (v13.Rec.Name == v14.Rec.Name && (v13.Rec.Text == v14.Rec.Text && true))))))))) then some true else some false) else some false) : Option Bool).bind (fun y10 => (if y10 then some (.inr (.inl false)) else some (.inl (w64 (s8 + 1))))) else some (.inr (.inr ())))
noncomputable def S_spec_ItemsOk_1 (x0 : List TItem) (s1 : Int) : Option (Int ⊕ (Bool ⊕ Unit)) :=
 (if decide (s1 < (x0.length : Int)) then ((at? x0 s1).bind fun v4 => (F_spec_l01In v4.Seq 1 1000000000).bind fun v5 => (if v5 then (at? x0 s1).bind fun v6 => (F_spec_RecOk v6.Rec).bind fun v7 => (if v7 then some false else some true) else some true) : Option Bool).bind (fun y3 => (if y3 then some (.inr (.inl false)) else (iter (S_spec_ItemsOk_2 x0 s1) 0).bind (Sum.elim (fun r => some (.inr (.inl r))) (fun y9 => some (.inl (w64 (s1 + 1))))))) else some (.inr (.inr ())))
noncomputable def F_spec_ItemsOk (x0 : List TItem) : Option Bool :=
 (iter (S_spec_ItemsOk_1 x0) 0).bind (Sum.elim (fun r => some r) (fun y2 => some (decide ((x0.length : Int) ≤ 200))))
noncomputable def S_spec_l07Best_1 (x0 : List TItem) (x1 : Int) (x2 : Int) (x3 : Int) (s1 : Bool × Int × Int × Int × Int × Int × Int × Int × (List UInt8) × (List UInt8) × (List UInt8)) : Option ((Bool × Int × Int × Int × Int × Int × Int × Int × (List UInt8) × (List UInt8) × (List UInt8)) ⊕ (Bool × Int × Int × Int × Int × Int × Int × (List UInt8) × (List UInt8) × (List UInt8))) :=
 (if decide (s1.2.1 < (x0.length : Int)) then (at? x0 s1.2.1).bind fun v3 => ((if (v3.Rec.Kind == x1) then (if (v3.Rec.Valid == x2) then (if (v3.Rec.Uid == x3) then (if !s1.1 then some true else (if decide (v3.Seq > s1.2.2.1) then some true else some false)) else some false) else some false) else some false) : Option Bool).bind (fun y4 => (if y4 then some (.inl (true, w64 (s1.2.1 + 1), v3.Seq, v3.Rec.Kind, v3.Rec.Valid, v3.Rec.Uid, v3.Rec.Next, v3.Rec.Flags, v3.Rec.User, v3.Rec.Name, v3.Rec.Text)) else some (.inl (s1.1, w64 (s1.2.1 + 1), s1.2.2.1, s1.2.2.2.1, s1.2.2.2.2.1, s1.2.2.2.2.2.1, s1.2.2.2.2.2.2.1, s1.2.2.2.2.2.2.2.1, s1.2.2.2.2.2.2.2.2.1, s1.2.2.2.2.2.2.2.2.2.1, s1.2.2.2.2.2.2.2.2.2.2)))) else some (.inr (s1.1, s1.2.2.1, s1.2.2.2.1, s1.2.2.2.2.1, s1.2.2.2.2.2.1, s1.2.2.2.2.2.2.1, s1.2.2.2.2.2.2.2.1, s1.2.2.2.2.2.2.2.2.1, s1.2.2.2.2.2.2.2.2.2.1, s1.2.2.2.2.2.2.2.2.2.2)))
noncomputable def F_spec_l07Best (x0 : List TItem) (x1 : Int) (x2 : Int) (x3 : Int) : Option (TItem × Bool) :=
 (iter (S_spec_l07Best_1 x0 x1 x2 x3) (false, 0, 0, 0, 0, 0, 0, 0, [], [], [])).bind (fun y5 => some (({ Seq := y5.2.1, Rec := ({ Kind := y5.2.2.1, Valid := y5.2.2.2.1, Uid := y5.2.2.2.2.1, Next := y5.2.2.2.2.2.1, Flags := y5.2.2.2.2.2.2.1, User := y5.2.2.2.2.2.2.2.1, Name := y5.2.2.2.2.2.2.2.2.1, Text := y5.2.2.2.2.2.2.2.2.2 } : TRec) } : TItem), y5.1))
noncomputable def S_spec_l07Sorted_2 (x0 : List Int) (x1 : Int) (s8 : Int × (List Int)) : Option ((Int × (List Int)) ⊕ (List Int)) :=
 (if decide (s8.1 < (x0.length : Int)) then (at? x0 s8.1).bind fun v10 => (if decide (v10 > x1) then (at? x0 s8.1).bind fun v11 => (app? 8 s8.2 [v11]).bind fun v12 => some (.inl (w64 (s8.1 + 1), v12)) else some (.inl (w64 (s8.1 + 1), s8.2))) else some (.inr s8.2))
noncomputable def S_spec_l07Sorted_1 (x0 : List Int) (x1 : Int) (s1 : Int × (List Int)) : Option ((Int × (List Int)) ⊕ (List Int)) :=
 (if decide (s1.1 < (x0.length : Int)) then (at? x0 s1.1).bind fun v3 => (if decide (v3 < x1) then (at? x0 s1.1).bind fun v4 => (app? 8 s1.2 [v4]).bind fun v5 => some (.inl (w64 (s1.1 + 1), v5)) else some (.inl (w64 (s1.1 + 1), s1.2))) else some (.inr s1.2))
noncomputable def F_spec_l07Sorted (x0 : List Int) (x1 : Int) : Option (List Int) :=
 (iter (S_spec_l07Sorted_1 x0 x1) (0, ([] : List Int))).bind (fun y6 => (app? 8 y6 [x1]).bind fun v7 => (iter (S_spec_l07Sorted_2 x0 x1) (0, v7)).bind (fun y13 => some y13))
noncomputable def S_spec_l07Tell_1 (x0 : List TItem) (x1 : Int) (s1 : Int × Int × Int × Int × Int × Int × Int × (List UInt8) × (List UInt8) × (List UInt8)) : Option ((Int × Int × Int × Int × Int × Int × Int × (List UInt8) × (List UInt8) × (List UInt8)) ⊕ (Int × Int × Int × Int × Int × Int × (List UInt8) × (List UInt8) × (List UInt8))) :=
 (if decide (s1.1 < (x0.length : Int)) then (at? x0 s1.1).bind fun v3 => ((if (v3.Rec.Kind != 1) then some true else (if (v3.Rec.Valid != x1) then some true else some false)) : Option Bool).bind (fun y4 => (if y4 then some (.inl (w64 (s1.1 + 1), s1.2.1, s1.2.2.1, s1.2.2.2.1, s1.2.2.2.2.1, s1.2.2.2.2.2.1, s1.2.2.2.2.2.2.1, s1.2.2.2.2.2.2.2.1, s1.2.2.2.2.2.2.2.2.1, s1.2.2.2.2.2.2.2.2.2)) else ((if (s1.2.1 == 0) then some true else (if decide (v3.Rec.Next > s1.2.2.2.2.2.1) then some true else (if (v3.Rec.Next == s1.2.2.2.2.2.1) then (if decide (v3.Seq > s1.2.1) then some true else some false) else some false))) : Option Bool).bind (fun y5 => (if y5 then some (.inl (w64 (s1.1 + 1), v3.Seq, v3.Rec.Kind, v3.Rec.Valid, v3.Rec.Uid, v3.Rec.Next, v3.Rec.Flags, v3.Rec.User, v3.Rec.Name, v3.Rec.Text)) else some (.inl (w64 (s1.1 + 1), s1.2.1, s1.2.2.1, s1.2.2.2.1, s1.2.2.2.2.1, s1.2.2.2.2.2.1, s1.2.2.2.2.2.2.1, s1.2.2.2.2.2.2.2.1, s1.2.2.2.2.2.2.2.2.1, s1.2.2.2.2.2.2.2.2.2)))))) else some (.inr (s1.2.1, s1.2.2.1, s1.2.2.2.1, s1.2.2.2.2.1, s1.2.2.2.2.2.1, s1.2.2.2.2.2.2.1, s1.2.2.2.2.2.2.2.1, s1.2.2.2.2.2.2.2.2.1, s1.2.2.2.2.2.2.2.2.2)))
noncomputable def F_spec_l07Tell (x0 : List TItem) (x1 : Int) : Option TItem :=
 (iter (S_spec_l07Tell_1 x0 x1) (0, 0, 0, 0, 0, 0, 0, [], [], [])).bind (fun y6 => some ({ Seq := y6.1, Rec := ({ Kind := y6.2.1, Valid := y6.2.2.1, Uid := y6.2.2.2.1, Next := y6.2.2.2.2.1, Flags := y6.2.2.2.2.2.1, User := y6.2.2.2.2.2.2.1, Name := y6.2.2.2.2.2.2.2.1, Text := y6.2.2.2.2.2.2.2.2 } : TRec) } : TItem))
noncomputable def S_spec_l07Next_1 (x0 : List TItem) (x1 : Int) (s1 : Int × Int) : Option ((Int × Int) ⊕ Int) :=
 (if decide (s1.2 < (x0.length : Int)) then (at? x0 s1.2).bind fun v3 => (if (v3.Rec.Valid != x1) then some (.inl (s1.1, w64 (s1.2 + 1))) else ((if (v3.Rec.Kind == 1) then some v3.Rec.Next else (if (v3.Rec.Kind == 3) then some (w64 (v3.Rec.Uid + 1)) else (if (v3.Rec.Kind == 5) then some (w64 (v3.Rec.Uid + 1)) else some 0))) : Option Int).bind (fun y4 => (if decide (y4 > s1.1) then some (.inl (y4, w64 (s1.2 + 1))) else some (.inl (s1.1, w64 (s1.2 + 1)))))) else some (.inr s1.1))
noncomputable def F_spec_l07Next (x0 : List TItem) (x1 : Int) : Option Int :=
 (iter (S_spec_l07Next_1 x0 x1) (1, 0)).bind (fun y5 => some y5)
noncomputable def S_spec_l07Mails_2 (x0 : List TItem) (x1 : Int) (y7 : (List Int)) (s8 : Int × (List TMail)) : Option ((Int × (List TMail)) ⊕ (List TMail)) :=
 (if decide (s8.1 < (y7.length : Int)) then (at? y7 s8.1).bind fun v10 => (F_spec_l07Best x0 3 x1 v10).bind fun v11 => (at? y7 s8.1).bind fun v12 => (at? y7 s8.1).bind fun v13 => (F_spec_l07Best x0 4 x1 v13).bind fun v14 => ((if v14.2 then some v14.1.Rec.Flags else some v11.1.Rec.Flags) : Option Int).bind (fun y15 => (app? 32 s8.2 [({ Uid := v12, Flags := y15, Text := v11.1.Rec.Text } : TMail)]).bind fun v16 => some (.inl (w64 (s8.1 + 1), v16))) else some (.inr s8.2))
noncomputable def S_spec_l07Mails_1 (x0 : List TItem) (x1 : Int) (s1 : Int × (List Int)) : Option ((Int × (List Int)) ⊕ (List Int)) :=
 (if decide (s1.1 < (x0.length : Int)) then (at? x0 s1.1).bind fun v3 => (F_spec_l07Best x0 5 x1 v3.Rec.Uid).bind fun v4 => ((if (v3.Rec.Kind == 3) then (if (v3.Rec.Valid == x1) then some (!v4.2) else some false) else some false) : Option Bool).bind (fun y5 => (if y5 then (F_spec_l07Sorted s1.2 v3.Rec.Uid).bind fun v6 => some (.inl (w64 (s1.1 + 1), v6)) else some (.inl (w64 (s1.1 + 1), s1.2)))) else some (.inr s1.2))
noncomputable def F_spec_l07Mails (x0 : List TItem) (x1 : Int) : Option (List TMail) :=
 (iter (S_spec_l07Mails_1 x0 x1) (0, ([] : List Int))).bind (fun y7 => (iter (S_spec_l07Mails_2 x0 x1 y7) (0, ([] : List TMail))).bind (fun y17 => some y17))
noncomputable def S_spec_StateOf_2 (x0 : List TItem) (y7 : (List Int)) (s8 : Int × (List TBox)) : Option ((Int × (List TBox)) ⊕ (List TBox)) :=
 (if decide (s8.1 < (y7.length : Int)) then (at? y7 s8.1).bind fun v10 => (F_spec_l07Tell x0 v10).bind fun v11 => (at? y7 s8.1).bind fun v12 => (at? y7 s8.1).bind fun v13 => (F_spec_l07Next x0 v13).bind fun v14 => (at? y7 s8.1).bind fun v15 => (F_spec_l07Mails x0 v15).bind fun v16 => (app? 72 s8.2 [({ Valid := v12, User := v11.Rec.User, Name := v11.Rec.Name, Next := v14, Mails := v16 } : TBox)]).bind fun v17 => some (.inl (w64 (s8.1 + 1), v17)) else some (.inr s8.2))
noncomputable def S_spec_StateOf_1 (x0 : List TItem) (s2 : Int × (List Int)) : Option ((Int × (List Int)) ⊕ (List Int)) :=
 (if decide (s2.1 < (x0.length : Int)) then (at? x0 s2.1).bind fun v4 => (F_spec_l07Best x0 2 v4.Rec.Valid 0).bind fun v5 => (if (v4.Rec.Kind == 1) then (if !v5.2 then (F_spec_l07Sorted s2.2 v4.Rec.Valid).bind fun v6 => some (.inl (w64 (s2.1 + 1), v6)) else some (.inl (w64 (s2.1 + 1), s2.2))) else some (.inl (w64 (s2.1 + 1), s2.2))) else some (.inr s2.2))
noncomputable def F_spec_StateOf (x0 : List TItem) : Option TState :=
 (F_spec_ItemsOk x0).bind fun v1 => (if v1 then (iter (S_spec_StateOf_1 x0) (0, ([] : List Int))).bind (fun y7 => (iter (S_spec_StateOf_2 x0 y7) (0, ([] : List TBox))).bind (fun y18 => some ({ Boxes := y18 } : TState))) else some ({ Boxes := [] } : TState))
noncomputable def S_spec_ItemsOf_1 (x0 : TLog) (s1 : Int × (List TItem)) : Option ((Int × (List TItem)) ⊕ (List TItem)) :=
 (if decide (s1.1 < (x0.Used.length : Int)) then (at? x0.Used s1.1).bind fun v3 => (app? 96 s1.2 v3.Items).bind fun v4 => some (.inl (w64 (s1.1 + 1), v4)) else some (.inr s1.2))
noncomputable def F_spec_ItemsOf (x0 : TLog) : Option (List TItem) :=
 (iter (S_spec_ItemsOf_1 x0) (0, ([] : List TItem))).bind (fun y5 => some y5)
noncomputable def F_spec_StateNow (x0 : TStore) : Option TState :=
 (F_spec_ItemsOf x0.Log).bind fun v1 => (F_spec_StateOf v1).bind fun v2 => some ({ Boxes := v2.Boxes } : TState)
noncomputable def F_spec_FrameOk (x0 : TFrame) : Option Bool :=
 ((F_spec_l01In x0.Gen 1 1000000000).bind fun v2 => (if v2 then (F_spec_l01In x0.Seq 1 1000000000).bind fun v3 => (if v3 then (F_spec_l01In (x0.Body.length : Int) 1 180).bind fun v4 => some v4 else some false) else some false) : Option Bool).bind (fun y1 => some y1)
noncomputable def S_spec_l01Var_1 (s1 : Int × (List Int)) : Option ((Int × (List Int)) ⊕ (Int × (List Int))) :=
 (if decide (s1.1 > 127) then (app? 1 s1.2 [IntKind.u8.wrap (w64 ((Int.tmod s1.1 128) + 128))]).bind fun v3 => some (.inl (w64 (Int.tdiv s1.1 128), v3)) else some (.inr (s1.1, s1.2)))
noncomputable def F_spec_l01Var (x0 : Int) : Option (List UInt8) :=
 (iter (S_spec_l01Var_1) (x0, ([] : List Int))).bind (fun y4 => (app? 1 y4.2 [IntKind.u8.wrap y4.1]).bind fun v5 => some (v5.map ofI))
noncomputable def F_spec_l06Short (x0 : List UInt8) : Option (List UInt8) :=
 (F_spec_l01Var (x0.length : Int)).bind fun v1 => (cat? v1 x0).bind fun v2 => some v2
noncomputable def F_spec_RecText (x0 : TRec) : Option ((List UInt8) × Bool) :=
 (F_spec_RecOk x0).bind fun v1 => (if v1 then (F_spec_l01Var x0.Valid).bind fun v2 => (cat? ([IntKind.u8.wrap x0.Kind].map ofI) v2).bind fun v3 => (F_spec_l01Var x0.Uid).bind fun v4 => (cat? v3 v4).bind fun v5 => (F_spec_l01Var x0.Next).bind fun v6 => (cat? v5 v6).bind fun v7 => (F_spec_l01Var x0.Flags).bind fun v8 => (cat? v7 v8).bind fun v9 => (F_spec_l06Short x0.User).bind fun v10 => (cat? v9 v10).bind fun v11 => (F_spec_l06Short x0.Name).bind fun v12 => (cat? v11 v12).bind fun v13 => (F_spec_l06Short x0.Text).bind fun v14 => (cat? v13 v14).bind fun v15 => some (v15, true) else some ([], false))
noncomputable def F_spec_ItemFrame (x0 : TItem) (x1 : Int) : Option (TFrame × Bool) :=
 (F_spec_RecText x0.Rec).bind fun v1 => ((if !v1.2 then some true else (F_spec_FrameOk ({ Gen := x1, Seq := x0.Seq, Body := v1.1 } : TFrame)).bind fun v3 => (if v3 then some false else some true)) : Option Bool).bind (fun y2 => (if y2 then some (({ Gen := 0, Seq := 0, Body := [] } : TFrame), false) else some (({ Gen := x1, Seq := x0.Seq, Body := v1.1 } : TFrame), true)))
noncomputable def F_spec_l02Four (x0 : Int) : Option (List UInt8) :=
 some ([IntKind.u8.wrap (shrv .u32 x0 24), IntKind.u8.wrap (shrv .u32 x0 16), IntKind.u8.wrap (shrv .u32 x0 8), IntKind.u8.wrap x0].map ofI)
noncomputable def S_spec_SumMore_2 (s4 : Int × Int) : Option ((Int × Int) ⊕ Int) :=
 (if decide (s4.2 < 8) then (if ((Int.tmod s4.1 2) == 1) then some (.inl (xorv .u32 (IntKind.u32.wrap (Int.tdiv s4.1 2)) 3558460437, w64 (s4.2 + 1))) else some (.inl (IntKind.u32.wrap (Int.tdiv s4.1 2), w64 (s4.2 + 1)))) else some (.inr s4.1))
noncomputable def S_spec_SumMore_1 (x1 : List UInt8) (s1 : Int × Int) : Option ((Int × Int) ⊕ Int) :=
 (if decide (s1.2 < (x1.length : Int)) then (bt? x1 s1.2).bind fun v3 => (iter (S_spec_SumMore_2) (xorv .u32 s1.1 (IntKind.u32.wrap (v3.toNat : Int)), 0)).bind (fun y6 => some (.inl (y6, w64 (s1.2 + 1)))) else some (.inr s1.1))
noncomputable def F_spec_SumMore (x0 : Int) (x1 : List UInt8) : Option Int :=
 (iter (S_spec_SumMore_1 x1) (x0, 0)).bind (fun y7 => some y7)
noncomputable def F_spec_SumOf (x0 : List UInt8) : Option Int :=
 (F_spec_SumMore 4294967295 x0).bind fun v1 => some v1
noncomputable def F_spec_Sealed (x0 : List UInt8) : Option ((List UInt8) × Bool) :=
 (if decide ((x0.length : Int) > 20000) then some ([], false) else (F_spec_SumOf x0).bind fun v1 => (F_spec_l02Four v1).bind fun v2 => (cat? x0 v2).bind fun v3 => some (v3, true))
noncomputable def F_spec_FrameText (x0 : TFrame) : Option ((List UInt8) × Bool) :=
 (F_spec_FrameOk x0).bind fun v1 => (if v1 then (F_spec_l01Var x0.Gen).bind fun v2 => (F_spec_l01Var x0.Seq).bind fun v3 => (cat? v2 v3).bind fun v4 => (F_spec_l01Var (x0.Body.length : Int)).bind fun v5 => (cat? v4 v5).bind fun v6 => (cat? v6 x0.Body).bind fun v7 => (F_spec_Sealed v7).bind fun v8 => some (v8.1, v8.2) else some ([], false))
noncomputable def F_spec_FrameSize (x0 : TFrame) : Option Int :=
 (F_spec_FrameText x0).bind fun v1 => some (v1.1.length : Int)
noncomputable def F_spec_l08Bigger (x0 : TItem) (x1 : TItem) : Option Bool :=
 ((if decide (x0.Rec.Next > x1.Rec.Next) then some true else (if (x0.Rec.Next == x1.Rec.Next) then some (decide (x0.Seq > x1.Seq)) else some false)) : Option Bool).bind (fun y1 => some y1)
noncomputable def F_spec_l08Has (x0 : List TItem) (x1 : Int) (x2 : Int) (x3 : Int) : Option Bool :=
 (F_spec_l07Best x0 x1 x2 x3).bind fun v1 => some v1.2
noncomputable def F_spec_l08There (x0 : List TItem) (x1 : Int) : Option Bool :=
 (F_spec_l08Has x0 1 x1 0).bind fun v1 => (if v1 then (F_spec_l08Has x0 2 x1 0).bind fun v2 => some (!v2) else some false)
noncomputable def S_spec_l08Need_3 (x0 : List TItem) (v1 : TItem) (s22 : Int) : Option (Int ⊕ (Bool ⊕ Unit)) :=
 (if decide (s22 < (x0.length : Int)) then ((at? x0 s22).bind fun v25 => (if (v25.Rec.Kind == 1) then (at? x0 s22).bind fun v26 => (if (v26.Rec.Valid == v1.Rec.Valid) then (at? x0 s22).bind fun v27 => (F_spec_l08Bigger v27 v1).bind fun v28 => (if v28 then some true else some false) else some false) else some false) : Option Bool).bind (fun y24 => (if y24 then some (.inr (.inl false)) else some (.inl (w64 (s22 + 1))))) else some (.inr (.inr ())))
noncomputable def S_spec_l08Need_2 (x0 : List TItem) (v1 : TItem) (v15 : TItem × Bool) (s16 : Int) : Option (Int ⊕ (Bool ⊕ Unit)) :=
 (if decide (s16 < (x0.length : Int)) then ((at? x0 s16).bind fun v19 => (if (v19.Rec.Kind != 2) then (at? x0 s16).bind fun v20 => (if (v20.Rec.Valid == v1.Rec.Valid) then some true else some false) else some false) : Option Bool).bind (fun y18 => (if y18 then some (.inr (.inl (v15.1.Seq == v1.Seq))) else some (.inl (w64 (s16 + 1))))) else some (.inr (.inr ())))
noncomputable def S_spec_l08Need_1 (x0 : List TItem) (x1 : Int) (v1 : TItem) (s2 : Int) : Option (Int ⊕ (Bool ⊕ Unit)) :=
 (if decide (s2 < x1) then (at? x0 s2).bind fun v4 => (if (v4.Seq == v1.Seq) then some (.inr (.inl false)) else some (.inl (w64 (s2 + 1)))) else some (.inr (.inr ())))
noncomputable def F_spec_l08Need (x0 : List TItem) (x1 : Int) : Option Bool :=
 (at? x0 x1).bind fun v1 => (iter (S_spec_l08Need_1 x0 x1 v1) 0).bind (Sum.elim (fun r => some r) (fun y3 => (if (v1.Rec.Kind == 1) then (iter (S_spec_l08Need_3 x0 v1) 0).bind (Sum.elim (fun r => some r) (fun y23 => (F_spec_l08There x0 v1.Rec.Valid).bind fun v30 => some v30)) else (if (v1.Rec.Kind == 2) then (F_spec_l07Best x0 2 v1.Rec.Valid 0).bind fun v15 => (iter (S_spec_l08Need_2 x0 v1 v15) 0).bind (Sum.elim (fun r => some r) (fun y17 => some false)) else (if (v1.Rec.Kind == 5) then (F_spec_l07Best x0 5 v1.Rec.Valid v1.Rec.Uid).bind fun v11 => ((F_spec_l08There x0 v1.Rec.Valid).bind fun v13 => (if v13 then (F_spec_l08Has x0 3 v1.Rec.Valid v1.Rec.Uid).bind fun v14 => (if v14 then some (v11.1.Seq == v1.Seq) else some false) else some false) : Option Bool).bind (fun y12 => some y12) else (F_spec_l07Best x0 v1.Rec.Kind v1.Rec.Valid v1.Rec.Uid).bind fun v6 => ((F_spec_l08There x0 v1.Rec.Valid).bind fun v8 => (if v8 then (F_spec_l08Has x0 3 v1.Rec.Valid v1.Rec.Uid).bind fun v9 => (if v9 then (F_spec_l08Has x0 5 v1.Rec.Valid v1.Rec.Uid).bind fun v10 => (if v10 then some false else some (v6.1.Seq == v1.Seq)) else some false) else some false) : Option Bool).bind (fun y7 => some y7))))))
noncomputable def S_spec_NeededAll_2 (x0 : List TItem) (s6 : Int × (List Bool)) : Option ((Int × (List Bool)) ⊕ (List Bool)) :=
 (if decide (s6.1 < (x0.length : Int)) then (F_spec_l08Need x0 s6.1).bind fun v8 => (app? 1 s6.2 [v8]).bind fun v9 => some (.inl (w64 (s6.1 + 1), v9)) else some (.inr s6.2))
noncomputable def S_spec_NeededAll_1 (x0 : List TItem) (s2 : Int × (List Bool)) : Option ((Int × (List Bool)) ⊕ (List Bool)) :=
 (if decide (s2.1 < (x0.length : Int)) then (app? 1 s2.2 [false]).bind fun v4 => some (.inl (w64 (s2.1 + 1), v4)) else some (.inr s2.2))
noncomputable def F_spec_NeededAll (x0 : List TItem) : Option (List Bool) :=
 (F_spec_ItemsOk x0).bind fun v1 => (if v1 then (iter (S_spec_NeededAll_2 x0) (0, ([] : List Bool))).bind (fun y10 => some y10) else (iter (S_spec_NeededAll_1 x0) (0, ([] : List Bool))).bind (fun y5 => some y5))
noncomputable def S_spec_l12Freed_1 (x0 : TStore) (x1 : Int) (s1 : Int) : Option (Int ⊕ (Bool ⊕ Unit)) :=
 (if decide (s1 < (x0.Freed.length : Int)) then (at? x0.Freed s1).bind fun v3 => (if (v3 == x1) then some (.inr (.inl true)) else some (.inl (w64 (s1 + 1)))) else some (.inr (.inr ())))
noncomputable def F_spec_l12Freed (x0 : TStore) (x1 : Int) : Option Bool :=
 (iter (S_spec_l12Freed_1 x0 x1) 0).bind (Sum.elim (fun r => some r) (fun y2 => some false))
noncomputable def S_spec_l12Kept_1 (x0 : TStore) (s1 : Int × (List TItem)) : Option ((Int × (List TItem)) ⊕ (List TItem)) :=
 (if decide (s1.1 < (x0.Log.Used.length : Int)) then (at? x0.Log.Used s1.1).bind fun v3 => (F_spec_l12Freed x0 v3.No).bind fun v4 => (if v4 then some (.inl (w64 (s1.1 + 1), s1.2)) else (at? x0.Log.Used s1.1).bind fun v5 => (app? 96 s1.2 v5.Items).bind fun v6 => some (.inl (w64 (s1.1 + 1), v6))) else some (.inr s1.2))
noncomputable def F_spec_l12Kept (x0 : TStore) : Option (List TItem) :=
 (iter (S_spec_l12Kept_1 x0) (0, ([] : List TItem))).bind (fun y7 => some y7)
noncomputable def S_spec_l13Sizes_2 (x0 : TStore) (v2 : List Bool) (s3 : Int × Int × (List Int)) (s7 : Int × Int × Int) : Option ((Int × Int × Int) ⊕ (Int × Int)) :=
 (at? x0.Log.Used s3.2.1).bind fun v9 => (if decide (s7.2.2 < (v9.Items.length : Int)) then (at? v2 s7.1).bind fun v10 => ((if v10 then (at? x0.Log.Used s3.2.1).bind fun v12 => (at? v12.Items s7.2.2).bind fun v13 => (at? x0.Log.Used s3.2.1).bind fun v14 => (F_spec_ItemFrame v13 v14.Gen).bind fun v15 => (F_spec_FrameSize v15.1).bind fun v16 => some (w64 (s7.2.1 + v16)) else some s7.2.1) : Option Int).bind (fun y11 => some (.inl (w64 (s7.1 + 1), y11, w64 (s7.2.2 + 1)))) else some (.inr (s7.1, s7.2.1)))
noncomputable def S_spec_l13Sizes_1 (x0 : TStore) (v2 : List Bool) (s3 : Int × Int × (List Int)) : Option ((Int × Int × (List Int)) ⊕ (List Int)) :=
 (if decide (s3.2.1 < (x0.Log.Used.length : Int)) then (at? x0.Log.Used s3.2.1).bind fun v5 => (F_spec_l12Freed x0 v5.No).bind fun v6 => (if v6 then (app? 8 s3.2.2 ([0] : List Int)).bind fun v19 => some (.inl (s3.1, w64 (s3.2.1 + 1), v19)) else (iter (S_spec_l13Sizes_2 x0 v2 s3) (s3.1, 0, 0)).bind (fun y17 => (app? 8 s3.2.2 [y17.2]).bind fun v18 => some (.inl (y17.1, w64 (s3.2.1 + 1), v18)))) else some (.inr s3.2.2))
noncomputable def F_spec_l13Sizes (x0 : TStore) : Option (List Int) :=
 (F_spec_l12Kept x0).bind fun v1 => (F_spec_NeededAll v1).bind fun v2 => (iter (S_spec_l13Sizes_1 x0 v2) (0, 0, ([] : List Int))).bind (fun y20 => some y20)
noncomputable def S_spec_LiveBytes_1 (v1 : List Int) (s2 : Int × Int) : Option ((Int × Int) ⊕ Int) :=
 (if decide (s2.2 < (v1.length : Int)) then (at? v1 s2.2).bind fun v4 => some (.inl (w64 (s2.1 + v4), w64 (s2.2 + 1))) else some (.inr s2.1))
noncomputable def F_spec_LiveBytes (x0 : TStore) : Option Int :=
 (F_spec_l13Sizes x0).bind fun v1 => (iter (S_spec_LiveBytes_1 v1) (0, 0)).bind (fun y5 => some y5)
noncomputable def F_spec_RecSize (x0 : TRec) : Option Int :=
 (F_spec_ItemFrame ({ Seq := 1000000000, Rec := x0 } : TItem) 1000000000).bind fun v1 => (if !v1.2 then some 0 else (F_spec_FrameSize v1.1).bind fun v2 => some v2)
noncomputable def F_spec_Roomy (x0 : TStore) (x1 : TRec) : Option Bool :=
 (F_spec_StateNow x0).bind fun v1 => (F_spec_LiveBytes x0).bind fun v2 => (F_spec_RecSize x1).bind fun v3 => some (decide ((w64 ((w64 (v2 + v3)) + (w64 (40 * (v1.Boxes.length : Int))))) ≤ (w64 (80 * (w64 (x0.Log.Segs - 5))))))
noncomputable def F_impl_in (x0 : Int) (x1 : Int) (x2 : Int) : Option Bool :=
 (if decide (x0 ≥ x1) then some (decide (x0 ≤ x2)) else some false)
noncomputable def S_impl_WordOk_1 (x0 : List UInt8) (s2 : Int) : Option (Int ⊕ (Bool ⊕ Unit)) :=
 (if decide (s2 < (x0.length : Int)) then ((bt? x0 s2).bind fun v5 => (if decide ((v5.toNat : Int) < 97) then some true else (bt? x0 s2).bind fun v6 => (if decide ((v6.toNat : Int) > 122) then some true else some false)) : Option Bool).bind (fun y4 => (if y4 then some (.inr (.inl false)) else some (.inl (w64 (s2 + 1))))) else some (.inr (.inr ())))
noncomputable def F_impl_WordOk (x0 : List UInt8) : Option Bool :=
 (F_impl_in (x0.length : Int) 1 8).bind fun v1 => (if v1 then (iter (S_impl_WordOk_1 x0) 0).bind (Sum.elim (fun r => some r) (fun y3 => some true)) else some false)
noncomputable def F_impl_RecOk (x0 : TRec) : Option Bool :=
 (F_impl_in x0.Valid 1 9999).bind fun v1 => (if v1 then ((if (x0.Kind == 3) then some true else (if (x0.Kind == 4) then some true else (if (x0.Kind == 5) then some true else some false))) : Option Bool).bind (fun y2 => ((if y2 then (F_impl_in x0.Uid 1 9999).bind fun v4 => (if v4 then some (true, 0) else some (false, 0)) else some (true, x0.Uid)) : Option (Bool × Int)).bind (fun y3 => ((if (x0.Kind == 3) then some true else (if (x0.Kind == 4) then some true else some false)) : Option Bool).bind (fun y5 => ((if y5 then ((if y3.1 then (F_impl_in x0.Flags 0 7).bind fun v8 => (if v8 then some true else some false) else some false) : Option Bool).bind (fun y7 => some (y7, 0)) else some (y3.1, x0.Flags)) : Option (Bool × Int)).bind (fun y6 => ((if (x0.Kind == 1) then ((F_impl_WordOk x0.User).bind fun v12 => (if v12 then (F_impl_WordOk x0.Name).bind fun v13 => (if v13 then (F_impl_in x0.Next 1 10000).bind fun v14 => (if v14 then some true else some false) else some false) else some false) : Option Bool).bind (fun y11 => some (.inr (y11, 0, [], [], x0.Text))) else (if (x0.Kind == 3) then ((if y6.1 then (if decide ((x0.Text.length : Int) ≤ 100) then some true else some false) else some false) : Option Bool).bind (fun y10 => some (.inr (y10, x0.Next, x0.User, x0.Name, []))) else (if (x0.Kind == 2) then some (.inr (y6.1, x0.Next, x0.User, x0.Name, x0.Text)) else (if (x0.Kind == 4) then some (.inr (y6.1, x0.Next, x0.User, x0.Name, x0.Text)) else (if (x0.Kind == 5) then some (.inr (y6.1, x0.Next, x0.User, x0.Name, x0.Text)) else some (.inl false)))))) : Option (Bool ⊕ (Bool × Int × (List UInt8) × (List UInt8) × (List UInt8)))).bind (Sum.elim (fun r => some r) (fun y9_ => (if y9_.1 then some (0 == 0 && (0 == 0 && (y3.2 == 0 && (y9_.2.1 == 0 && (y6.2 == 0 && (y9_.2.2.1 == [] && (y9_.2.2.2.1 == [] && (y9_.2.2.2.2 == [] && true)))))))) else some false))))))) else some false)
noncomputable def F_impl_ItemsOk_1_w (x0 : TItem) (x1 : TItem) : Option Bool :=
 (if (x0.Seq == x1.Seq) then some (!(x0.Seq == x1.Seq && (x0.Rec.Kind == x1.Rec.Kind && (x0.Rec.Valid == x1.Rec.Valid && (x0.Rec.Uid == x1.Rec.Uid && (x0.Rec.Next == x1.Rec.Next && (x0.Rec.Flags == x1.Rec.Flags && (x0.Rec.User == x1.Rec.User && (x0.Rec.Name == x1.Rec.Name && (x0.Rec.Text == x1.Rec.Text && true)))))))))) else some false)
noncomputable def S_slices_IndexFunc_Item_ItemsOk_1_1 (x0 : List TItem) (x1 : TItem) (s1 : Int) : Option (Int ⊕ (Int ⊕ Unit)) :=
 (if decide (s1 < (x0.length : Int)) then (at? x0 s1).bind fun v3 => (F_impl_ItemsOk_1_w v3 x1).bind fun v4 => (if v4 then some (.inr (.inl s1)) else some (.inl (w64 (s1 + 1)))) else some (.inr (.inr ())))
noncomputable def F_slices_IndexFunc_Item_ItemsOk_1 (x0 : List TItem) (x1 : TItem) : Option Int :=
 (iter (S_slices_IndexFunc_Item_ItemsOk_1_1 x0 x1) 0).bind (Sum.elim (fun r => some r) (fun y2 => some (-1)))
noncomputable def F_slices_ContainsFunc_Item_ItemsOk_1 (x0 : List TItem) (x1 : TItem) : Option Bool :=
 (F_slices_IndexFunc_Item_ItemsOk_1 x0 x1).bind fun v1 => some (decide (v1 ≥ 0))
noncomputable def S_impl_ItemsOk_1 (x0 : List TItem) (s1 : Int) : Option (Int ⊕ (Bool ⊕ Unit)) :=
 (if decide (s1 < (x0.length : Int)) then (at? x0 s1).bind fun v3 => ((F_impl_in v3.Seq 1 1000000000).bind fun v5 => (if v5 then (F_impl_RecOk v3.Rec).bind fun v6 => (if v6 then some false else some true) else some true) : Option Bool).bind (fun y4 => (if y4 then some (.inr (.inl false)) else (sub? x0 0 s1).bind fun v7 => (F_slices_ContainsFunc_Item_ItemsOk_1 v7 v3).bind fun v8 => (if v8 then some (.inr (.inl false)) else some (.inl (w64 (s1 + 1)))))) else some (.inr (.inr ())))
noncomputable def F_impl_ItemsOk (x0 : List TItem) : Option Bool :=
 (if decide ((x0.length : Int) > 200) then some false else (iter (S_impl_ItemsOk_1 x0) 0).bind (Sum.elim (fun r => some r) (fun y2 => some true)))
noncomputable def F_impl_StateOf_1 (x0 : TRec) : Option (Int × Bool) :=
 some (x0.Valid, (x0.Kind == 1))
noncomputable def S_impl_numbers_StateOf_1_1 (x0 : List TItem) (s1 : Int × (List Int)) : Option ((Int × (List Int)) ⊕ (List Int)) :=
 (if decide (s1.1 < (x0.length : Int)) then (at? x0 s1.1).bind fun v3 => (F_impl_StateOf_1 v3.Rec).bind fun v4 => (if v4.2 then (app? 8 s1.2 [v4.1]).bind fun v5 => some (.inl (w64 (s1.1 + 1), v5)) else some (.inl (w64 (s1.1 + 1), s1.2))) else some (.inr s1.2))
noncomputable def F_impl_numbers_StateOf_1 (x0 : List TItem) : Option (List Int) :=
 (iter (S_impl_numbers_StateOf_1_1 x0) (0, ([] : List Int))).bind (fun y6 => (sort? y6).bind fun v7 => (comp? v7).bind fun v8 => some v8)
noncomputable def F_impl_about (x0 : TRec) (x1 : Int) (x2 : Int) : Option Bool :=
 (if (x0.Kind == x1) then some (x0.Valid == x2) else some false)
noncomputable def F_impl_boxThere_1_w (x0 : TRec) (x1 : Int) : Option Bool :=
 (F_impl_about x0 2 x1).bind fun v1 => some v1
noncomputable def F_impl_bySeq (x0 : TItem) (x1 : TItem) : Option Bool :=
 some (decide (x0.Seq < x1.Seq))
noncomputable def S_impl_latest_boxThere_1_bySeq_1 (x0 : List TItem) (x1 : Int) (s1 : Bool × Int × Int × Int × Int × Int × Int × Int × (List UInt8) × (List UInt8) × (List UInt8)) : Option ((Bool × Int × Int × Int × Int × Int × Int × Int × (List UInt8) × (List UInt8) × (List UInt8)) ⊕ (Bool × Int × Int × Int × Int × Int × Int × (List UInt8) × (List UInt8) × (List UInt8))) :=
 (if decide (s1.2.1 < (x0.length : Int)) then (at? x0 s1.2.1).bind fun v3 => ((F_impl_boxThere_1_w v3.Rec x1).bind fun v5 => (if v5 then (if !s1.1 then some true else (F_impl_bySeq ({ Seq := s1.2.2.1, Rec := ({ Kind := s1.2.2.2.1, Valid := s1.2.2.2.2.1, Uid := s1.2.2.2.2.2.1, Next := s1.2.2.2.2.2.2.1, Flags := s1.2.2.2.2.2.2.2.1, User := s1.2.2.2.2.2.2.2.2.1, Name := s1.2.2.2.2.2.2.2.2.2.1, Text := s1.2.2.2.2.2.2.2.2.2.2 } : TRec) } : TItem) v3).bind fun v6 => (if v6 then some true else some false)) else some false) : Option Bool).bind (fun y4 => (if y4 then some (.inl (true, w64 (s1.2.1 + 1), v3.Seq, v3.Rec.Kind, v3.Rec.Valid, v3.Rec.Uid, v3.Rec.Next, v3.Rec.Flags, v3.Rec.User, v3.Rec.Name, v3.Rec.Text)) else some (.inl (s1.1, w64 (s1.2.1 + 1), s1.2.2.1, s1.2.2.2.1, s1.2.2.2.2.1, s1.2.2.2.2.2.1, s1.2.2.2.2.2.2.1, s1.2.2.2.2.2.2.2.1, s1.2.2.2.2.2.2.2.2.1, s1.2.2.2.2.2.2.2.2.2.1, s1.2.2.2.2.2.2.2.2.2.2)))) else some (.inr (s1.1, s1.2.2.1, s1.2.2.2.1, s1.2.2.2.2.1, s1.2.2.2.2.2.1, s1.2.2.2.2.2.2.1, s1.2.2.2.2.2.2.2.1, s1.2.2.2.2.2.2.2.2.1, s1.2.2.2.2.2.2.2.2.2.1, s1.2.2.2.2.2.2.2.2.2.2)))
noncomputable def F_impl_latest_boxThere_1_bySeq (x0 : List TItem) (x1 : Int) : Option (TItem × Bool) :=
 (iter (S_impl_latest_boxThere_1_bySeq_1 x0 x1) (false, 0, 0, 0, 0, 0, 0, 0, [], [], [])).bind (fun y7 => some (({ Seq := y7.2.1, Rec := ({ Kind := y7.2.2.1, Valid := y7.2.2.2.1, Uid := y7.2.2.2.2.1, Next := y7.2.2.2.2.2.1, Flags := y7.2.2.2.2.2.2.1, User := y7.2.2.2.2.2.2.2.1, Name := y7.2.2.2.2.2.2.2.2.1, Text := y7.2.2.2.2.2.2.2.2.2 } : TRec) } : TItem), y7.1))
noncomputable def F_impl_boxThere_2_w (x0 : TRec) (x1 : Int) : Option Bool :=
 (F_impl_about x0 1 x1).bind fun v1 => some v1
noncomputable def F_impl_byNext (x0 : TItem) (x1 : TItem) : Option Bool :=
 (if (x0.Rec.Next != x1.Rec.Next) then some (decide (x0.Rec.Next < x1.Rec.Next)) else some (decide (x0.Seq < x1.Seq)))
noncomputable def S_impl_latest_boxThere_2_byNext_1 (x0 : List TItem) (x1 : Int) (s1 : Bool × Int × Int × Int × Int × Int × Int × Int × (List UInt8) × (List UInt8) × (List UInt8)) : Option ((Bool × Int × Int × Int × Int × Int × Int × Int × (List UInt8) × (List UInt8) × (List UInt8)) ⊕ (Bool × Int × Int × Int × Int × Int × Int × (List UInt8) × (List UInt8) × (List UInt8))) :=
 (if decide (s1.2.1 < (x0.length : Int)) then (at? x0 s1.2.1).bind fun v3 => ((F_impl_boxThere_2_w v3.Rec x1).bind fun v5 => (if v5 then (if !s1.1 then some true else (F_impl_byNext ({ Seq := s1.2.2.1, Rec := ({ Kind := s1.2.2.2.1, Valid := s1.2.2.2.2.1, Uid := s1.2.2.2.2.2.1, Next := s1.2.2.2.2.2.2.1, Flags := s1.2.2.2.2.2.2.2.1, User := s1.2.2.2.2.2.2.2.2.1, Name := s1.2.2.2.2.2.2.2.2.2.1, Text := s1.2.2.2.2.2.2.2.2.2.2 } : TRec) } : TItem) v3).bind fun v6 => (if v6 then some true else some false)) else some false) : Option Bool).bind (fun y4 => (if y4 then some (.inl (true, w64 (s1.2.1 + 1), v3.Seq, v3.Rec.Kind, v3.Rec.Valid, v3.Rec.Uid, v3.Rec.Next, v3.Rec.Flags, v3.Rec.User, v3.Rec.Name, v3.Rec.Text)) else some (.inl (s1.1, w64 (s1.2.1 + 1), s1.2.2.1, s1.2.2.2.1, s1.2.2.2.2.1, s1.2.2.2.2.2.1, s1.2.2.2.2.2.2.1, s1.2.2.2.2.2.2.2.1, s1.2.2.2.2.2.2.2.2.1, s1.2.2.2.2.2.2.2.2.2.1, s1.2.2.2.2.2.2.2.2.2.2)))) else some (.inr (s1.1, s1.2.2.1, s1.2.2.2.1, s1.2.2.2.2.1, s1.2.2.2.2.2.1, s1.2.2.2.2.2.2.1, s1.2.2.2.2.2.2.2.1, s1.2.2.2.2.2.2.2.2.1, s1.2.2.2.2.2.2.2.2.2.1, s1.2.2.2.2.2.2.2.2.2.2)))
noncomputable def F_impl_latest_boxThere_2_byNext (x0 : List TItem) (x1 : Int) : Option (TItem × Bool) :=
 (iter (S_impl_latest_boxThere_2_byNext_1 x0 x1) (false, 0, 0, 0, 0, 0, 0, 0, [], [], [])).bind (fun y7 => some (({ Seq := y7.2.1, Rec := ({ Kind := y7.2.2.1, Valid := y7.2.2.2.1, Uid := y7.2.2.2.2.1, Next := y7.2.2.2.2.2.1, Flags := y7.2.2.2.2.2.2.1, User := y7.2.2.2.2.2.2.2.1, Name := y7.2.2.2.2.2.2.2.2.1, Text := y7.2.2.2.2.2.2.2.2.2 } : TRec) } : TItem), y7.1))
noncomputable def F_impl_boxThere (x0 : List TItem) (x1 : Int) : Option (TItem × Bool) :=
 (F_impl_latest_boxThere_1_bySeq x0 x1).bind fun v1 => (if v1.2 then some (({ Seq := 0, Rec := ({ Kind := 0, Valid := 0, Uid := 0, Next := 0, Flags := 0, User := [], Name := [], Text := [] } : TRec) } : TItem), false) else (F_impl_latest_boxThere_2_byNext x0 x1).bind fun v2 => some (v2.1, v2.2))
noncomputable def F_impl_boxState_1_w (x0 : TRec) (x1c0 : Int) : Option (Int × Bool) :=
 (F_impl_about x0 3 x1c0).bind fun v1 => (if v1 then some (x0.Uid, true) else (F_impl_about x0 5 x1c0).bind fun v2 => some (x0.Uid, v2))
noncomputable def S_impl_numbers_boxState_1_1 (x0 : List TItem) (x1ac0 : Int) (s1 : Int × (List Int)) : Option ((Int × (List Int)) ⊕ (List Int)) :=
 (if decide (s1.1 < (x0.length : Int)) then (at? x0 s1.1).bind fun v3 => (F_impl_boxState_1_w v3.Rec x1ac0).bind fun v4 => (if v4.2 then (app? 8 s1.2 [v4.1]).bind fun v5 => some (.inl (w64 (s1.1 + 1), v5)) else some (.inl (w64 (s1.1 + 1), s1.2))) else some (.inr s1.2))
noncomputable def F_impl_numbers_boxState_1 (x0 : List TItem) (x1ac0 : Int) : Option (List Int) :=
 (iter (S_impl_numbers_boxState_1_1 x0 x1ac0) (0, ([] : List Int))).bind (fun y6 => (sort? y6).bind fun v7 => (comp? v7).bind fun v8 => some v8)
noncomputable def F_impl_mailItem_1_w (x0 : TRec) (x1 : Int) (x2 : Int) (x3 : Int) : Option Bool :=
 (F_impl_about x0 x1 x2).bind fun v1 => (if v1 then some (x0.Uid == x3) else some false)
noncomputable def S_impl_latest_mailItem_1_bySeq_1 (x0 : List TItem) (x1 : Int) (x2 : Int) (x3 : Int) (s1 : Bool × Int × Int × Int × Int × Int × Int × Int × (List UInt8) × (List UInt8) × (List UInt8)) : Option ((Bool × Int × Int × Int × Int × Int × Int × Int × (List UInt8) × (List UInt8) × (List UInt8)) ⊕ (Bool × Int × Int × Int × Int × Int × Int × (List UInt8) × (List UInt8) × (List UInt8))) :=
 (if decide (s1.2.1 < (x0.length : Int)) then (at? x0 s1.2.1).bind fun v3 => ((F_impl_mailItem_1_w v3.Rec x1 x2 x3).bind fun v5 => (if v5 then (if !s1.1 then some true else (F_impl_bySeq ({ Seq := s1.2.2.1, Rec := ({ Kind := s1.2.2.2.1, Valid := s1.2.2.2.2.1, Uid := s1.2.2.2.2.2.1, Next := s1.2.2.2.2.2.2.1, Flags := s1.2.2.2.2.2.2.2.1, User := s1.2.2.2.2.2.2.2.2.1, Name := s1.2.2.2.2.2.2.2.2.2.1, Text := s1.2.2.2.2.2.2.2.2.2.2 } : TRec) } : TItem) v3).bind fun v6 => (if v6 then some true else some false)) else some false) : Option Bool).bind (fun y4 => (if y4 then some (.inl (true, w64 (s1.2.1 + 1), v3.Seq, v3.Rec.Kind, v3.Rec.Valid, v3.Rec.Uid, v3.Rec.Next, v3.Rec.Flags, v3.Rec.User, v3.Rec.Name, v3.Rec.Text)) else some (.inl (s1.1, w64 (s1.2.1 + 1), s1.2.2.1, s1.2.2.2.1, s1.2.2.2.2.1, s1.2.2.2.2.2.1, s1.2.2.2.2.2.2.1, s1.2.2.2.2.2.2.2.1, s1.2.2.2.2.2.2.2.2.1, s1.2.2.2.2.2.2.2.2.2.1, s1.2.2.2.2.2.2.2.2.2.2)))) else some (.inr (s1.1, s1.2.2.1, s1.2.2.2.1, s1.2.2.2.2.1, s1.2.2.2.2.2.1, s1.2.2.2.2.2.2.1, s1.2.2.2.2.2.2.2.1, s1.2.2.2.2.2.2.2.2.1, s1.2.2.2.2.2.2.2.2.2.1, s1.2.2.2.2.2.2.2.2.2.2)))
noncomputable def F_impl_latest_mailItem_1_bySeq (x0 : List TItem) (x1 : Int) (x2 : Int) (x3 : Int) : Option (TItem × Bool) :=
 (iter (S_impl_latest_mailItem_1_bySeq_1 x0 x1 x2 x3) (false, 0, 0, 0, 0, 0, 0, 0, [], [], [])).bind (fun y7 => some (({ Seq := y7.2.1, Rec := ({ Kind := y7.2.2.1, Valid := y7.2.2.2.1, Uid := y7.2.2.2.2.1, Next := y7.2.2.2.2.2.1, Flags := y7.2.2.2.2.2.2.1, User := y7.2.2.2.2.2.2.2.1, Name := y7.2.2.2.2.2.2.2.2.1, Text := y7.2.2.2.2.2.2.2.2.2 } : TRec) } : TItem), y7.1))
noncomputable def F_impl_mailItem (x0 : List TItem) (x1 : Int) (x2 : Int) (x3 : Int) : Option (TItem × Bool) :=
 (F_impl_latest_mailItem_1_bySeq x0 x1 x2 x3).bind fun v1 => some (v1.1, v1.2)
noncomputable def F_impl_mailThere (x0 : List TItem) (x1 : Int) (x2 : Int) : Option (TItem × Bool) :=
 (F_impl_boxThere x0 x1).bind fun v1 => (if !v1.2 then some (({ Seq := 0, Rec := ({ Kind := 0, Valid := 0, Uid := 0, Next := 0, Flags := 0, User := [], Name := [], Text := [] } : TRec) } : TItem), false) else (F_impl_mailItem x0 5 x1 x2).bind fun v2 => (if v2.2 then some (({ Seq := 0, Rec := ({ Kind := 0, Valid := 0, Uid := 0, Next := 0, Flags := 0, User := [], Name := [], Text := [] } : TRec) } : TItem), false) else (F_impl_mailItem x0 3 x1 x2).bind fun v3 => some (v3.1, v3.2)))
noncomputable def S_impl_boxState_1 (x0 : List TItem) (x1 : TItem) (v1 : List Int) (s2 : Int × Int × (List TMail)) : Option ((Int × Int × (List TMail)) ⊕ (Int × (List TMail))) :=
 (if decide (s2.1 < (v1.length : Int)) then (at? v1 s2.1).bind fun v4 => (F_impl_mailThere x0 x1.Rec.Valid v4).bind fun v5 => (if !v5.2 then some (.inl (w64 (s2.1 + 1), (if w64 (v4 + 1) > s2.2.1 then w64 (v4 + 1) else s2.2.1), s2.2.2)) else (F_impl_mailItem x0 4 x1.Rec.Valid v4).bind fun v6 => ((if v6.2 then some v6.1.Rec.Flags else some v5.1.Rec.Flags) : Option Int).bind (fun y7 => (app? 32 s2.2.2 [({ Uid := v4, Flags := y7, Text := v5.1.Rec.Text } : TMail)]).bind fun v8 => some (.inl (w64 (s2.1 + 1), (if w64 (v4 + 1) > s2.2.1 then w64 (v4 + 1) else s2.2.1), v8)))) else some (.inr (s2.2.1, s2.2.2)))
noncomputable def F_impl_boxState (x0 : List TItem) (x1 : TItem) : Option TBox :=
 (F_impl_numbers_boxState_1 x0 x1.Rec.Valid).bind fun v1 => (iter (S_impl_boxState_1 x0 x1 v1) (0, x1.Rec.Next, ([] : List TMail))).bind (fun y9 => some ({ Valid := x1.Rec.Valid, User := x1.Rec.User, Name := x1.Rec.Name, Next := y9.1, Mails := y9.2 } : TBox))
noncomputable def S_impl_StateOf_1 (x0 : List TItem) (v2 : List Int) (s3 : Int × (List TBox)) : Option ((Int × (List TBox)) ⊕ (List TBox)) :=
 (if decide (s3.1 < (v2.length : Int)) then (at? v2 s3.1).bind fun v5 => (F_impl_boxThere x0 v5).bind fun v6 => (if v6.2 then (F_impl_boxState x0 v6.1).bind fun v7 => (app? 72 s3.2 [({ Valid := v7.Valid, User := v7.User, Name := v7.Name, Next := v7.Next, Mails := v7.Mails } : TBox)]).bind fun v8 => some (.inl (w64 (s3.1 + 1), v8)) else some (.inl (w64 (s3.1 + 1), s3.2))) else some (.inr s3.2))
noncomputable def F_impl_StateOf (x0 : List TItem) : Option TState :=
 (F_impl_ItemsOk x0).bind fun v1 => (if v1 then (F_impl_numbers_StateOf_1 x0).bind fun v2 => (iter (S_impl_StateOf_1 x0 v2) (0, ([] : List TBox))).bind (fun y9 => some ({ Boxes := y9 } : TState)) else some ({ Boxes := [] } : TState))
noncomputable def S_impl_ItemsOf_1 (x0 : TLog) (s1 : Int × (List TItem)) : Option ((Int × (List TItem)) ⊕ (List TItem)) :=
 (if decide (s1.1 < (x0.Used.length : Int)) then (at? x0.Used s1.1).bind fun v3 => (app? 96 s1.2 v3.Items).bind fun v4 => some (.inl (w64 (s1.1 + 1), v4)) else some (.inr s1.2))
noncomputable def F_impl_ItemsOf (x0 : TLog) : Option (List TItem) :=
 (iter (S_impl_ItemsOf_1 x0) (0, ([] : List TItem))).bind (fun y5 => some y5)
noncomputable def F_impl_StateNow (x0 : TStore) : Option TState :=
 (F_impl_ItemsOf x0.Log).bind fun v1 => (F_impl_StateOf v1).bind fun v2 => some ({ Boxes := v2.Boxes } : TState)
noncomputable def F_impl_FrameOk (x0 : TFrame) : Option Bool :=
 ((F_impl_in x0.Gen 1 1000000000).bind fun v2 => (if v2 then (F_impl_in x0.Seq 1 1000000000).bind fun v3 => (if v3 then (F_impl_in (x0.Body.length : Int) 1 180).bind fun v4 => some v4 else some false) else some false) : Option Bool).bind (fun y1 => some y1)
noncomputable def S_impl_varText_1 (s1 : Int × (List Int)) : Option ((Int × (List Int)) ⊕ (Int × (List Int))) :=
 (if decide (s1.1 > 127) then (app? 1 s1.2 [IntKind.u8.wrap (orv .i64 (andv .i64 s1.1 127) 128)]).bind fun v3 => some (.inl (shrv .i64 s1.1 7, v3)) else some (.inr (s1.1, s1.2)))
noncomputable def F_impl_varText (x0 : Int) : Option (List UInt8) :=
 (iter (S_impl_varText_1) (x0, ([] : List Int))).bind (fun y4 => (app? 1 y4.2 [IntKind.u8.wrap y4.1]).bind fun v5 => some (v5.map ofI))
noncomputable def S_impl_RecText_2 (x0 : TRec) (s8 : (List UInt8) × Int) : Option (((List UInt8) × Int) ⊕ (List UInt8)) :=
 (if decide (s8.2 < ([x0.User, x0.Name, x0.Text].length : Int)) then (at? [x0.User, x0.Name, x0.Text] s8.2).bind fun v10 => (F_impl_varText (v10.length : Int)).bind fun v11 => (cat? v11 v10).bind fun v12 => (cat? s8.1 v12).bind fun v13 => some (.inl (v13, w64 (s8.2 + 1))) else some (.inr s8.1))
noncomputable def S_impl_RecText_1 (x0 : TRec) (s2 : (List UInt8) × Int) : Option (((List UInt8) × Int) ⊕ (List UInt8)) :=
 (if decide (s2.2 < ([x0.Valid, x0.Uid, x0.Next, x0.Flags].length : Int)) then (at? [x0.Valid, x0.Uid, x0.Next, x0.Flags] s2.2).bind fun v4 => (F_impl_varText v4).bind fun v5 => (cat? s2.1 v5).bind fun v6 => some (.inl (v6, w64 (s2.2 + 1))) else some (.inr s2.1))
noncomputable def F_impl_RecText (x0 : TRec) : Option ((List UInt8) × Bool) :=
 (F_impl_RecOk x0).bind fun v1 => (if v1 then (iter (S_impl_RecText_1 x0) ([IntKind.u8.wrap x0.Kind].map ofI, 0)).bind (fun y7 => (iter (S_impl_RecText_2 x0) (y7, 0)).bind (fun y14 => some (y14, true))) else some ([], false))
noncomputable def F_impl_ItemFrame (x0 : TItem) (x1 : Int) : Option (TFrame × Bool) :=
 (F_impl_RecText x0.Rec).bind fun v1 => ((if !v1.2 then some true else (F_impl_FrameOk ({ Gen := x1, Seq := x0.Seq, Body := v1.1 } : TFrame)).bind fun v3 => (if v3 then some false else some true)) : Option Bool).bind (fun y2 => (if y2 then some (({ Gen := 0, Seq := 0, Body := [] } : TFrame), false) else some (({ Gen := x1, Seq := x0.Seq, Body := v1.1 } : TFrame), true)))
noncomputable def S_impl_SumMore_2 (s4 : Int × Int) : Option ((Int × Int) ⊕ Int) :=
 (if decide (s4.2 < 8) then (if ((andv .u32 s4.1 1) == 1) then some (.inl (xorv .u32 (shrv .u32 s4.1 1) 3558460437, w64 (s4.2 + 1))) else some (.inl (shrv .u32 s4.1 1, w64 (s4.2 + 1)))) else some (.inr s4.1))
noncomputable def S_impl_SumMore_1 (x1 : List UInt8) (s1 : Int × Int) : Option ((Int × Int) ⊕ Int) :=
 (if decide (s1.2 < (x1.length : Int)) then (bt? x1 s1.2).bind fun v3 => (iter (S_impl_SumMore_2) (xorv .u32 s1.1 (IntKind.u32.wrap (v3.toNat : Int)), 0)).bind (fun y6 => some (.inl (y6, w64 (s1.2 + 1)))) else some (.inr s1.1))
noncomputable def F_impl_SumMore (x0 : Int) (x1 : List UInt8) : Option Int :=
 (iter (S_impl_SumMore_1 x1) (x0, 0)).bind (fun y7 => some y7)
noncomputable def F_impl_SumOf (x0 : List UInt8) : Option Int :=
 (F_impl_SumMore 4294967295 x0).bind fun v1 => some v1
noncomputable def F_impl_seal (x0 : List UInt8) : Option (List UInt8) :=
 (F_impl_SumOf x0).bind fun v1 => some ([IntKind.u8.wrap (shrv .u32 v1 24), IntKind.u8.wrap (shrv .u32 v1 16), IntKind.u8.wrap (shrv .u32 v1 8), IntKind.u8.wrap v1].map ofI)
noncomputable def F_impl_Sealed (x0 : List UInt8) : Option ((List UInt8) × Bool) :=
 (if decide ((x0.length : Int) > 20000) then some ([], false) else (F_impl_seal x0).bind fun v1 => (cat? x0 v1).bind fun v2 => some (v2, true))
noncomputable def F_impl_FrameText (x0 : TFrame) : Option ((List UInt8) × Bool) :=
 (F_impl_FrameOk x0).bind fun v1 => (if v1 then (F_impl_varText x0.Gen).bind fun v2 => (F_impl_varText x0.Seq).bind fun v3 => (cat? v2 v3).bind fun v4 => (F_impl_varText (x0.Body.length : Int)).bind fun v5 => (cat? v4 v5).bind fun v6 => (cat? v6 x0.Body).bind fun v7 => (F_impl_Sealed v7).bind fun v8 => some (v8.1, v8.2) else some ([], false))
noncomputable def F_impl_FrameSize (x0 : TFrame) : Option Int :=
 (F_impl_FrameText x0).bind fun v1 => some (v1.1.length : Int)
noncomputable def S_slices_Index_int_1 (x0 : List Int) (x1 : Int) (s1 : Int) : Option (Int ⊕ (Int ⊕ Unit)) :=
 (if decide (s1 < (x0.length : Int)) then (at? x0 s1).bind fun v3 => (if (x1 == v3) then some (.inr (.inl s1)) else some (.inl (w64 (s1 + 1)))) else some (.inr (.inr ())))
noncomputable def F_slices_Index_int (x0 : List Int) (x1 : Int) : Option Int :=
 (iter (S_slices_Index_int_1 x0 x1) 0).bind (Sum.elim (fun r => some r) (fun y2 => some (-1)))
noncomputable def F_slices_Contains_int (x0 : List Int) (x1 : Int) : Option Bool :=
 (F_slices_Index_int x0 x1).bind fun v1 => some (decide (v1 ≥ 0))
noncomputable def F_impl_isFreed (x0 : TStore) (x1 : Int) : Option Bool :=
 (F_slices_Contains_int x0.Freed x1).bind fun v1 => some v1
noncomputable def F_impl_segAt (x0 : TStore) (x1 : Int) : Option Bool :=
 (F_impl_in x1 0 (w64 ((x0.Log.Used.length : Int) - 1))).bind fun v1 => (if v1 then (at? x0.Log.Used x1).bind fun v2 => (F_impl_isFreed x0 v2.No).bind fun v3 => some (!v3) else some false)
noncomputable def F_impl_needed_1_w (x0 : TItem) (x1 : TItem) : Option Bool :=
 some (x0.Seq == x1.Seq)
noncomputable def S_slices_IndexFunc_Item_needed_1_1 (x0 : List TItem) (x1 : TItem) (s1 : Int) : Option (Int ⊕ (Int ⊕ Unit)) :=
 (if decide (s1 < (x0.length : Int)) then (at? x0 s1).bind fun v3 => (F_impl_needed_1_w v3 x1).bind fun v4 => (if v4 then some (.inr (.inl s1)) else some (.inl (w64 (s1 + 1)))) else some (.inr (.inr ())))
noncomputable def F_slices_IndexFunc_Item_needed_1 (x0 : List TItem) (x1 : TItem) : Option Int :=
 (iter (S_slices_IndexFunc_Item_needed_1_1 x0 x1) 0).bind (Sum.elim (fun r => some r) (fun y2 => some (-1)))
noncomputable def F_slices_ContainsFunc_Item_needed_1 (x0 : List TItem) (x1 : TItem) : Option Bool :=
 (F_slices_IndexFunc_Item_needed_1 x0 x1).bind fun v1 => some (decide (v1 ≥ 0))
noncomputable def F_impl_needed_2_w (x0 : TItem) (x1 : TRec) : Option Bool :=
 (if (x0.Rec.Valid == x1.Valid) then some (x0.Rec.Kind != 2) else some false)
noncomputable def S_slices_IndexFunc_Item_needed_2_1 (x0 : List TItem) (x1 : TRec) (s1 : Int) : Option (Int ⊕ (Int ⊕ Unit)) :=
 (if decide (s1 < (x0.length : Int)) then (at? x0 s1).bind fun v3 => (F_impl_needed_2_w v3 x1).bind fun v4 => (if v4 then some (.inr (.inl s1)) else some (.inl (w64 (s1 + 1)))) else some (.inr (.inr ())))
noncomputable def F_slices_IndexFunc_Item_needed_2 (x0 : List TItem) (x1 : TRec) : Option Int :=
 (iter (S_slices_IndexFunc_Item_needed_2_1 x0 x1) 0).bind (Sum.elim (fun r => some r) (fun y2 => some (-1)))
noncomputable def F_slices_ContainsFunc_Item_needed_2 (x0 : List TItem) (x1 : TRec) : Option Bool :=
 (F_slices_IndexFunc_Item_needed_2 x0 x1).bind fun v1 => some (decide (v1 ≥ 0))
noncomputable def F_impl_needed_3_w (x0 : TRec) (x1 : TRec) : Option Bool :=
 (F_impl_about x0 2 x1.Valid).bind fun v1 => some v1
noncomputable def S_impl_latest_needed_3_bySeq_1 (x0 : List TItem) (x1 : TRec) (s1 : Bool × Int × Int × Int × Int × Int × Int × Int × (List UInt8) × (List UInt8) × (List UInt8)) : Option ((Bool × Int × Int × Int × Int × Int × Int × Int × (List UInt8) × (List UInt8) × (List UInt8)) ⊕ (Bool × Int × Int × Int × Int × Int × Int × (List UInt8) × (List UInt8) × (List UInt8))) :=
 (if decide (s1.2.1 < (x0.length : Int)) then (at? x0 s1.2.1).bind fun v3 => ((F_impl_needed_3_w v3.Rec x1).bind fun v5 => (if v5 then (if !s1.1 then some true else (F_impl_bySeq ({ Seq := s1.2.2.1, Rec := ({ Kind := s1.2.2.2.1, Valid := s1.2.2.2.2.1, Uid := s1.2.2.2.2.2.1, Next := s1.2.2.2.2.2.2.1, Flags := s1.2.2.2.2.2.2.2.1, User := s1.2.2.2.2.2.2.2.2.1, Name := s1.2.2.2.2.2.2.2.2.2.1, Text := s1.2.2.2.2.2.2.2.2.2.2 } : TRec) } : TItem) v3).bind fun v6 => (if v6 then some true else some false)) else some false) : Option Bool).bind (fun y4 => (if y4 then some (.inl (true, w64 (s1.2.1 + 1), v3.Seq, v3.Rec.Kind, v3.Rec.Valid, v3.Rec.Uid, v3.Rec.Next, v3.Rec.Flags, v3.Rec.User, v3.Rec.Name, v3.Rec.Text)) else some (.inl (s1.1, w64 (s1.2.1 + 1), s1.2.2.1, s1.2.2.2.1, s1.2.2.2.2.1, s1.2.2.2.2.2.1, s1.2.2.2.2.2.2.1, s1.2.2.2.2.2.2.2.1, s1.2.2.2.2.2.2.2.2.1, s1.2.2.2.2.2.2.2.2.2.1, s1.2.2.2.2.2.2.2.2.2.2)))) else some (.inr (s1.1, s1.2.2.1, s1.2.2.2.1, s1.2.2.2.2.1, s1.2.2.2.2.2.1, s1.2.2.2.2.2.2.1, s1.2.2.2.2.2.2.2.1, s1.2.2.2.2.2.2.2.2.1, s1.2.2.2.2.2.2.2.2.2.1, s1.2.2.2.2.2.2.2.2.2.2)))
noncomputable def F_impl_latest_needed_3_bySeq (x0 : List TItem) (x1 : TRec) : Option (TItem × Bool) :=
 (iter (S_impl_latest_needed_3_bySeq_1 x0 x1) (false, 0, 0, 0, 0, 0, 0, 0, [], [], [])).bind (fun y7 => some (({ Seq := y7.2.1, Rec := ({ Kind := y7.2.2.1, Valid := y7.2.2.2.1, Uid := y7.2.2.2.2.1, Next := y7.2.2.2.2.2.1, Flags := y7.2.2.2.2.2.2.1, User := y7.2.2.2.2.2.2.2.1, Name := y7.2.2.2.2.2.2.2.2.1, Text := y7.2.2.2.2.2.2.2.2.2 } : TRec) } : TItem), y7.1))
noncomputable def F_impl_needed (x0 : List TItem) (x1 : Int) : Option Bool :=
 (at? x0 x1).bind fun v1 => (sub? x0 0 x1).bind fun v2 => (F_slices_ContainsFunc_Item_needed_1 v2 v1).bind fun v3 => (if v3 then some false else ((if (v1.Rec.Kind == 1) then (F_impl_boxThere x0 v1.Rec.Valid).bind fun v15 => some (.inr (v15.2, v15.1.Seq, v15.1.Rec.Kind, v15.1.Rec.Valid, v15.1.Rec.Uid, v15.1.Rec.Next, v15.1.Rec.Flags, v15.1.Rec.User, v15.1.Rec.Name, v15.1.Rec.Text)) else (if (v1.Rec.Kind == 2) then (F_slices_ContainsFunc_Item_needed_2 x0 v1.Rec).bind fun v13 => (if v13 then (F_impl_latest_needed_3_bySeq x0 v1.Rec).bind fun v14 => some (.inr (v14.2, v14.1.Seq, v14.1.Rec.Kind, v14.1.Rec.Valid, v14.1.Rec.Uid, v14.1.Rec.Next, v14.1.Rec.Flags, v14.1.Rec.User, v14.1.Rec.Name, v14.1.Rec.Text)) else some (.inl false)) else (if (v1.Rec.Kind == 3) then (F_impl_mailThere x0 v1.Rec.Valid v1.Rec.Uid).bind fun v11 => (if !v11.2 then some (.inl false) else (F_impl_mailItem x0 v1.Rec.Kind v1.Rec.Valid v1.Rec.Uid).bind fun v12 => some (.inr (v12.2, v12.1.Seq, v12.1.Rec.Kind, v12.1.Rec.Valid, v12.1.Rec.Uid, v12.1.Rec.Next, v12.1.Rec.Flags, v12.1.Rec.User, v12.1.Rec.Name, v12.1.Rec.Text))) else ((if (v1.Rec.Kind == 4) then some true else some false) : Option Bool).bind (fun y5 => (if y5 then (F_impl_mailThere x0 v1.Rec.Valid v1.Rec.Uid).bind fun v9 => (if !v9.2 then some (.inl false) else (F_impl_mailItem x0 v1.Rec.Kind v1.Rec.Valid v1.Rec.Uid).bind fun v10 => some (.inr (v10.2, v10.1.Seq, v10.1.Rec.Kind, v10.1.Rec.Valid, v10.1.Rec.Uid, v10.1.Rec.Next, v10.1.Rec.Flags, v10.1.Rec.User, v10.1.Rec.Name, v10.1.Rec.Text))) else (if (v1.Rec.Kind == 5) then (F_impl_boxThere x0 v1.Rec.Valid).bind fun v6 => (F_impl_mailItem x0 3 v1.Rec.Valid v1.Rec.Uid).bind fun v7 => (if !v6.2 then some (.inl false) else (if !v7.2 then some (.inl false) else (F_impl_mailItem x0 5 v1.Rec.Valid v1.Rec.Uid).bind fun v8 => some (.inr (v8.2, v8.1.Seq, v8.1.Rec.Kind, v8.1.Rec.Valid, v8.1.Rec.Uid, v8.1.Rec.Next, v8.1.Rec.Flags, v8.1.Rec.User, v8.1.Rec.Name, v8.1.Rec.Text)))) else some (.inr (false, 0, 0, 0, 0, 0, 0, [], [], [])))))))) : Option (Bool ⊕ (Bool × Int × Int × Int × Int × Int × Int × (List UInt8) × (List UInt8) × (List UInt8)))).bind (Sum.elim (fun r => some r) (fun y4_ => (if y4_.1 then some (y4_.2.1 == v1.Seq && (y4_.2.2.1 == v1.Rec.Kind && (y4_.2.2.2.1 == v1.Rec.Valid && (y4_.2.2.2.2.1 == v1.Rec.Uid && (y4_.2.2.2.2.2.1 == v1.Rec.Next && (y4_.2.2.2.2.2.2.1 == v1.Rec.Flags && (y4_.2.2.2.2.2.2.2.1 == v1.Rec.User && (y4_.2.2.2.2.2.2.2.2.1 == v1.Rec.Name && (y4_.2.2.2.2.2.2.2.2.2 == v1.Rec.Text && true))))))))) else some false))))
noncomputable def S_impl_NeededAll_2 (x0 : List TItem) (s6 : Int × (List Bool)) : Option ((Int × (List Bool)) ⊕ (List Bool)) :=
 (if decide (s6.1 < (x0.length : Int)) then (F_impl_needed x0 s6.1).bind fun v8 => (app? 1 s6.2 [v8]).bind fun v9 => some (.inl (w64 (s6.1 + 1), v9)) else some (.inr s6.2))
noncomputable def S_impl_NeededAll_1 (x0 : List TItem) (s2 : Int × (List Bool)) : Option ((Int × (List Bool)) ⊕ (List Bool)) :=
 (if decide (s2.1 < (x0.length : Int)) then (app? 1 s2.2 [false]).bind fun v4 => some (.inl (w64 (s2.1 + 1), v4)) else some (.inr s2.2))
noncomputable def F_impl_NeededAll (x0 : List TItem) : Option (List Bool) :=
 (F_impl_ItemsOk x0).bind fun v1 => (if v1 then (iter (S_impl_NeededAll_2 x0) (0, ([] : List Bool))).bind (fun y10 => some y10) else (iter (S_impl_NeededAll_1 x0) (0, ([] : List Bool))).bind (fun y5 => some y5))
noncomputable def S_impl_keptItems_1 (x0 : TStore) (s1 : Int × (List TItem)) : Option ((Int × (List TItem)) ⊕ (List TItem)) :=
 (if decide (s1.1 < (x0.Log.Used.length : Int)) then (at? x0.Log.Used s1.1).bind fun v3 => (F_impl_isFreed x0 v3.No).bind fun v4 => (if v4 then some (.inl (w64 (s1.1 + 1), s1.2)) else (app? 96 s1.2 v3.Items).bind fun v5 => some (.inl (w64 (s1.1 + 1), v5))) else some (.inr s1.2))
noncomputable def F_impl_keptItems (x0 : TStore) : Option (List TItem) :=
 (iter (S_impl_keptItems_1 x0) (0, ([] : List TItem))).bind (fun y6 => some y6)
noncomputable def S_impl_liveOf_2 (y6 : Int) (v8 : List Bool) (v9 : TSeg) (s10 : Int × (List Int)) : Option ((Int × (List Int)) ⊕ (List Int)) :=
 (if decide (s10.1 < (v9.Items.length : Int)) then (at? v8 (w64 (y6 + s10.1))).bind fun v12 => (if v12 then (app? 8 s10.2 [s10.1]).bind fun v13 => some (.inl (w64 (s10.1 + 1), v13)) else some (.inl (w64 (s10.1 + 1), s10.2))) else some (.inr s10.2))
noncomputable def S_impl_liveOf_1 (x0 : TStore) (v1 : List TSeg) (s2 : Int × Int) : Option ((Int × Int) ⊕ Int) :=
 (if decide (s2.2 < (v1.length : Int)) then (at? v1 s2.2).bind fun v4 => (F_impl_isFreed x0 v4.No).bind fun v5 => (if v5 then some (.inl (s2.1, w64 (s2.2 + 1))) else some (.inl (w64 (s2.1 + (v4.Items.length : Int)), w64 (s2.2 + 1)))) else some (.inr s2.1))
noncomputable def F_impl_liveOf (x0 : TStore) (x1 : Int) : Option (List Int) :=
 (sub? x0.Log.Used 0 x1).bind fun v1 => (iter (S_impl_liveOf_1 x0 v1) (0, 0)).bind (fun y6 => (F_impl_keptItems x0).bind fun v7 => (F_impl_NeededAll v7).bind fun v8 => (at? x0.Log.Used x1).bind fun v9 => (iter (S_impl_liveOf_2 y6 v8 v9) (0, ([] : List Int))).bind (fun y14 => some y14))
noncomputable def S_impl_LiveOf_1 (v2 : TSeg) (v3 : List Int) (s4 : Int × Int) : Option ((Int × Int) ⊕ Int) :=
 (if decide (s4.2 < (v3.length : Int)) then (at? v3 s4.2).bind fun v6 => (at? v2.Items v6).bind fun v7 => (F_impl_ItemFrame v7 v2.Gen).bind fun v8 => (F_impl_FrameSize v8.1).bind fun v9 => some (.inl (w64 (s4.1 + v9), w64 (s4.2 + 1))) else some (.inr s4.1))
noncomputable def F_impl_LiveOf (x0 : TStore) (x1 : Int) : Option Int :=
 (F_impl_segAt x0 x1).bind fun v1 => (if v1 then (at? x0.Log.Used x1).bind fun v2 => (F_impl_liveOf x0 x1).bind fun v3 => (iter (S_impl_LiveOf_1 v2 v3) (0, 0)).bind (fun y10 => some y10) else some 0)
noncomputable def S_impl_LiveBytes_1 (x0 : TStore) (s1 : Int × Int) : Option ((Int × Int) ⊕ Int) :=
 (if decide (s1.2 < (x0.Log.Used.length : Int)) then (F_impl_LiveOf x0 s1.2).bind fun v3 => some (.inl (w64 (s1.1 + v3), w64 (s1.2 + 1))) else some (.inr s1.1))
noncomputable def F_impl_LiveBytes (x0 : TStore) : Option Int :=
 (iter (S_impl_LiveBytes_1 x0) (0, 0)).bind (fun y4 => some y4)
noncomputable def F_impl_RecSize (x0 : TRec) : Option Int :=
 (F_impl_ItemFrame ({ Seq := 1000000000, Rec := x0 } : TItem) 1000000000).bind fun v1 => (if !v1.2 then some 0 else (F_impl_FrameSize v1.1).bind fun v2 => some v2)
noncomputable def F_impl_Roomy (x0 : TStore) (x1 : TRec) : Option Bool :=
 (F_impl_LiveBytes x0).bind fun v1 => (F_impl_RecSize x1).bind fun v2 => (F_impl_StateNow x0).bind fun v3 => some (decide ((w64 ((w64 (v1 + v2)) + (w64 (40 * (v3.Boxes.length : Int))))) ≤ (w64 (80 * (w64 (x0.Log.Segs - 5))))))
noncomputable def F_laws_FnExactRoomy (x0 : TStore) (x1 : TRec) : Option Bool :=
 (F_laws_szStore x0 1048576).bind fun v1 => (if decide (v1 < 0) then some true else (F_laws_szRec x1 v1).bind fun v2 => (if decide (v2 < 0) then some true else (F_laws_toStore x0).bind fun v3 => (F_laws_toRec x1).bind fun v4 => (F_spec_Roomy v3 v4).bind fun v5 => (F_laws_toStore x0).bind fun v6 => (F_laws_toRec x1).bind fun v7 => (F_impl_Roomy v6 v7).bind fun v8 => (if !(v8 == v5) then some false else (F_laws_toStore x0).bind fun v9 => (F_laws_eqStore v6 v9).bind fun v10 => (if v10 then some true else some false))))
end Go.Proofs.YtcehlicmghnghaaGreat.V
