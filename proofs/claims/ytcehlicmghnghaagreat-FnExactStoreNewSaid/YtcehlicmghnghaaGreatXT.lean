/- Records, and what the functions compute. -/
import Derived.Test.YtcehlicmghnghaaGreatXE
/- Records, and how they lie in cells. -/
namespace Go.Proofs.YtcehlicmghnghaaGreat.V
open Go Go.Proofs Go.RowKit
set_option maxRecDepth 100000
structure TWrite where
  At : Int
  Text : List UInt8
def enc_TWrite (_ : Bool) (x : TWrite) : List AV := [.int .i64 x.At, .str x.Text]
theorem sc_TWrite (o : Bool) (x : TWrite) : ∀ v ∈ enc_TWrite o x, Scl v := (fac .int (fac .str fan))
theorem fk_TWrite : FlatOk enc_TWrite 2 := ⟨⟨fun _ _ => rfl, by omega, fun _ _ => (fac .int (fac .str fan)), fun _ => (fac .int (fac .str fan)), fun _ => (.cons .refl (.cons .refl .nil))⟩, fun _ => rfl, fun _ _ => (fac rfl (fac rfl fan)), fun _ _ => (fac rfl (fac rfl fan))⟩
theorem ek_TWrite : EncOk enc_TWrite 2 := fk_TWrite.toEncOk
structure TDisk where
  Sectors : List (List UInt8)
  Cache : List TWrite
def enc_TDisk (o : Bool) (x : TDisk) : List AV := [.lst o 1 (fl (encS o) x.Sectors) x.Sectors.length, .lst o 2 (fl (enc_TWrite o) x.Cache) x.Cache.length]
theorem ek_TDisk : EncOk enc_TDisk 2 := ⟨fun _ _ => rfl, by omega, fun _ _ => (fac (.lst (ekS.fdat _ _)) (fac (.lst (ek_TWrite.fdat _ _)) fan)), fun _ => (fac (.lst (ekS.fown _)) (fac (.lst (ek_TWrite.fown _)) fan)), fun _ => (.cons (ekS.fflag _).lst (.cons (ek_TWrite.fflag _).lst .nil))⟩
structure TRec where
  Kind : Int
  Valid : Int
  Uid : Int
  Next : Int
  Flags : Int
  User : List UInt8
  Name : List UInt8
  Text : List UInt8
def enc_TRec (_ : Bool) (x : TRec) : List AV := [.int .i64 x.Kind, .int .i64 x.Valid, .int .i64 x.Uid, .int .i64 x.Next, .int .i64 x.Flags, .str x.User, .str x.Name, .str x.Text]
theorem sc_TRec (o : Bool) (x : TRec) : ∀ v ∈ enc_TRec o x, Scl v := (fac .int (fac .int (fac .int (fac .int (fac .int (fac .str (fac .str (fac .str fan))))))))
theorem fk_TRec : FlatOk enc_TRec 8 := ⟨⟨fun _ _ => rfl, by omega, fun _ _ => (fac .int (fac .int (fac .int (fac .int (fac .int (fac .str (fac .str (fac .str fan)))))))), fun _ => (fac .int (fac .int (fac .int (fac .int (fac .int (fac .str (fac .str (fac .str fan)))))))), fun _ => (.cons .refl (.cons .refl (.cons .refl (.cons .refl (.cons .refl (.cons .refl (.cons .refl (.cons .refl .nil))))))))⟩, fun _ => rfl, fun _ _ => (fac rfl (fac rfl (fac rfl (fac rfl (fac rfl (fac rfl (fac rfl (fac rfl fan)))))))), fun _ _ => (fac rfl (fac rfl (fac rfl (fac rfl (fac rfl (fac rfl (fac rfl (fac rfl fan))))))))⟩
theorem ek_TRec : EncOk enc_TRec 8 := fk_TRec.toEncOk
structure TItem where
  Seq : Int
  Rec : TRec
def enc_TItem (_ : Bool) (x : TItem) : List AV := [.int .i64 x.Seq, .int .i64 x.Rec.Kind, .int .i64 x.Rec.Valid, .int .i64 x.Rec.Uid, .int .i64 x.Rec.Next, .int .i64 x.Rec.Flags, .str x.Rec.User, .str x.Rec.Name, .str x.Rec.Text]
theorem sc_TItem (o : Bool) (x : TItem) : ∀ v ∈ enc_TItem o x, Scl v := (fac .int (fac .int (fac .int (fac .int (fac .int (fac .int (fac .str (fac .str (fac .str fan)))))))))
theorem fk_TItem : FlatOk enc_TItem 9 := ⟨⟨fun _ _ => rfl, by omega, fun _ _ => (fac .int (fac .int (fac .int (fac .int (fac .int (fac .int (fac .str (fac .str (fac .str fan))))))))), fun _ => (fac .int (fac .int (fac .int (fac .int (fac .int (fac .int (fac .str (fac .str (fac .str fan))))))))), fun _ => (.cons .refl (.cons .refl (.cons .refl (.cons .refl (.cons .refl (.cons .refl (.cons .refl (.cons .refl (.cons .refl .nil)))))))))⟩, fun _ => rfl, fun _ _ => (fac rfl (fac rfl (fac rfl (fac rfl (fac rfl (fac rfl (fac rfl (fac rfl (fac rfl fan))))))))), fun _ _ => (fac rfl (fac rfl (fac rfl (fac rfl (fac rfl (fac rfl (fac rfl (fac rfl (fac rfl fan)))))))))⟩
theorem ek_TItem : EncOk enc_TItem 9 := fk_TItem.toEncOk
structure TSeg where
  No : Int
  Gen : Int
  End : Int
  Items : List TItem
def enc_TSeg (o : Bool) (x : TSeg) : List AV := [.int .i64 x.No, .int .i64 x.Gen, .int .i64 x.End, .lst o 9 (fl (enc_TItem o) x.Items) x.Items.length]
theorem ek_TSeg : EncOk enc_TSeg 4 := ⟨fun _ _ => rfl, by omega, fun _ _ => (fac .int (fac .int (fac .int (fac (.lst (ek_TItem.fdat _ _)) fan)))), fun _ => (fac .int (fac .int (fac .int (fac (.lst (ek_TItem.fown _)) fan)))), fun _ => (.cons .refl (.cons .refl (.cons .refl (.cons (ek_TItem.fflag _).lst .nil))))⟩
structure TLog where
  Disk : TDisk
  Segs : Int
  Used : List TSeg
  NextGen : Int
  NextSeq : Int
  Stamp : Int
  NextValid : Int
def enc_TLog (o : Bool) (x : TLog) : List AV := [.lst o 1 (fl (encS o) x.Disk.Sectors) x.Disk.Sectors.length, .lst o 2 (fl (enc_TWrite o) x.Disk.Cache) x.Disk.Cache.length, .int .i64 x.Segs, .lst o 4 (fl (enc_TSeg o) x.Used) x.Used.length, .int .i64 x.NextGen, .int .i64 x.NextSeq, .int .i64 x.Stamp, .int .i64 x.NextValid]
theorem ek_TLog : EncOk enc_TLog 8 := ⟨fun _ _ => rfl, by omega, fun _ _ => (fac (.lst (ekS.fdat _ _)) (fac (.lst (ek_TWrite.fdat _ _)) (fac .int (fac (.lst (ek_TSeg.fdat _ _)) (fac .int (fac .int (fac .int (fac .int fan)))))))), fun _ => (fac (.lst (ekS.fown _)) (fac (.lst (ek_TWrite.fown _)) (fac .int (fac (.lst (ek_TSeg.fown _)) (fac .int (fac .int (fac .int (fac .int fan)))))))), fun _ => (.cons (ekS.fflag _).lst (.cons (ek_TWrite.fflag _).lst (.cons .refl (.cons (ek_TSeg.fflag _).lst (.cons .refl (.cons .refl (.cons .refl (.cons .refl .nil))))))))⟩
structure TFrame where
  Gen : Int
  Seq : Int
  Body : List UInt8
def enc_TFrame (_ : Bool) (x : TFrame) : List AV := [.int .i64 x.Gen, .int .i64 x.Seq, .str x.Body]
theorem sc_TFrame (o : Bool) (x : TFrame) : ∀ v ∈ enc_TFrame o x, Scl v := (fac .int (fac .int (fac .str fan)))
theorem fk_TFrame : FlatOk enc_TFrame 3 := ⟨⟨fun _ _ => rfl, by omega, fun _ _ => (fac .int (fac .int (fac .str fan))), fun _ => (fac .int (fac .int (fac .str fan))), fun _ => (.cons .refl (.cons .refl (.cons .refl .nil)))⟩, fun _ => rfl, fun _ _ => (fac rfl (fac rfl (fac rfl fan))), fun _ _ => (fac rfl (fac rfl (fac rfl fan)))⟩
theorem ek_TFrame : EncOk enc_TFrame 3 := fk_TFrame.toEncOk
structure TRef where
  No : Int
  Gen : Int
def enc_TRef (_ : Bool) (x : TRef) : List AV := [.int .i64 x.No, .int .i64 x.Gen]
theorem sc_TRef (o : Bool) (x : TRef) : ∀ v ∈ enc_TRef o x, Scl v := (fac .int (fac .int fan))
theorem fk_TRef : FlatOk enc_TRef 2 := ⟨⟨fun _ _ => rfl, by omega, fun _ _ => (fac .int (fac .int fan)), fun _ => (fac .int (fac .int fan)), fun _ => (.cons .refl (.cons .refl .nil))⟩, fun _ => rfl, fun _ _ => (fac rfl (fac rfl fan)), fun _ _ => (fac rfl (fac rfl fan))⟩
theorem ek_TRef : EncOk enc_TRef 2 := fk_TRef.toEncOk
structure TCheck where
  Stamp : Int
  NextGen : Int
  NextSeq : Int
  NextValid : Int
  Refs : List TRef
def enc_TCheck (o : Bool) (x : TCheck) : List AV := [.int .i64 x.Stamp, .int .i64 x.NextGen, .int .i64 x.NextSeq, .int .i64 x.NextValid, .lst o 2 (fl (enc_TRef o) x.Refs) x.Refs.length]
theorem ek_TCheck : EncOk enc_TCheck 5 := ⟨fun _ _ => rfl, by omega, fun _ _ => (fac .int (fac .int (fac .int (fac .int (fac (.lst (ek_TRef.fdat _ _)) fan))))), fun _ => (fac .int (fac .int (fac .int (fac .int (fac (.lst (ek_TRef.fown _)) fan))))), fun _ => (.cons .refl (.cons .refl (.cons .refl (.cons .refl (.cons (ek_TRef.fflag _).lst .nil)))))⟩
structure TStore where
  Log : TLog
  Freed : List Int
def enc_TStore (o : Bool) (x : TStore) : List AV := [.lst o 1 (fl (encS o) x.Log.Disk.Sectors) x.Log.Disk.Sectors.length, .lst o 2 (fl (enc_TWrite o) x.Log.Disk.Cache) x.Log.Disk.Cache.length, .int .i64 x.Log.Segs, .lst o 4 (fl (enc_TSeg o) x.Log.Used) x.Log.Used.length, .int .i64 x.Log.NextGen, .int .i64 x.Log.NextSeq, .int .i64 x.Log.Stamp, .int .i64 x.Log.NextValid, .lst o 1 (fl (encI o) x.Freed) x.Freed.length]
theorem ek_TStore : EncOk enc_TStore 9 := ⟨fun _ _ => rfl, by omega, fun _ _ => (fac (.lst (ekS.fdat _ _)) (fac (.lst (ek_TWrite.fdat _ _)) (fac .int (fac (.lst (ek_TSeg.fdat _ _)) (fac .int (fac .int (fac .int (fac .int (fac (.lst (ekI.fdat _ _)) fan))))))))), fun _ => (fac (.lst (ekS.fown _)) (fac (.lst (ek_TWrite.fown _)) (fac .int (fac (.lst (ek_TSeg.fown _)) (fac .int (fac .int (fac .int (fac .int (fac (.lst (ekI.fown _)) fan))))))))), fun _ => (.cons (ekS.fflag _).lst (.cons (ek_TWrite.fflag _).lst (.cons .refl (.cons (ek_TSeg.fflag _).lst (.cons .refl (.cons .refl (.cons .refl (.cons .refl (.cons (ekI.fflag _).lst .nil)))))))))⟩
structure TMail where
  Uid : Int
  Flags : Int
  Text : List UInt8
def enc_TMail (_ : Bool) (x : TMail) : List AV := [.int .i64 x.Uid, .int .i64 x.Flags, .str x.Text]
theorem sc_TMail (o : Bool) (x : TMail) : ∀ v ∈ enc_TMail o x, Scl v := (fac .int (fac .int (fac .str fan)))
theorem fk_TMail : FlatOk enc_TMail 3 := ⟨⟨fun _ _ => rfl, by omega, fun _ _ => (fac .int (fac .int (fac .str fan))), fun _ => (fac .int (fac .int (fac .str fan))), fun _ => (.cons .refl (.cons .refl (.cons .refl .nil)))⟩, fun _ => rfl, fun _ _ => (fac rfl (fac rfl (fac rfl fan))), fun _ _ => (fac rfl (fac rfl (fac rfl fan)))⟩
theorem ek_TMail : EncOk enc_TMail 3 := fk_TMail.toEncOk
structure TBox where
  Valid : Int
  User : List UInt8
  Name : List UInt8
  Next : Int
  Mails : List TMail
def enc_TBox (o : Bool) (x : TBox) : List AV := [.int .i64 x.Valid, .str x.User, .str x.Name, .int .i64 x.Next, .lst o 3 (fl (enc_TMail o) x.Mails) x.Mails.length]
theorem ek_TBox : EncOk enc_TBox 5 := ⟨fun _ _ => rfl, by omega, fun _ _ => (fac .int (fac .str (fac .str (fac .int (fac (.lst (ek_TMail.fdat _ _)) fan))))), fun _ => (fac .int (fac .str (fac .str (fac .int (fac (.lst (ek_TMail.fown _)) fan))))), fun _ => (.cons .refl (.cons .refl (.cons .refl (.cons .refl (.cons (ek_TMail.fflag _).lst .nil)))))⟩
structure TState where
  Boxes : List TBox
def enc_TState (o : Bool) (x : TState) : List AV := [.lst o 5 (fl (enc_TBox o) x.Boxes) x.Boxes.length]
theorem ek_TState : EncOk enc_TState 1 := ⟨fun _ _ => rfl, by omega, fun _ _ => (fac (.lst (ek_TBox.fdat _ _)) fan), fun _ => (fac (.lst (ek_TBox.fown _)) fan), fun _ => (.cons (ek_TBox.fflag _).lst .nil)⟩
def wf_TWrite (x : TWrite) : Prop := ((Lit.int .i64 x.At).wf = true) ∧ (x.Text.length ≤ maxLen) ∧ True
def wf_TDisk (x : TDisk) : Prop := (x.Sectors.length ≤ maxLen ∧ ∀ a ∈ x.Sectors, a.length ≤ maxLen) ∧ (x.Cache.length ≤ maxLen ∧ ∀ a ∈ x.Cache, wf_TWrite a) ∧ True
def wf_TRec (x : TRec) : Prop := ((Lit.int .i64 x.Kind).wf = true) ∧ ((Lit.int .i64 x.Valid).wf = true) ∧ ((Lit.int .i64 x.Uid).wf = true) ∧ ((Lit.int .i64 x.Next).wf = true) ∧ ((Lit.int .i64 x.Flags).wf = true) ∧ (x.User.length ≤ maxLen) ∧ (x.Name.length ≤ maxLen) ∧ (x.Text.length ≤ maxLen) ∧ True
def wf_TItem (x : TItem) : Prop := ((Lit.int .i64 x.Seq).wf = true) ∧ (wf_TRec x.Rec) ∧ True
def wf_TSeg (x : TSeg) : Prop := ((Lit.int .i64 x.No).wf = true) ∧ ((Lit.int .i64 x.Gen).wf = true) ∧ ((Lit.int .i64 x.End).wf = true) ∧ (x.Items.length ≤ maxLen ∧ ∀ a ∈ x.Items, wf_TItem a) ∧ True
def wf_TLog (x : TLog) : Prop := (wf_TDisk x.Disk) ∧ ((Lit.int .i64 x.Segs).wf = true) ∧ (x.Used.length ≤ maxLen ∧ ∀ a ∈ x.Used, wf_TSeg a) ∧ ((Lit.int .i64 x.NextGen).wf = true) ∧ ((Lit.int .i64 x.NextSeq).wf = true) ∧ ((Lit.int .i64 x.Stamp).wf = true) ∧ ((Lit.int .i64 x.NextValid).wf = true) ∧ True
def wf_TFrame (x : TFrame) : Prop := ((Lit.int .i64 x.Gen).wf = true) ∧ ((Lit.int .i64 x.Seq).wf = true) ∧ (x.Body.length ≤ maxLen) ∧ True
def wf_TRef (x : TRef) : Prop := ((Lit.int .i64 x.No).wf = true) ∧ ((Lit.int .i64 x.Gen).wf = true) ∧ True
def wf_TCheck (x : TCheck) : Prop := ((Lit.int .i64 x.Stamp).wf = true) ∧ ((Lit.int .i64 x.NextGen).wf = true) ∧ ((Lit.int .i64 x.NextSeq).wf = true) ∧ ((Lit.int .i64 x.NextValid).wf = true) ∧ (x.Refs.length ≤ maxLen ∧ ∀ a ∈ x.Refs, wf_TRef a) ∧ True
def wf_TStore (x : TStore) : Prop := (wf_TLog x.Log) ∧ (x.Freed.length ≤ maxLen ∧ ∀ a ∈ x.Freed, (Lit.int .i64 a).wf = true) ∧ True
def wf_TMail (x : TMail) : Prop := ((Lit.int .i64 x.Uid).wf = true) ∧ ((Lit.int .i64 x.Flags).wf = true) ∧ (x.Text.length ≤ maxLen) ∧ True
def wf_TBox (x : TBox) : Prop := ((Lit.int .i64 x.Valid).wf = true) ∧ (x.User.length ≤ maxLen) ∧ (x.Name.length ≤ maxLen) ∧ ((Lit.int .i64 x.Next).wf = true) ∧ (x.Mails.length ≤ maxLen ∧ ∀ a ∈ x.Mails, wf_TMail a) ∧ True
def wf_TState (x : TState) : Prop := (x.Boxes.length ≤ maxLen ∧ ∀ a ∈ x.Boxes, wf_TBox a) ∧ True
end Go.Proofs.YtcehlicmghnghaaGreat.V
/- What the functions compute. -/
namespace Go.Proofs.YtcehlicmghnghaaGreat.V
open Go Go.Proofs Go.RowKit
set_option maxRecDepth 100000
noncomputable def F_spec_l01In (x0 : Int) (x1 : Int) (x2 : Int) : Option Bool :=
  (if decide (x0 ≥ x1) then some (decide (x0 ≤ x2)) else some false)
noncomputable def S_spec_l01Long_1 (x0 : Int) (x1 : Int) (s2 : Int × (List Int)) : Option ((Int × (List Int)) ⊕ (List Int)) :=
  (if decide (s2.1 < x0) then (at? s2.2 s2.1).bind fun v4 => (some (set' s2.2 s2.1 x1)).bind fun v5 => some (.inl (w64 (s2.1 + 1), v5)) else some (.inr s2.2))
noncomputable def F_spec_l01Long (x0 : Int) (x1 : Int) : Option (List UInt8) :=
  (mk? 1 (0 : Int) x0).bind fun v1 => (iter (S_spec_l01Long_1 x0 x1) (0, v1)).bind (fun y6 => some (y6.map ofI))
noncomputable def F_spec_l03Zero : Option (List UInt8) :=
  (F_spec_l01Long 32 0).bind fun v1 => some v1
noncomputable def S_spec_DiskNew_1 (x0 : Int) (s2 : Int × (List (List UInt8))) : Option ((Int × (List (List UInt8))) ⊕ (List (List UInt8))) :=
  (if decide (s2.1 < x0) then (F_spec_l03Zero).bind fun v4 => (app? 16 s2.2 [v4]).bind fun v5 => some (.inl (w64 (s2.1 + 1), v5)) else some (.inr s2.2))
noncomputable def F_spec_DiskNew (x0 : Int) : Option (TDisk × Bool) :=
  (F_spec_l01In x0 1 100).bind fun v1 => (if v1 then (iter (S_spec_DiskNew_1 x0) (0, ([] : List (List UInt8)))).bind (fun y6 => some (({ Sectors := y6, Cache := [] } : TDisk), true)) else some (({ Sectors := [], Cache := [] } : TDisk), false))
noncomputable def S_spec_FreeSegs_2 (x0 : TLog) (s1 : Int × (List Int)) (s4 : Bool × Int) : Option ((Bool × Int) ⊕ Bool) :=
  (if decide (s4.2 < (x0.Used.length : Int)) then (if s4.1 then some (.inl (true, w64 (s4.2 + 1))) else (at? x0.Used s4.2).bind fun v6 => (if (v6.No == s1.1) then some (.inl (true, w64 (s4.2 + 1))) else some (.inl (false, w64 (s4.2 + 1))))) else some (.inr s4.1))
noncomputable def S_spec_FreeSegs_1 (x0 : TLog) (s1 : Int × (List Int)) : Option ((Int × (List Int)) ⊕ (List Int)) :=
  ((if decide (s1.1 < x0.Segs) then (if decide (s1.1 < 11) then some true else some false) else some false) : Option Bool).bind (fun y3 => (if y3 then (iter (S_spec_FreeSegs_2 x0 s1) (false, 0)).bind (fun y7 => (if !y7 then (app? 8 s1.2 [s1.1]).bind fun v8 => some (.inl (w64 (s1.1 + 1), v8)) else some (.inl (w64 (s1.1 + 1), s1.2)))) else some (.inr s1.2)))
noncomputable def F_spec_FreeSegs (x0 : TLog) : Option (List Int) :=
  (iter (S_spec_FreeSegs_1 x0) (0, ([] : List Int))).bind (fun y9 => some y9)
noncomputable def F_spec_FrameOk (x0 : TFrame) : Option Bool :=
  ((F_spec_l01In x0.Gen 1 1000000000).bind fun v2 => (if v2 then (F_spec_l01In x0.Seq 1 1000000000).bind fun v3 => (if v3 then (F_spec_l01In (x0.Body.length : Int) 1 180).bind fun v4 => some v4 else some false) else some false) : Option Bool).bind (fun y1 => some y1)
noncomputable def F_spec_l02Four (x0 : Int) : Option (List UInt8) :=
  some ([IntKind.u8.wrap (shrv .u32 x0 24), IntKind.u8.wrap (shrv .u32 x0 16), IntKind.u8.wrap (shrv .u32 x0 8), IntKind.u8.wrap x0].map ofI)
noncomputable def S_spec_SumMore_2 (s4 : Int × Int) : Option ((Int × Int) ⊕ Int) :=
  (if decide (s4.2 < 8) then (if ((Int.tmod s4.1 2) == 1) then some (.inl (xorv .u32 (IntKind.u32.wrap (Int.tdiv s4.1 2)) 3558460437, w64 (s4.2 + 1))) else some (.inl (IntKind.u32.wrap (Int.tdiv s4.1 2), w64 (s4.2 + 1)))) else some (.inr s4.1))
noncomputable def S_spec_SumMore_1 (x1 : List UInt8) (s1 : Int × Int) : Option ((Int × Int) ⊕ Int) :=
  (if decide (s1.2 < (x1.length : Int)) then (bt? x1 s1.2).bind fun v3 => (iter (S_spec_SumMore_2) (xorv .u32 s1.1 (IntKind.u32.wrap (v3.toNat : Int)), 0)).bind (fun y6 => some (.inl (y6, w64 (s1.2 + 1)))) else some (.inr s1.1))
noncomputable def F_spec_SumMore (x0 : Int) (x1 : List UInt8) : Option Int :=
  (iter (S_spec_SumMore_1 x1) (x0, 0)).bind (fun y7 => some y7)
noncomputable def F_spec_SumOf (x0 : List UInt8) : Option Int :=
  (F_spec_SumMore 4294967295 x0).bind fun v1 => some v1
noncomputable def F_spec_Sealed (x0 : List UInt8) : Option ((List UInt8) × Bool) :=
  (if decide ((x0.length : Int) > 20000) then some ([], false) else (F_spec_SumOf x0).bind fun v1 => (F_spec_l02Four v1).bind fun v2 => (cat? x0 v2).bind fun v3 => some (v3, true))
noncomputable def S_spec_l01Var_1 (s1 : Int × (List Int)) : Option ((Int × (List Int)) ⊕ (Int × (List Int))) :=
  (if decide (s1.1 > 127) then (app? 1 s1.2 [IntKind.u8.wrap (w64 ((Int.tmod s1.1 128) + 128))]).bind fun v3 => some (.inl (w64 (Int.tdiv s1.1 128), v3)) else some (.inr (s1.1, s1.2)))
noncomputable def F_spec_l01Var (x0 : Int) : Option (List UInt8) :=
  (iter (S_spec_l01Var_1) (x0, ([] : List Int))).bind (fun y4 => (app? 1 y4.2 [IntKind.u8.wrap y4.1]).bind fun v5 => some (v5.map ofI))
noncomputable def F_spec_FrameText (x0 : TFrame) : Option ((List UInt8) × Bool) :=
  (F_spec_FrameOk x0).bind fun v1 => (if v1 then (F_spec_l01Var x0.Gen).bind fun v2 => (F_spec_l01Var x0.Seq).bind fun v3 => (cat? v2 v3).bind fun v4 => (F_spec_l01Var (x0.Body.length : Int)).bind fun v5 => (cat? v4 v5).bind fun v6 => (cat? v6 x0.Body).bind fun v7 => (F_spec_Sealed v7).bind fun v8 => some (v8.1, v8.2) else some ([], false))
noncomputable def F_spec_SegFirst (x0 : Int) : Option Int :=
  (F_spec_l01In x0 0 10).bind fun v1 => (if v1 then some (w64 (8 + (w64 (x0 * 8)))) else some 0)
noncomputable def F_spec_l03Copy (x0 : TDisk) : Option TDisk :=
  (app? 16 ([] : List (List UInt8)) x0.Sectors).bind fun v1 => (app? 24 ([] : List TWrite) x0.Cache).bind fun v2 => some ({ Sectors := v1, Cache := v2 } : TDisk)
noncomputable def S_spec_ReadSector_1 (x0 : TDisk) (x1 : Int) (s2 : Int) : Option (Int ⊕ (((List UInt8) × Bool) ⊕ Unit)) :=
  (if decide (s2 ≥ 0) then (at? x0.Cache s2).bind fun v4 => (if (v4.At == x1) then (at? x0.Cache s2).bind fun v5 => some (.inr (.inl (v5.Text, true))) else some (.inl (w64 (s2 - 1)))) else some (.inr (.inr ())))
noncomputable def F_spec_ReadSector (x0 : TDisk) (x1 : Int) : Option ((List UInt8) × Bool) :=
  (F_spec_l01In x1 0 (w64 ((x0.Sectors.length : Int) - 1))).bind fun v1 => (if v1 then (iter (S_spec_ReadSector_1 x0 x1) (w64 ((x0.Cache.length : Int) - 1))).bind (Sum.elim (fun r => some r) (fun y3 => (at? x0.Sectors x1).bind fun v7 => some (v7, true))) else some ([], false))
noncomputable def S_spec_DiskOk_2 (x0 : TDisk) (s7 : Int) : Option (Int ⊕ (Bool ⊕ Unit)) :=
  (if decide (s7 < (x0.Cache.length : Int)) then ((at? x0.Cache s7).bind fun v10 => (F_spec_l01In v10.At 0 (w64 ((x0.Sectors.length : Int) - 1))).bind fun v11 => (if v11 then (at? x0.Cache s7).bind fun v12 => (if ((v12.Text.length : Int) != 32) then some true else some false) else some true) : Option Bool).bind (fun y9 => (if y9 then some (.inr (.inl false)) else some (.inl (w64 (s7 + 1))))) else some (.inr (.inr ())))
noncomputable def S_spec_DiskOk_1 (x0 : TDisk) (s3 : Int) : Option (Int ⊕ (Bool ⊕ Unit)) :=
  (if decide (s3 < (x0.Sectors.length : Int)) then (at? x0.Sectors s3).bind fun v5 => (if ((v5.length : Int) != 32) then some (.inr (.inl false)) else some (.inl (w64 (s3 + 1)))) else some (.inr (.inr ())))
noncomputable def F_spec_DiskOk (x0 : TDisk) : Option Bool :=
  ((F_spec_l01In (x0.Sectors.length : Int) 1 100).bind fun v2 => (if v2 then (if decide ((x0.Cache.length : Int) > 60) then some true else some false) else some true) : Option Bool).bind (fun y1 => (if y1 then some false else (iter (S_spec_DiskOk_1 x0) 0).bind (Sum.elim (fun r => some r) (fun y4 => (iter (S_spec_DiskOk_2 x0) 0).bind (Sum.elim (fun r => some r) (fun y8 => some true))))))
noncomputable def F_spec_WriteSector (x0 : TDisk) (x1 : Int) (x2 : List UInt8) : Option (TDisk × Bool) :=
  (F_spec_l03Copy x0).bind fun v1 => ((F_spec_DiskOk x0).bind fun v3 => (if v3 then (F_spec_l01In x1 0 (w64 ((x0.Sectors.length : Int) - 1))).bind fun v4 => (if v4 then (if ((x2.length : Int) != 32) then some true else (if decide ((x0.Cache.length : Int) ≥ 60) then some true else some false)) else some true) else some true) : Option Bool).bind (fun y2 => (if y2 then some (({ Sectors := v1.Sectors, Cache := v1.Cache } : TDisk), false) else (app? 24 v1.Cache [({ At := x1, Text := x2 } : TWrite)]).bind fun v5 => some (({ Sectors := v1.Sectors, Cache := v5 } : TDisk), true)))
noncomputable def S_spec_WriteBytes_1 (x0 : TDisk) (x1 : Int) (x2 : Int) (x3 : List UInt8) (s6 : Int × (List (List UInt8)) × (List TWrite)) : Option ((Int × (List (List UInt8)) × (List TWrite)) ⊕ ((TDisk × Bool) ⊕ ((List (List UInt8)) × (List TWrite)))) :=
  (if decide (s6.1 < (x3.length : Int)) then (if decide ((w64 (32 - (Int.tmod (w64 (x2 + s6.1)) 32))) > (w64 ((x3.length : Int) - s6.1))) then (F_spec_ReadSector ({ Sectors := s6.2.1, Cache := s6.2.2 } : TDisk) (w64 (x1 + (w64 (Int.tdiv (w64 (x2 + s6.1)) 32))))).bind fun v18 => ((if !v18.2 then some true else (if ((v18.1.length : Int) != 32) then some true else some false)) : Option Bool).bind (fun y19 => (if y19 then (F_spec_l03Copy x0).bind fun v27 => some (.inr (.inl (({ Sectors := v27.Sectors, Cache := v27.Cache } : TDisk), false))) else (sub? v18.1 0 (Int.tmod (w64 (x2 + s6.1)) 32)).bind fun v20 => (sub? x3 s6.1 (w64 (s6.1 + (w64 ((x3.length : Int) - s6.1))))).bind fun v21 => (cat? v20 v21).bind fun v22 => (sub? v18.1 (w64 ((Int.tmod (w64 (x2 + s6.1)) 32) + (w64 ((x3.length : Int) - s6.1)))) (v18.1.length : Int)).bind fun v23 => (cat? v22 v23).bind fun v24 => (F_spec_WriteSector ({ Sectors := s6.2.1, Cache := s6.2.2 } : TDisk) (w64 (x1 + (w64 (Int.tdiv (w64 (x2 + s6.1)) 32)))) v24).bind fun v25 => (if !v25.2 then (F_spec_l03Copy x0).bind fun v26 => some (.inr (.inl (({ Sectors := v26.Sectors, Cache := v26.Cache } : TDisk), false))) else some (.inl (w64 (s6.1 + (w64 ((x3.length : Int) - s6.1))), v25.1.Sectors, v25.1.Cache))))) else (F_spec_ReadSector ({ Sectors := s6.2.1, Cache := s6.2.2 } : TDisk) (w64 (x1 + (w64 (Int.tdiv (w64 (x2 + s6.1)) 32))))).bind fun v8 => ((if !v8.2 then some true else (if ((v8.1.length : Int) != 32) then some true else some false)) : Option Bool).bind (fun y9 => (if y9 then (F_spec_l03Copy x0).bind fun v17 => some (.inr (.inl (({ Sectors := v17.Sectors, Cache := v17.Cache } : TDisk), false))) else (sub? v8.1 0 (Int.tmod (w64 (x2 + s6.1)) 32)).bind fun v10 => (sub? x3 s6.1 (w64 (s6.1 + (w64 (32 - (Int.tmod (w64 (x2 + s6.1)) 32)))))).bind fun v11 => (cat? v10 v11).bind fun v12 => (sub? v8.1 (w64 ((Int.tmod (w64 (x2 + s6.1)) 32) + (w64 (32 - (Int.tmod (w64 (x2 + s6.1)) 32))))) (v8.1.length : Int)).bind fun v13 => (cat? v12 v13).bind fun v14 => (F_spec_WriteSector ({ Sectors := s6.2.1, Cache := s6.2.2 } : TDisk) (w64 (x1 + (w64 (Int.tdiv (w64 (x2 + s6.1)) 32)))) v14).bind fun v15 => (if !v15.2 then (F_spec_l03Copy x0).bind fun v16 => some (.inr (.inl (({ Sectors := v16.Sectors, Cache := v16.Cache } : TDisk), false))) else some (.inl (w64 (s6.1 + (w64 (32 - (Int.tmod (w64 (x2 + s6.1)) 32)))), v15.1.Sectors, v15.1.Cache)))))) else some (.inr (.inr (s6.2.1, s6.2.2))))
noncomputable def F_spec_WriteBytes (x0 : TDisk) (x1 : Int) (x2 : Int) (x3 : List UInt8) : Option (TDisk × Bool) :=
  (F_spec_l03Copy x0).bind fun v1 => ((F_spec_l01In x2 0 3200).bind fun v3 => (if v3 then (F_spec_l01In x1 0 (w64 ((x0.Sectors.length : Int) - 1))).bind fun v4 => (if v4 then (F_spec_DiskOk x0).bind fun v5 => (if v5 then some false else some true) else some true) else some true) : Option Bool).bind (fun y2 => (if y2 then some (({ Sectors := v1.Sectors, Cache := v1.Cache } : TDisk), false) else (iter (S_spec_WriteBytes_1 x0 x1 x2 x3) (0, v1.Sectors, v1.Cache)).bind (Sum.elim (fun r => some r) (fun y7 => some (({ Sectors := y7.1, Cache := y7.2 } : TDisk), true)))))
noncomputable def F_spec_SegWrite (x0 : TDisk) (x1 : Int) (x2 : Int) (x3 : List UInt8) : Option (TDisk × Bool) :=
  ((F_spec_l01In x1 0 10).bind fun v2 => (if v2 then (F_spec_l01In x2 0 256).bind fun v3 => (if v3 then (if decide ((x3.length : Int) > (w64 (256 - x2))) then some true else some false) else some true) else some true) : Option Bool).bind (fun y1 => (if y1 then (F_spec_l03Copy x0).bind fun v6 => some (({ Sectors := v6.Sectors, Cache := v6.Cache } : TDisk), false) else (F_spec_SegFirst x1).bind fun v4 => (F_spec_WriteBytes x0 v4 x2 x3).bind fun v5 => some (({ Sectors := v5.1.Sectors, Cache := v5.1.Cache } : TDisk), v5.2)))
noncomputable def S_spec_FlushDisk_1 (x0 : TDisk) (s3 : Int × (List (List UInt8))) : Option ((Int × (List (List UInt8))) ⊕ (List (List UInt8))) :=
  (if decide (s3.1 < (x0.Cache.length : Int)) then (at? x0.Cache s3.1).bind fun v5 => (at? x0.Cache s3.1).bind fun v6 => (at? s3.2 v5.At).bind fun v7 => (some (set' s3.2 v5.At v6.Text)).bind fun v8 => some (.inl (w64 (s3.1 + 1), v8)) else some (.inr s3.2))
noncomputable def F_spec_FlushDisk (x0 : TDisk) : Option TDisk :=
  (F_spec_l03Copy x0).bind fun v1 => (F_spec_DiskOk x0).bind fun v2 => (if v2 then (iter (S_spec_FlushDisk_1 x0) (0, v1.Sectors)).bind (fun y9 => some ({ Sectors := y9, Cache := [] } : TDisk)) else some ({ Sectors := v1.Sectors, Cache := v1.Cache } : TDisk))
noncomputable def F_spec_l09Open_w2 (x0 : TLog) (x1 : Int) : Option (Bool × TLog) :=
  (F_spec_FreeSegs ({ Disk := ({ Sectors := x0.Disk.Sectors, Cache := x0.Disk.Cache } : TDisk), Segs := x0.Segs, Used := [], NextGen := x0.NextGen, NextSeq := x0.NextSeq, Stamp := x0.Stamp, NextValid := x0.NextValid } : TLog)).bind fun v1 => ((if decide (x1 < 0) then some true else (if decide ((v1.length : Int) ≤ x1) then some true else some false)) : Option Bool).bind (fun y2 => (if y2 then some (false, ({ Disk := ({ Sectors := x0.Disk.Sectors, Cache := x0.Disk.Cache } : TDisk), Segs := x0.Segs, Used := ([] : List TSeg), NextGen := x0.NextGen, NextSeq := x0.NextSeq, Stamp := x0.Stamp, NextValid := x0.NextValid } : TLog)) else (F_spec_FrameText ({ Gen := x0.NextGen, Seq := 1, Body := [115, 101, 103] } : TFrame)).bind fun v3 => (at? v1 0).bind fun v4 => (F_spec_SegWrite ({ Sectors := x0.Disk.Sectors, Cache := x0.Disk.Cache } : TDisk) v4 0 v3.1).bind fun v5 => ((if !v3.2 then some true else (if !v5.2 then some true else (if decide (x0.NextGen ≥ 1000000000) then some true else some false))) : Option Bool).bind (fun y6 => (if y6 then some (false, ({ Disk := ({ Sectors := x0.Disk.Sectors, Cache := x0.Disk.Cache } : TDisk), Segs := x0.Segs, Used := ([] : List TSeg), NextGen := x0.NextGen, NextSeq := x0.NextSeq, Stamp := x0.Stamp, NextValid := x0.NextValid } : TLog)) else (F_spec_FlushDisk v5.1).bind fun v7 => (at? v1 0).bind fun v8 => (app? 48 ([] : List TSeg) [({ No := v8, Gen := x0.NextGen, End := (v3.1.length : Int), Items := [] } : TSeg)]).bind fun v9 => some (true, ({ Disk := ({ Sectors := v7.Sectors, Cache := v7.Cache } : TDisk), Segs := x0.Segs, Used := v9, NextGen := w64 (x0.NextGen + 1), NextSeq := x0.NextSeq, Stamp := x0.Stamp, NextValid := x0.NextValid } : TLog))))))
noncomputable def S_spec_CheckOk_2 (x0 : TCheck) (s7 : Int) (v9 : TRef) (s14 : Int) : Option (Int ⊕ (Bool ⊕ Unit)) :=
  (if decide (s14 < s7) then (at? x0.Refs s14).bind fun v16 => (if (v16.No == v9.No) then some (.inr (.inl false)) else some (.inl (w64 (s14 + 1)))) else some (.inr (.inr ())))
noncomputable def S_spec_CheckOk_1 (x0 : TCheck) (s7 : Int) : Option (Int ⊕ (Bool ⊕ Unit)) :=
  (if decide (s7 < (x0.Refs.length : Int)) then (at? x0.Refs s7).bind fun v9 => ((F_spec_l01In v9.No 0 10).bind fun v11 => (if v11 then (F_spec_l01In v9.Gen 1 (w64 (x0.NextGen - 1))).bind fun v12 => (if v12 then (if decide (s7 > 0) then (at? x0.Refs (w64 (s7 - 1))).bind fun v13 => (if decide (v13.Gen ≥ v9.Gen) then some true else some false) else some false) else some true) else some true) : Option Bool).bind (fun y10 => (if y10 then some (.inr (.inl false)) else (iter (S_spec_CheckOk_2 x0 s7 v9) 0).bind (Sum.elim (fun r => some (.inr (.inl r))) (fun y15 => some (.inl (w64 (s7 + 1))))))) else some (.inr (.inr ())))
noncomputable def F_spec_CheckOk (x0 : TCheck) : Option Bool :=
  ((F_spec_l01In x0.Stamp 1 1000000000).bind fun v2 => (if v2 then (F_spec_l01In x0.NextGen 1 1000000000).bind fun v3 => (if v3 then (F_spec_l01In x0.NextSeq 1 1000000000).bind fun v4 => (if v4 then (F_spec_l01In x0.NextValid 1 1000000000).bind fun v5 => (if v5 then (F_spec_l01In (x0.Refs.length : Int) 1 11).bind fun v6 => (if v6 then some false else some true) else some true) else some true) else some true) else some true) : Option Bool).bind (fun y1 => (if y1 then some false else (iter (S_spec_CheckOk_1 x0) 0).bind (Sum.elim (fun r => some r) (fun y8 => some true))))
noncomputable def F_spec_l06Short (x0 : List UInt8) : Option (List UInt8) :=
  (F_spec_l01Var (x0.length : Int)).bind fun v1 => (cat? v1 x0).bind fun v2 => some v2
noncomputable def S_spec_CheckText_1 (x0 : TCheck) (s11 : (List UInt8) × Int) : Option (((List UInt8) × Int) ⊕ (List UInt8)) :=
  (if decide (s11.2 < (x0.Refs.length : Int)) then (at? x0.Refs s11.2).bind fun v13 => (F_spec_l01Var v13.No).bind fun v14 => (cat? s11.1 v14).bind fun v15 => (at? x0.Refs s11.2).bind fun v16 => (F_spec_l01Var v16.Gen).bind fun v17 => (cat? v15 v17).bind fun v18 => some (.inl (v18, w64 (s11.2 + 1))) else some (.inr s11.1))
noncomputable def F_spec_CheckText (x0 : TCheck) : Option ((List UInt8) × Bool) :=
  (F_spec_CheckOk x0).bind fun v1 => (if v1 then (F_spec_l01Var x0.Stamp).bind fun v2 => (F_spec_l01Var x0.NextGen).bind fun v3 => (cat? v2 v3).bind fun v4 => (F_spec_l01Var x0.NextSeq).bind fun v5 => (cat? v4 v5).bind fun v6 => (F_spec_l01Var x0.NextValid).bind fun v7 => (cat? v6 v7).bind fun v8 => (F_spec_l01Var (x0.Refs.length : Int)).bind fun v9 => (cat? v8 v9).bind fun v10 => (iter (S_spec_CheckText_1 x0) (v10, 0)).bind (fun y19 => (F_spec_Sealed y19).bind fun v20 => (F_spec_l06Short v20.1).bind fun v21 => ((if !v20.2 then some true else (if decide ((v21.length : Int) > 128) then some true else some false)) : Option Bool).bind (fun y22 => (if y22 then some ([], false) else some (v21, true)))) else some ([], false))
noncomputable def F_spec_WriteCheck (x0 : TDisk) (x1 : TCheck) : Option (TDisk × Bool) :=
  (F_spec_CheckText x1).bind fun v1 => ((if !v1.2 then some true else (F_spec_DiskOk x0).bind fun v3 => (if v3 then some false else some true)) : Option Bool).bind (fun y2 => (if y2 then (F_spec_l03Copy x0).bind fun v7 => some (({ Sectors := v7.Sectors, Cache := v7.Cache } : TDisk), false) else (F_spec_WriteBytes x0 (w64 (4 * (Int.tmod x1.Stamp 2))) 0 v1.1).bind fun v4 => (if !v4.2 then (F_spec_l03Copy x0).bind fun v6 => some (({ Sectors := v6.Sectors, Cache := v6.Cache } : TDisk), false) else (F_spec_FlushDisk v4.1).bind fun v5 => some (({ Sectors := v5.Sectors, Cache := v5.Cache } : TDisk), true))))
noncomputable def S_spec_CheckOf_1 (x0 : TLog) (s1 : Int × (List TRef)) : Option ((Int × (List TRef)) ⊕ (List TRef)) :=
  (if decide (s1.1 < (x0.Used.length : Int)) then (at? x0.Used s1.1).bind fun v3 => (at? x0.Used s1.1).bind fun v4 => (app? 16 s1.2 [({ No := v3.No, Gen := v4.Gen } : TRef)]).bind fun v5 => some (.inl (w64 (s1.1 + 1), v5)) else some (.inr s1.2))
noncomputable def F_spec_CheckOf (x0 : TLog) : Option TCheck :=
  (iter (S_spec_CheckOf_1 x0) (0, ([] : List TRef))).bind (fun y6 => some ({ Stamp := w64 (x0.Stamp + 1), NextGen := x0.NextGen, NextSeq := x0.NextSeq, NextValid := x0.NextValid, Refs := y6 } : TCheck))
noncomputable def F_spec_FormatDisk (x0 : Int) : Option (TLog × Bool) :=
  (F_spec_l01In x0 5 11).bind fun v1 => (if v1 then (F_spec_DiskNew (w64 (8 + (w64 (x0 * 8))))).bind fun v2 => (F_spec_l09Open_w2 ({ Disk := ({ Sectors := v2.1.Sectors, Cache := v2.1.Cache } : TDisk), Segs := x0, Used := [], NextGen := 1, NextSeq := 1, Stamp := 0, NextValid := 1 } : TLog) 0).bind fun v3 => (if v3.1 then (F_spec_CheckOf ({ Disk := ({ Sectors := v3.2.Disk.Sectors, Cache := v3.2.Disk.Cache } : TDisk), Segs := v3.2.Segs, Used := v3.2.Used, NextGen := v3.2.NextGen, NextSeq := v3.2.NextSeq, Stamp := v3.2.Stamp, NextValid := v3.2.NextValid } : TLog)).bind fun v4 => (F_spec_WriteCheck ({ Sectors := v3.2.Disk.Sectors, Cache := v3.2.Disk.Cache } : TDisk) v4).bind fun v5 => (if !v5.2 then some (({ Disk := ({ Sectors := [], Cache := [] } : TDisk), Segs := 0, Used := [], NextGen := 0, NextSeq := 0, Stamp := 0, NextValid := 0 } : TLog), false) else some (({ Disk := ({ Sectors := v5.1.Sectors, Cache := v5.1.Cache } : TDisk), Segs := v3.2.Segs, Used := v3.2.Used, NextGen := v3.2.NextGen, NextSeq := v3.2.NextSeq, Stamp := 1, NextValid := v3.2.NextValid } : TLog), true)) else some (({ Disk := ({ Sectors := [], Cache := [] } : TDisk), Segs := 0, Used := [], NextGen := 0, NextSeq := 0, Stamp := 0, NextValid := 0 } : TLog), false)) else some (({ Disk := ({ Sectors := [], Cache := [] } : TDisk), Segs := 0, Used := [], NextGen := 0, NextSeq := 0, Stamp := 0, NextValid := 0 } : TLog), false))
noncomputable def F_spec_StoreNew (x0 : Int) : Option (TStore × Bool) :=
  (F_spec_FormatDisk x0).bind fun v1 => (if !v1.2 then some (({ Log := ({ Disk := ({ Sectors := [], Cache := [] } : TDisk), Segs := 0, Used := [], NextGen := 0, NextSeq := 0, Stamp := 0, NextValid := 0 } : TLog), Freed := [] } : TStore), false) else some (({ Log := ({ Disk := ({ Sectors := v1.1.Disk.Sectors, Cache := v1.1.Disk.Cache } : TDisk), Segs := v1.1.Segs, Used := v1.1.Used, NextGen := v1.1.NextGen, NextSeq := v1.1.NextSeq, Stamp := v1.1.Stamp, NextValid := v1.1.NextValid } : TLog), Freed := [] } : TStore), true))
noncomputable def F_impl_in (x0 : Int) (x1 : Int) (x2 : Int) : Option Bool :=
  (if decide (x0 ≥ x1) then some (decide (x0 ≤ x2)) else some false)
noncomputable def F_strings_Repeat (x0 : List UInt8) (x1 : Int) : Option (List UInt8) :=
  rep? x0 x1
noncomputable def S_impl_DiskNew_1 (x0 : Int) (s2 : Int × (List (List UInt8))) : Option ((Int × (List (List UInt8))) ⊕ (List (List UInt8))) :=
  (if decide (s2.1 < x0) then (F_strings_Repeat [0] 32).bind fun v4 => (app? 16 s2.2 [v4]).bind fun v5 => some (.inl (w64 (s2.1 + 1), v5)) else some (.inr s2.2))
noncomputable def F_impl_DiskNew (x0 : Int) : Option (TDisk × Bool) :=
  (F_impl_in x0 1 100).bind fun v1 => (if v1 then (iter (S_impl_DiskNew_1 x0) (0, ([] : List (List UInt8)))).bind (fun y6 => some (({ Sectors := y6, Cache := [] } : TDisk), true)) else some (({ Sectors := [], Cache := [] } : TDisk), false))
noncomputable def F_impl_FreeSegs_1_w (x0 : TSeg) (x1 : Int) : Option Bool :=
  some (x0.No == x1)
noncomputable def S_slices_IndexFunc_Seg_FreeSegs_1_1 (x0 : List TSeg) (x1 : Int) (s1 : Int) : Option (Int ⊕ (Int ⊕ Unit)) :=
  (if decide (s1 < (x0.length : Int)) then (at? x0 s1).bind fun v3 => (F_impl_FreeSegs_1_w v3 x1).bind fun v4 => (if v4 then some (.inr (.inl s1)) else some (.inl (w64 (s1 + 1)))) else some (.inr (.inr ())))
noncomputable def F_slices_IndexFunc_Seg_FreeSegs_1 (x0 : List TSeg) (x1 : Int) : Option Int :=
  (iter (S_slices_IndexFunc_Seg_FreeSegs_1_1 x0 x1) 0).bind (Sum.elim (fun r => some r) (fun y2 => some (-1)))
noncomputable def F_slices_ContainsFunc_Seg_FreeSegs_1 (x0 : List TSeg) (x1 : Int) : Option Bool :=
  (F_slices_IndexFunc_Seg_FreeSegs_1 x0 x1).bind fun v1 => some (decide (v1 ≥ 0))
noncomputable def S_impl_FreeSegs_1 (x0 : TLog) (s1 : Int × (List Int)) : Option ((Int × (List Int)) ⊕ (List Int)) :=
  (if decide (s1.1 < (if 11 < x0.Segs then 11 else x0.Segs)) then (F_slices_ContainsFunc_Seg_FreeSegs_1 x0.Used s1.1).bind fun v3 => (if v3 then some (.inl (w64 (s1.1 + 1), s1.2)) else (app? 8 s1.2 [s1.1]).bind fun v4 => some (.inl (w64 (s1.1 + 1), v4))) else some (.inr s1.2))
noncomputable def F_impl_FreeSegs (x0 : TLog) : Option (List Int) :=
  (iter (S_impl_FreeSegs_1 x0) (0, ([] : List Int))).bind (fun y5 => some y5)
noncomputable def F_impl_FrameOk (x0 : TFrame) : Option Bool :=
  ((F_impl_in x0.Gen 1 1000000000).bind fun v2 => (if v2 then (F_impl_in x0.Seq 1 1000000000).bind fun v3 => (if v3 then (F_impl_in (x0.Body.length : Int) 1 180).bind fun v4 => some v4 else some false) else some false) : Option Bool).bind (fun y1 => some y1)
noncomputable def S_impl_SumMore_2 (s4 : Int × Int) : Option ((Int × Int) ⊕ Int) :=
  (if decide (s4.2 < 8) then (if ((andv .u32 s4.1 1) == 1) then some (.inl (xorv .u32 (shrv .u32 s4.1 1) 3558460437, w64 (s4.2 + 1))) else some (.inl (shrv .u32 s4.1 1, w64 (s4.2 + 1)))) else some (.inr s4.1))
noncomputable def S_impl_SumMore_1 (x1 : List UInt8) (s1 : Int × Int) : Option ((Int × Int) ⊕ Int) :=
  (if decide (s1.2 < (x1.length : Int)) then (bt? x1 s1.2).bind fun v3 => (iter (S_impl_SumMore_2) (xorv .u32 s1.1 (IntKind.u32.wrap (v3.toNat : Int)), 0)).bind (fun y6 => some (.inl (y6, w64 (s1.2 + 1)))) else some (.inr s1.1))
noncomputable def F_impl_SumMore (x0 : Int) (x1 : List UInt8) : Option Int :=
  (iter (S_impl_SumMore_1 x1) (x0, 0)).bind (fun y7 => some y7)
noncomputable def F_impl_SumOf (x0 : List UInt8) : Option Int :=
  (F_impl_SumMore 4294967295 x0).bind fun v1 => some v1
noncomputable def F_impl_seal (x0 : List UInt8) : Option (List UInt8) :=
  (F_impl_SumOf x0).bind fun v1 => some ([IntKind.u8.wrap (shrv .u32 v1 24), IntKind.u8.wrap (shrv .u32 v1 16), IntKind.u8.wrap (shrv .u32 v1 8), IntKind.u8.wrap v1].map ofI)
noncomputable def F_impl_Sealed (x0 : List UInt8) : Option ((List UInt8) × Bool) :=
  (if decide ((x0.length : Int) > 20000) then some ([], false) else (F_impl_seal x0).bind fun v1 => (cat? x0 v1).bind fun v2 => some (v2, true))
noncomputable def S_impl_varText_1 (s1 : Int × (List Int)) : Option ((Int × (List Int)) ⊕ (Int × (List Int))) :=
  (if decide (s1.1 > 127) then (app? 1 s1.2 [IntKind.u8.wrap (orv .i64 (andv .i64 s1.1 127) 128)]).bind fun v3 => some (.inl (shrv .i64 s1.1 7, v3)) else some (.inr (s1.1, s1.2)))
noncomputable def F_impl_varText (x0 : Int) : Option (List UInt8) :=
  (iter (S_impl_varText_1) (x0, ([] : List Int))).bind (fun y4 => (app? 1 y4.2 [IntKind.u8.wrap y4.1]).bind fun v5 => some (v5.map ofI))
noncomputable def F_impl_FrameText (x0 : TFrame) : Option ((List UInt8) × Bool) :=
  (F_impl_FrameOk x0).bind fun v1 => (if v1 then (F_impl_varText x0.Gen).bind fun v2 => (F_impl_varText x0.Seq).bind fun v3 => (cat? v2 v3).bind fun v4 => (F_impl_varText (x0.Body.length : Int)).bind fun v5 => (cat? v4 v5).bind fun v6 => (cat? v6 x0.Body).bind fun v7 => (F_impl_Sealed v7).bind fun v8 => some (v8.1, v8.2) else some ([], false))
noncomputable def F_impl_SegFirst (x0 : Int) : Option Int :=
  (F_impl_in x0 0 10).bind fun v1 => (if v1 then some (w64 (8 + (w64 (x0 * 8)))) else some 0)
noncomputable def F_slices_Clone_string (x0 : List (List UInt8)) : Option (List (List UInt8)) :=
  app? 16 [] x0
noncomputable def F_slices_Clone_Write (x0 : List TWrite) : Option (List TWrite) :=
  app? 24 [] x0
noncomputable def F_impl_cloneDisk (x0 : TDisk) : Option TDisk :=
  (F_slices_Clone_string x0.Sectors).bind fun v1 => (F_slices_Clone_Write x0.Cache).bind fun v2 => some ({ Sectors := v1, Cache := v2 } : TDisk)
noncomputable def S_impl_ReadSector_1 (x0 : TDisk) (x1 : Int) (s3 : (List UInt8) × Int) : Option (((List UInt8) × Int) ⊕ (List UInt8)) :=
  (if decide (s3.2 < (x0.Cache.length : Int)) then (at? x0.Cache s3.2).bind fun v5 => (if (v5.At == x1) then some (.inl (v5.Text, w64 (s3.2 + 1))) else some (.inl (s3.1, w64 (s3.2 + 1)))) else some (.inr s3.1))
noncomputable def F_impl_ReadSector (x0 : TDisk) (x1 : Int) : Option ((List UInt8) × Bool) :=
  (F_impl_in x1 0 (w64 ((x0.Sectors.length : Int) - 1))).bind fun v1 => (if v1 then (at? x0.Sectors x1).bind fun v2 => (iter (S_impl_ReadSector_1 x0 x1) (v2, 0)).bind (fun y6 => some (y6, true)) else some ([], false))
noncomputable def F_impl_DiskOk_1 (x0 : List UInt8) : Option Bool :=
  some ((x0.length : Int) != 32)
noncomputable def S_slices_IndexFunc_string_DiskOk_1_1 (x0 : List (List UInt8)) (s1 : Int) : Option (Int ⊕ (Int ⊕ Unit)) :=
  (if decide (s1 < (x0.length : Int)) then (at? x0 s1).bind fun v3 => (F_impl_DiskOk_1 v3).bind fun v4 => (if v4 then some (.inr (.inl s1)) else some (.inl (w64 (s1 + 1)))) else some (.inr (.inr ())))
noncomputable def F_slices_IndexFunc_string_DiskOk_1 (x0 : List (List UInt8)) : Option Int :=
  (iter (S_slices_IndexFunc_string_DiskOk_1_1 x0) 0).bind (Sum.elim (fun r => some r) (fun y2 => some (-1)))
noncomputable def F_slices_ContainsFunc_string_DiskOk_1 (x0 : List (List UInt8)) : Option Bool :=
  (F_slices_IndexFunc_string_DiskOk_1 x0).bind fun v1 => some (decide (v1 ≥ 0))
noncomputable def F_impl_DiskOk_2_w (x0 : TWrite) (x1 : TDisk) : Option Bool :=
  (F_impl_in x0.At 0 (w64 ((x1.Sectors.length : Int) - 1))).bind fun v1 => (if v1 then some ((x0.Text.length : Int) != 32) else some true)
noncomputable def S_slices_IndexFunc_Write_DiskOk_2_1 (x0 : List TWrite) (x1 : TDisk) (s1 : Int) : Option (Int ⊕ (Int ⊕ Unit)) :=
  (if decide (s1 < (x0.length : Int)) then (at? x0 s1).bind fun v3 => (F_impl_DiskOk_2_w v3 x1).bind fun v4 => (if v4 then some (.inr (.inl s1)) else some (.inl (w64 (s1 + 1)))) else some (.inr (.inr ())))
noncomputable def F_slices_IndexFunc_Write_DiskOk_2 (x0 : List TWrite) (x1 : TDisk) : Option Int :=
  (iter (S_slices_IndexFunc_Write_DiskOk_2_1 x0 x1) 0).bind (Sum.elim (fun r => some r) (fun y2 => some (-1)))
noncomputable def F_slices_ContainsFunc_Write_DiskOk_2 (x0 : List TWrite) (x1 : TDisk) : Option Bool :=
  (F_slices_IndexFunc_Write_DiskOk_2 x0 x1).bind fun v1 => some (decide (v1 ≥ 0))
noncomputable def F_impl_DiskOk (x0 : TDisk) : Option Bool :=
  ((F_impl_in (x0.Sectors.length : Int) 1 100).bind fun v2 => (if v2 then (if decide ((x0.Cache.length : Int) > 60) then some true else some false) else some true) : Option Bool).bind (fun y1 => (if y1 then some false else (F_slices_ContainsFunc_string_DiskOk_1 x0.Sectors).bind fun v3 => (if v3 then some false else (F_slices_ContainsFunc_Write_DiskOk_2 x0.Cache x0).bind fun v4 => some (!v4))))
noncomputable def F_impl_WriteSector (x0 : TDisk) (x1 : Int) (x2 : List UInt8) : Option (TDisk × Bool) :=
  (F_impl_cloneDisk x0).bind fun v1 => (app? 24 v1.Cache [({ At := x1, Text := x2 } : TWrite)]).bind fun v2 => ((F_impl_DiskOk x0).bind fun v4 => (if v4 then (F_impl_DiskOk ({ Sectors := v1.Sectors, Cache := v2 } : TDisk)).bind fun v5 => (if v5 then some false else some true) else some true) : Option Bool).bind (fun y3 => (if y3 then (F_impl_cloneDisk x0).bind fun v6 => some (({ Sectors := v6.Sectors, Cache := v6.Cache } : TDisk), false) else some (({ Sectors := v1.Sectors, Cache := v2 } : TDisk), true)))
noncomputable def S_impl_WriteBytes_1 (x1 : Int) (v1 : TDisk) (s6 : Int × (List UInt8) × (List (List UInt8)) × (List TWrite)) : Option ((Int × (List UInt8) × (List (List UInt8)) × (List TWrite)) ⊕ ((TDisk × Bool) ⊕ ((List (List UInt8)) × (List TWrite)))) :=
  (if (!(s6.2.1 == [])) then (F_impl_ReadSector ({ Sectors := s6.2.2.1, Cache := s6.2.2.2 } : TDisk) (w64 (x1 + (w64 (Int.tdiv s6.1 32))))).bind fun v8 => ((if !v8.2 then some true else (if ((v8.1.length : Int) != 32) then some true else some false)) : Option Bool).bind (fun y9 => (if y9 then some (.inr (.inl (({ Sectors := v1.Sectors, Cache := v1.Cache } : TDisk), false))) else (sub? v8.1 0 (Int.tmod s6.1 32)).bind fun v10 => (sub? s6.2.1 0 (if w64 (32 - (Int.tmod s6.1 32)) < (s6.2.1.length : Int) then w64 (32 - (Int.tmod s6.1 32)) else (s6.2.1.length : Int))).bind fun v11 => (cat? v10 v11).bind fun v12 => (sub? v8.1 (w64 ((Int.tmod s6.1 32) + (if w64 (32 - (Int.tmod s6.1 32)) < (s6.2.1.length : Int) then w64 (32 - (Int.tmod s6.1 32)) else (s6.2.1.length : Int)))) (v8.1.length : Int)).bind fun v13 => (cat? v12 v13).bind fun v14 => (F_impl_WriteSector ({ Sectors := s6.2.2.1, Cache := s6.2.2.2 } : TDisk) (w64 (x1 + (w64 (Int.tdiv s6.1 32)))) v14).bind fun v15 => (if !v15.2 then some (.inr (.inl (({ Sectors := v1.Sectors, Cache := v1.Cache } : TDisk), false))) else (sub? s6.2.1 (if w64 (32 - (Int.tmod s6.1 32)) < (s6.2.1.length : Int) then w64 (32 - (Int.tmod s6.1 32)) else (s6.2.1.length : Int)) (s6.2.1.length : Int)).bind fun v16 => some (.inl (w64 (s6.1 + (if w64 (32 - (Int.tmod s6.1 32)) < (s6.2.1.length : Int) then w64 (32 - (Int.tmod s6.1 32)) else (s6.2.1.length : Int))), v16, v15.1.Sectors, v15.1.Cache))))) else some (.inr (.inr (s6.2.2.1, s6.2.2.2))))
noncomputable def F_impl_WriteBytes (x0 : TDisk) (x1 : Int) (x2 : Int) (x3 : List UInt8) : Option (TDisk × Bool) :=
  (F_impl_cloneDisk x0).bind fun v1 => ((F_impl_in x2 0 3200).bind fun v3 => (if v3 then (F_impl_in x1 0 (w64 ((x0.Sectors.length : Int) - 1))).bind fun v4 => (if v4 then some false else some true) else some true) : Option Bool).bind (fun y2 => (if y2 then some (({ Sectors := v1.Sectors, Cache := v1.Cache } : TDisk), false) else (F_impl_cloneDisk x0).bind fun v5 => (iter (S_impl_WriteBytes_1 x1 v1) (x2, x3, v5.Sectors, v5.Cache)).bind (Sum.elim (fun r => some r) (fun y7 => some (({ Sectors := y7.1, Cache := y7.2 } : TDisk), true)))))
noncomputable def F_impl_SegWrite (x0 : TDisk) (x1 : Int) (x2 : Int) (x3 : List UInt8) : Option (TDisk × Bool) :=
  ((F_impl_in x1 0 10).bind fun v2 => (if v2 then (F_impl_in x2 0 256).bind fun v3 => (if v3 then (if decide ((x3.length : Int) > (w64 (256 - x2))) then some true else some false) else some true) else some true) : Option Bool).bind (fun y1 => (if y1 then (F_impl_cloneDisk x0).bind fun v6 => some (({ Sectors := v6.Sectors, Cache := v6.Cache } : TDisk), false) else (F_impl_SegFirst x1).bind fun v4 => (F_impl_WriteBytes x0 v4 x2 x3).bind fun v5 => some (({ Sectors := v5.1.Sectors, Cache := v5.1.Cache } : TDisk), v5.2)))
noncomputable def F_slices_Clone_Item (x0 : List TItem) : Option (List TItem) :=
  app? 96 [] x0
noncomputable def S_impl_cloneLog_1 (x0 : TLog) (s2 : Int × (List TSeg)) : Option ((Int × (List TSeg)) ⊕ (List TSeg)) :=
  (if decide (s2.1 < (x0.Used.length : Int)) then (at? x0.Used s2.1).bind fun v4 => (F_slices_Clone_Item v4.Items).bind fun v5 => (app? 48 s2.2 [({ No := v4.No, Gen := v4.Gen, End := v4.End, Items := v5 } : TSeg)]).bind fun v6 => some (.inl (w64 (s2.1 + 1), v6)) else some (.inr s2.2))
noncomputable def F_impl_cloneLog (x0 : TLog) : Option TLog :=
  (F_impl_cloneDisk x0.Disk).bind fun v1 => (iter (S_impl_cloneLog_1 x0) (0, ([] : List TSeg))).bind (fun y7 => some ({ Disk := ({ Sectors := v1.Sectors, Cache := v1.Cache } : TDisk), Segs := x0.Segs, Used := y7, NextGen := x0.NextGen, NextSeq := x0.NextSeq, Stamp := x0.Stamp, NextValid := x0.NextValid } : TLog))
noncomputable def S_impl_FlushDisk_1 (x0 : TDisk) (s3 : Int × (List (List UInt8))) : Option ((Int × (List (List UInt8))) ⊕ (List (List UInt8))) :=
  (if decide (s3.1 < (x0.Cache.length : Int)) then (at? x0.Cache s3.1).bind fun v5 => (at? s3.2 v5.At).bind fun v6 => (some (set' s3.2 v5.At v5.Text)).bind fun v7 => some (.inl (w64 (s3.1 + 1), v7)) else some (.inr s3.2))
noncomputable def F_impl_FlushDisk (x0 : TDisk) : Option TDisk :=
  (F_impl_cloneDisk x0).bind fun v1 => (F_impl_DiskOk x0).bind fun v2 => (if v2 then (iter (S_impl_FlushDisk_1 x0) (0, v1.Sectors)).bind (fun y8 => some ({ Sectors := y8, Cache := [] } : TDisk)) else some ({ Sectors := v1.Sectors, Cache := v1.Cache } : TDisk))
noncomputable def F_impl_openSeg (x0 : TLog) (x1 : Int) : Option (TLog × Bool) :=
  (F_impl_FreeSegs x0).bind fun v1 => ((if decide (x1 < 0) then some true else (if decide ((v1.length : Int) ≤ x1) then some true else (if (x0.NextGen == 1000000000) then some true else some false))) : Option Bool).bind (fun y2 => (if y2 then some (({ Disk := ({ Sectors := [], Cache := [] } : TDisk), Segs := 0, Used := [], NextGen := 0, NextSeq := 0, Stamp := 0, NextValid := 0 } : TLog), false) else (F_impl_FrameText ({ Gen := x0.NextGen, Seq := 1, Body := [115, 101, 103] } : TFrame)).bind fun v3 => (at? v1 0).bind fun v4 => (F_impl_SegWrite x0.Disk v4 0 v3.1).bind fun v5 => (if !v5.2 then some (({ Disk := ({ Sectors := [], Cache := [] } : TDisk), Segs := 0, Used := [], NextGen := 0, NextSeq := 0, Stamp := 0, NextValid := 0 } : TLog), false) else (F_impl_cloneLog x0).bind fun v6 => (F_impl_FlushDisk v5.1).bind fun v7 => (at? v1 0).bind fun v8 => (app? 48 v6.Used [({ No := v8, Gen := x0.NextGen, End := (v3.1.length : Int), Items := [] } : TSeg)]).bind fun v9 => some (({ Disk := ({ Sectors := v7.Sectors, Cache := v7.Cache } : TDisk), Segs := v6.Segs, Used := v9, NextGen := w64 (v6.NextGen + 1), NextSeq := v6.NextSeq, Stamp := v6.Stamp, NextValid := v6.NextValid } : TLog), true))))
noncomputable def F_impl_CheckOk_1_w (x0 : TRef) (x1 : TRef) : Option Bool :=
  some (x0.No == x1.No)
noncomputable def S_slices_IndexFunc_Ref_CheckOk_1_1 (x0 : List TRef) (x1 : TRef) (s1 : Int) : Option (Int ⊕ (Int ⊕ Unit)) :=
  (if decide (s1 < (x0.length : Int)) then (at? x0 s1).bind fun v3 => (F_impl_CheckOk_1_w v3 x1).bind fun v4 => (if v4 then some (.inr (.inl s1)) else some (.inl (w64 (s1 + 1)))) else some (.inr (.inr ())))
noncomputable def F_slices_IndexFunc_Ref_CheckOk_1 (x0 : List TRef) (x1 : TRef) : Option Int :=
  (iter (S_slices_IndexFunc_Ref_CheckOk_1_1 x0 x1) 0).bind (Sum.elim (fun r => some r) (fun y2 => some (-1)))
noncomputable def F_slices_ContainsFunc_Ref_CheckOk_1 (x0 : List TRef) (x1 : TRef) : Option Bool :=
  (F_slices_IndexFunc_Ref_CheckOk_1 x0 x1).bind fun v1 => some (decide (v1 ≥ 0))
noncomputable def S_impl_CheckOk_2 (x0 : TCheck) (s7 : Int × Int) : Option ((Int × Int) ⊕ (Bool ⊕ Unit)) :=
  (if decide (s7.2 < (x0.Refs.length : Int)) then (at? x0.Refs s7.2).bind fun v9 => ((F_impl_in v9.Gen (w64 (s7.1 + 1)) (w64 (x0.NextGen - 1))).bind fun v11 => (if v11 then (F_impl_in v9.No 0 10).bind fun v12 => (if v12 then (sub? x0.Refs 0 s7.2).bind fun v13 => (F_slices_ContainsFunc_Ref_CheckOk_1 v13 v9).bind fun v14 => (if v14 then some true else some false) else some true) else some true) : Option Bool).bind (fun y10 => (if y10 then some (.inr (.inl false)) else some (.inl (v9.Gen, w64 (s7.2 + 1))))) else some (.inr (.inr ())))
noncomputable def S_impl_CheckOk_1 (x0 : TCheck) (s1 : Int) : Option (Int ⊕ (Bool ⊕ Unit)) :=
  (if decide (s1 < ([x0.Stamp, x0.NextGen, x0.NextSeq, x0.NextValid].length : Int)) then (at? [x0.Stamp, x0.NextGen, x0.NextSeq, x0.NextValid] s1).bind fun v3 => (F_impl_in v3 1 1000000000).bind fun v4 => (if v4 then some (.inl (w64 (s1 + 1))) else some (.inr (.inl false))) else some (.inr (.inr ())))
noncomputable def F_impl_CheckOk (x0 : TCheck) : Option Bool :=
  (iter (S_impl_CheckOk_1 x0) 0).bind (Sum.elim (fun r => some r) (fun y2 => (F_impl_in (x0.Refs.length : Int) 1 11).bind fun v6 => (if v6 then (iter (S_impl_CheckOk_2 x0) (0, 0)).bind (Sum.elim (fun r => some r) (fun y8 => some true)) else some false)))
noncomputable def S_impl_CheckText_1 (x0 : TCheck) (s11 : (List UInt8) × Int) : Option (((List UInt8) × Int) ⊕ (List UInt8)) :=
  (if decide (s11.2 < (x0.Refs.length : Int)) then (at? x0.Refs s11.2).bind fun v13 => (F_impl_varText v13.No).bind fun v14 => (F_impl_varText v13.Gen).bind fun v15 => (cat? v14 v15).bind fun v16 => (cat? s11.1 v16).bind fun v17 => some (.inl (v17, w64 (s11.2 + 1))) else some (.inr s11.1))
noncomputable def F_impl_CheckText (x0 : TCheck) : Option ((List UInt8) × Bool) :=
  (F_impl_CheckOk x0).bind fun v1 => (if v1 then (F_impl_varText x0.Stamp).bind fun v2 => (F_impl_varText x0.NextGen).bind fun v3 => (cat? v2 v3).bind fun v4 => (F_impl_varText x0.NextSeq).bind fun v5 => (cat? v4 v5).bind fun v6 => (F_impl_varText x0.NextValid).bind fun v7 => (cat? v6 v7).bind fun v8 => (F_impl_varText (x0.Refs.length : Int)).bind fun v9 => (cat? v8 v9).bind fun v10 => (iter (S_impl_CheckText_1 x0) (v10, 0)).bind (fun y18 => (F_impl_seal y18).bind fun v19 => (cat? y18 v19).bind fun v20 => (F_impl_varText (v20.length : Int)).bind fun v21 => (cat? v21 v20).bind fun v22 => (if decide ((v22.length : Int) > 128) then some ([], false) else some (v22, true))) else some ([], false))
noncomputable def F_impl_region (x0 : Int) : Option Int :=
  some (w64 (4 * (Int.tmod x0 2)))
noncomputable def F_impl_WriteCheck (x0 : TDisk) (x1 : TCheck) : Option (TDisk × Bool) :=
  (F_impl_CheckText x1).bind fun v1 => (F_impl_DiskOk x0).bind fun v2 => (if v2 then (if !v1.2 then (F_impl_cloneDisk x0).bind fun v8 => some (({ Sectors := v8.Sectors, Cache := v8.Cache } : TDisk), false) else (F_impl_region x1.Stamp).bind fun v4 => (F_impl_WriteBytes x0 v4 0 v1.1).bind fun v5 => (if !v5.2 then (F_impl_cloneDisk x0).bind fun v7 => some (({ Sectors := v7.Sectors, Cache := v7.Cache } : TDisk), false) else (F_impl_FlushDisk v5.1).bind fun v6 => some (({ Sectors := v6.Sectors, Cache := v6.Cache } : TDisk), true))) else (F_impl_cloneDisk x0).bind fun v3 => some (({ Sectors := v3.Sectors, Cache := v3.Cache } : TDisk), false))
noncomputable def S_impl_CheckOf_1 (x0 : TLog) (s1 : Int × (List TRef)) : Option ((Int × (List TRef)) ⊕ (List TRef)) :=
  (if decide (s1.1 < (x0.Used.length : Int)) then (at? x0.Used s1.1).bind fun v3 => (app? 16 s1.2 [({ No := v3.No, Gen := v3.Gen } : TRef)]).bind fun v4 => some (.inl (w64 (s1.1 + 1), v4)) else some (.inr s1.2))
noncomputable def F_impl_CheckOf (x0 : TLog) : Option TCheck :=
  (iter (S_impl_CheckOf_1 x0) (0, ([] : List TRef))).bind (fun y5 => some ({ Stamp := w64 (x0.Stamp + 1), NextGen := x0.NextGen, NextSeq := x0.NextSeq, NextValid := x0.NextValid, Refs := y5 } : TCheck))
noncomputable def F_impl_FormatDisk (x0 : Int) : Option (TLog × Bool) :=
  (F_impl_in x0 5 11).bind fun v1 => (if v1 then (F_impl_DiskNew (w64 (8 + (w64 (x0 * 8))))).bind fun v2 => (F_impl_openSeg ({ Disk := v2.1, Segs := x0, Used := [], NextGen := 1, NextSeq := 1, Stamp := 0, NextValid := 1 } : TLog) 0).bind fun v3 => (F_impl_CheckOf ({ Disk := ({ Sectors := v3.1.Disk.Sectors, Cache := v3.1.Disk.Cache } : TDisk), Segs := v3.1.Segs, Used := v3.1.Used, NextGen := v3.1.NextGen, NextSeq := v3.1.NextSeq, Stamp := v3.1.Stamp, NextValid := v3.1.NextValid } : TLog)).bind fun v4 => (F_impl_WriteCheck ({ Sectors := v3.1.Disk.Sectors, Cache := v3.1.Disk.Cache } : TDisk) v4).bind fun v5 => (if !v3.2 then some (({ Disk := ({ Sectors := [], Cache := [] } : TDisk), Segs := 0, Used := [], NextGen := 0, NextSeq := 0, Stamp := 0, NextValid := 0 } : TLog), false) else (if !v5.2 then some (({ Disk := ({ Sectors := [], Cache := [] } : TDisk), Segs := 0, Used := [], NextGen := 0, NextSeq := 0, Stamp := 0, NextValid := 0 } : TLog), false) else some (({ Disk := ({ Sectors := v5.1.Sectors, Cache := v5.1.Cache } : TDisk), Segs := v3.1.Segs, Used := v3.1.Used, NextGen := v3.1.NextGen, NextSeq := v3.1.NextSeq, Stamp := 1, NextValid := v3.1.NextValid } : TLog), true))) else some (({ Disk := ({ Sectors := [], Cache := [] } : TDisk), Segs := 0, Used := [], NextGen := 0, NextSeq := 0, Stamp := 0, NextValid := 0 } : TLog), false))
noncomputable def F_impl_StoreNew (x0 : Int) : Option (TStore × Bool) :=
  (F_impl_FormatDisk x0).bind fun v1 => some (({ Log := ({ Disk := ({ Sectors := v1.1.Disk.Sectors, Cache := v1.1.Disk.Cache } : TDisk), Segs := v1.1.Segs, Used := v1.1.Used, NextGen := v1.1.NextGen, NextSeq := v1.1.NextSeq, Stamp := v1.1.Stamp, NextValid := v1.1.NextValid } : TLog), Freed := [] } : TStore), v1.2)
noncomputable def S_laws_eqIntS_1 (x0 : List Int) (x1 : List Int) (s1 : Int) : Option (Int ⊕ (Bool ⊕ Unit)) :=
  (if decide (s1 < (x0.length : Int)) then (at? x0 s1).bind fun v3 => (at? x1 s1).bind fun v4 => (if (v3 != v4) then some (.inr (.inl false)) else some (.inl (w64 (s1 + 1)))) else some (.inr (.inr ())))
noncomputable def F_laws_eqIntS (x0 : List Int) (x1 : List Int) : Option Bool :=
  (if ((x0.length : Int) != (x1.length : Int)) then some false else (iter (S_laws_eqIntS_1 x0 x1) 0).bind (Sum.elim (fun r => some r) (fun y2 => some true)))
noncomputable def S_laws_eqStringS_1 (x0 : List (List UInt8)) (x1 : List (List UInt8)) (s1 : Int) : Option (Int ⊕ (Bool ⊕ Unit)) :=
  (if decide (s1 < (x0.length : Int)) then (at? x0 s1).bind fun v3 => (at? x1 s1).bind fun v4 => (if (!(v3 == v4)) then some (.inr (.inl false)) else some (.inl (w64 (s1 + 1)))) else some (.inr (.inr ())))
noncomputable def F_laws_eqStringS (x0 : List (List UInt8)) (x1 : List (List UInt8)) : Option Bool :=
  (if ((x0.length : Int) != (x1.length : Int)) then some false else (iter (S_laws_eqStringS_1 x0 x1) 0).bind (Sum.elim (fun r => some r) (fun y2 => some true)))
noncomputable def F_laws_eqWrite (x0 : TWrite) (x1 : TWrite) : Option Bool :=
  (if (x0.At != x1.At) then some false else (if (!(x0.Text == x1.Text)) then some false else some true))
noncomputable def S_laws_eqWriteS_1 (x0 : List TWrite) (x1 : List TWrite) (s1 : Int) : Option (Int ⊕ (Bool ⊕ Unit)) :=
  (if decide (s1 < (x0.length : Int)) then (at? x0 s1).bind fun v3 => (at? x1 s1).bind fun v4 => (F_laws_eqWrite v3 v4).bind fun v5 => (if v5 then some (.inl (w64 (s1 + 1))) else some (.inr (.inl false))) else some (.inr (.inr ())))
noncomputable def F_laws_eqWriteS (x0 : List TWrite) (x1 : List TWrite) : Option Bool :=
  (if ((x0.length : Int) != (x1.length : Int)) then some false else (iter (S_laws_eqWriteS_1 x0 x1) 0).bind (Sum.elim (fun r => some r) (fun y2 => some true)))
noncomputable def F_laws_eqDisk (x0 : TDisk) (x1 : TDisk) : Option Bool :=
  (F_laws_eqStringS x0.Sectors x1.Sectors).bind fun v1 => (if v1 then (F_laws_eqWriteS x0.Cache x1.Cache).bind fun v2 => (if v2 then some true else some false) else some false)
noncomputable def F_laws_eqRec (x0 : TRec) (x1 : TRec) : Option Bool :=
  (if (x0.Kind != x1.Kind) then some false else (if (x0.Valid != x1.Valid) then some false else (if (x0.Uid != x1.Uid) then some false else (if (x0.Next != x1.Next) then some false else (if (x0.Flags != x1.Flags) then some false else (if (!(x0.User == x1.User)) then some false else (if (!(x0.Name == x1.Name)) then some false else (if (!(x0.Text == x1.Text)) then some false else some true))))))))
noncomputable def F_laws_eqItem (x0 : TItem) (x1 : TItem) : Option Bool :=
  (if (x0.Seq != x1.Seq) then some false else (F_laws_eqRec x0.Rec x1.Rec).bind fun v1 => (if v1 then some true else some false))
noncomputable def S_laws_eqItemS_1 (x0 : List TItem) (x1 : List TItem) (s1 : Int) : Option (Int ⊕ (Bool ⊕ Unit)) :=
  (if decide (s1 < (x0.length : Int)) then (at? x0 s1).bind fun v3 => (at? x1 s1).bind fun v4 => (F_laws_eqItem v3 v4).bind fun v5 => (if v5 then some (.inl (w64 (s1 + 1))) else some (.inr (.inl false))) else some (.inr (.inr ())))
noncomputable def F_laws_eqItemS (x0 : List TItem) (x1 : List TItem) : Option Bool :=
  (if ((x0.length : Int) != (x1.length : Int)) then some false else (iter (S_laws_eqItemS_1 x0 x1) 0).bind (Sum.elim (fun r => some r) (fun y2 => some true)))
noncomputable def F_laws_eqSeg (x0 : TSeg) (x1 : TSeg) : Option Bool :=
  (if (x0.No != x1.No) then some false else (if (x0.Gen != x1.Gen) then some false else (if (x0.End != x1.End) then some false else (F_laws_eqItemS x0.Items x1.Items).bind fun v1 => (if v1 then some true else some false))))
noncomputable def S_laws_eqSegS_1 (x0 : List TSeg) (x1 : List TSeg) (s1 : Int) : Option (Int ⊕ (Bool ⊕ Unit)) :=
  (if decide (s1 < (x0.length : Int)) then (at? x0 s1).bind fun v3 => (at? x1 s1).bind fun v4 => (F_laws_eqSeg v3 v4).bind fun v5 => (if v5 then some (.inl (w64 (s1 + 1))) else some (.inr (.inl false))) else some (.inr (.inr ())))
noncomputable def F_laws_eqSegS (x0 : List TSeg) (x1 : List TSeg) : Option Bool :=
  (if ((x0.length : Int) != (x1.length : Int)) then some false else (iter (S_laws_eqSegS_1 x0 x1) 0).bind (Sum.elim (fun r => some r) (fun y2 => some true)))
noncomputable def F_laws_eqLog (x0 : TLog) (x1 : TLog) : Option Bool :=
  (F_laws_eqDisk x0.Disk x1.Disk).bind fun v1 => (if v1 then (if (x0.Segs != x1.Segs) then some false else (F_laws_eqSegS x0.Used x1.Used).bind fun v2 => (if v2 then (if (x0.NextGen != x1.NextGen) then some false else (if (x0.NextSeq != x1.NextSeq) then some false else (if (x0.Stamp != x1.Stamp) then some false else (if (x0.NextValid != x1.NextValid) then some false else some true)))) else some false)) else some false)
noncomputable def F_laws_eqStore (x0 : TStore) (x1 : TStore) : Option Bool :=
  (F_laws_eqLog x0.Log x1.Log).bind fun v1 => (if v1 then (F_laws_eqIntS x0.Freed x1.Freed).bind fun v2 => (if v2 then some true else some false) else some false)
noncomputable def S_laws_markText_1 (s1 : Int × (List UInt8)) : Option ((Int × (List UInt8)) ⊕ (List UInt8)) :=
  (if decide (s1.1 > 0) then (cat? ([IntKind.u8.wrap (w64 (48 + (Int.tmod s1.1 10)))].map ofI) s1.2).bind fun v3 => some (.inl (w64 (Int.tdiv s1.1 10), v3)) else some (.inr s1.2))
noncomputable def F_laws_markText (x0 : Int) : Option (List UInt8) :=
  (if decide (x0 ≤ 0) then some [109, 48] else (iter (S_laws_markText_1) (x0, [])).bind (fun y4 => (cat? [109] y4).bind fun v5 => some v5))
noncomputable def S_laws_markStringS_w_1 (s1 : Int × Int × (List (List UInt8))) : Option ((Int × Int × (List (List UInt8))) ⊕ (Int × (List (List UInt8)))) :=
  (if decide (s1.2.1 < (s1.2.2.length : Int)) then (F_laws_markText s1.1).bind fun v3 => (at? s1.2.2 s1.2.1).bind fun v4 => (some (set' s1.2.2 s1.2.1 v3)).bind fun v5 => some (.inl (w64 (s1.1 + 1), w64 (s1.2.1 + 1), v5)) else some (.inr (s1.1, s1.2.2)))
noncomputable def F_laws_markStringS_w (x0 : List (List UInt8)) (x1 : Int) : Option (Int × (List (List UInt8))) :=
  (iter (S_laws_markStringS_w_1) (x1, 0, x0)).bind (fun y6 => some (y6.1, y6.2))
noncomputable def S_laws_markWriteS_w_1 (s1 : Int × Int × (List TWrite)) : Option ((Int × Int × (List TWrite)) ⊕ (Int × (List TWrite))) :=
  (if decide (s1.2.1 < (s1.2.2.length : Int)) then (at? s1.2.2 s1.2.1).bind fun v3 => (some (set' s1.2.2 s1.2.1 ({ At := s1.1, Text := v3.Text } : TWrite))).bind fun v4 => (F_laws_markText (w64 (s1.1 + 1))).bind fun v5 => (at? v4 s1.2.1).bind fun v6 => (some (set' v4 s1.2.1 ({ At := v6.At, Text := v5 } : TWrite))).bind fun v7 => some (.inl (w64 ((w64 (s1.1 + 1)) + 1), w64 (s1.2.1 + 1), v7)) else some (.inr (s1.1, s1.2.2)))
noncomputable def F_laws_markWriteS_w (x0 : List TWrite) (x1 : Int) : Option (Int × (List TWrite)) :=
  (iter (S_laws_markWriteS_w_1) (x1, 0, x0)).bind (fun y8 => some (y8.1, y8.2))
noncomputable def F_laws_markDisk_w (x0 : List (List UInt8)) (x1 : List TWrite) (x2 : Int) : Option (Int × (List (List UInt8)) × (List TWrite)) :=
  (guardO (fun r => x0.length = r.2.length) (F_laws_markStringS_w x0 x2)).bind fun v1 => (guardO (fun r => x1.length = r.2.length) (F_laws_markWriteS_w x1 v1.1)).bind fun v2 => some (v2.1, v1.2, v2.2)
noncomputable def S_laws_markItemS_w_1 (s1 : Int × Int × (List TItem)) : Option ((Int × Int × (List TItem)) ⊕ (Int × (List TItem))) :=
  (if decide (s1.2.1 < (s1.2.2.length : Int)) then (at? s1.2.2 s1.2.1).bind fun v3 => (some (set' s1.2.2 s1.2.1 ({ Seq := s1.1, Rec := v3.Rec } : TItem))).bind fun v4 => (at? v4 s1.2.1).bind fun v5 => (some (set' v4 s1.2.1 ({ Seq := v5.Seq, Rec := ({ Kind := w64 (s1.1 + 1), Valid := v5.Rec.Valid, Uid := v5.Rec.Uid, Next := v5.Rec.Next, Flags := v5.Rec.Flags, User := v5.Rec.User, Name := v5.Rec.Name, Text := v5.Rec.Text } : TRec) } : TItem))).bind fun v6 => (at? v6 s1.2.1).bind fun v7 => (some (set' v6 s1.2.1 ({ Seq := v7.Seq, Rec := ({ Kind := v7.Rec.Kind, Valid := w64 ((w64 (s1.1 + 1)) + 1), Uid := v7.Rec.Uid, Next := v7.Rec.Next, Flags := v7.Rec.Flags, User := v7.Rec.User, Name := v7.Rec.Name, Text := v7.Rec.Text } : TRec) } : TItem))).bind fun v8 => (at? v8 s1.2.1).bind fun v9 => (some (set' v8 s1.2.1 ({ Seq := v9.Seq, Rec := ({ Kind := v9.Rec.Kind, Valid := v9.Rec.Valid, Uid := w64 ((w64 ((w64 (s1.1 + 1)) + 1)) + 1), Next := v9.Rec.Next, Flags := v9.Rec.Flags, User := v9.Rec.User, Name := v9.Rec.Name, Text := v9.Rec.Text } : TRec) } : TItem))).bind fun v10 => (at? v10 s1.2.1).bind fun v11 => (some (set' v10 s1.2.1 ({ Seq := v11.Seq, Rec := ({ Kind := v11.Rec.Kind, Valid := v11.Rec.Valid, Uid := v11.Rec.Uid, Next := w64 ((w64 ((w64 ((w64 (s1.1 + 1)) + 1)) + 1)) + 1), Flags := v11.Rec.Flags, User := v11.Rec.User, Name := v11.Rec.Name, Text := v11.Rec.Text } : TRec) } : TItem))).bind fun v12 => (at? v12 s1.2.1).bind fun v13 => (some (set' v12 s1.2.1 ({ Seq := v13.Seq, Rec := ({ Kind := v13.Rec.Kind, Valid := v13.Rec.Valid, Uid := v13.Rec.Uid, Next := v13.Rec.Next, Flags := w64 ((w64 ((w64 ((w64 ((w64 (s1.1 + 1)) + 1)) + 1)) + 1)) + 1), User := v13.Rec.User, Name := v13.Rec.Name, Text := v13.Rec.Text } : TRec) } : TItem))).bind fun v14 => (F_laws_markText (w64 ((w64 ((w64 ((w64 ((w64 ((w64 (s1.1 + 1)) + 1)) + 1)) + 1)) + 1)) + 1))).bind fun v15 => (at? v14 s1.2.1).bind fun v16 => (some (set' v14 s1.2.1 ({ Seq := v16.Seq, Rec := ({ Kind := v16.Rec.Kind, Valid := v16.Rec.Valid, Uid := v16.Rec.Uid, Next := v16.Rec.Next, Flags := v16.Rec.Flags, User := v15, Name := v16.Rec.Name, Text := v16.Rec.Text } : TRec) } : TItem))).bind fun v17 => (F_laws_markText (w64 ((w64 ((w64 ((w64 ((w64 ((w64 ((w64 (s1.1 + 1)) + 1)) + 1)) + 1)) + 1)) + 1)) + 1))).bind fun v18 => (at? v17 s1.2.1).bind fun v19 => (some (set' v17 s1.2.1 ({ Seq := v19.Seq, Rec := ({ Kind := v19.Rec.Kind, Valid := v19.Rec.Valid, Uid := v19.Rec.Uid, Next := v19.Rec.Next, Flags := v19.Rec.Flags, User := v19.Rec.User, Name := v18, Text := v19.Rec.Text } : TRec) } : TItem))).bind fun v20 => (F_laws_markText (w64 ((w64 ((w64 ((w64 ((w64 ((w64 ((w64 ((w64 (s1.1 + 1)) + 1)) + 1)) + 1)) + 1)) + 1)) + 1)) + 1))).bind fun v21 => (at? v20 s1.2.1).bind fun v22 => (some (set' v20 s1.2.1 ({ Seq := v22.Seq, Rec := ({ Kind := v22.Rec.Kind, Valid := v22.Rec.Valid, Uid := v22.Rec.Uid, Next := v22.Rec.Next, Flags := v22.Rec.Flags, User := v22.Rec.User, Name := v22.Rec.Name, Text := v21 } : TRec) } : TItem))).bind fun v23 => some (.inl (w64 ((w64 ((w64 ((w64 ((w64 ((w64 ((w64 ((w64 ((w64 (s1.1 + 1)) + 1)) + 1)) + 1)) + 1)) + 1)) + 1)) + 1)) + 1), w64 (s1.2.1 + 1), v23)) else some (.inr (s1.1, s1.2.2)))
noncomputable def F_laws_markItemS_w (x0 : List TItem) (x1 : Int) : Option (Int × (List TItem)) :=
  (iter (S_laws_markItemS_w_1) (x1, 0, x0)).bind (fun y24 => some (y24.1, y24.2))
noncomputable def S_laws_markSegS_w_1 (s1 : Int × Int × (List TSeg)) : Option ((Int × Int × (List TSeg)) ⊕ (Int × (List TSeg))) :=
  (if decide (s1.2.1 < (s1.2.2.length : Int)) then (at? s1.2.2 s1.2.1).bind fun v3 => (some (set' s1.2.2 s1.2.1 ({ No := s1.1, Gen := v3.Gen, End := v3.End, Items := v3.Items } : TSeg))).bind fun v4 => (at? v4 s1.2.1).bind fun v5 => (some (set' v4 s1.2.1 ({ No := v5.No, Gen := w64 (s1.1 + 1), End := v5.End, Items := v5.Items } : TSeg))).bind fun v6 => (at? v6 s1.2.1).bind fun v7 => (some (set' v6 s1.2.1 ({ No := v7.No, Gen := v7.Gen, End := w64 ((w64 (s1.1 + 1)) + 1), Items := v7.Items } : TSeg))).bind fun v8 => (at? v8 s1.2.1).bind fun v9 => (guardO (fun r => v9.Items.length = r.2.length) (F_laws_markItemS_w v9.Items (w64 ((w64 ((w64 (s1.1 + 1)) + 1)) + 1)))).bind fun v10 => (some (set' v8 s1.2.1 ({ No := v9.No, Gen := v9.Gen, End := v9.End, Items := v10.2 } : TSeg))).bind fun v11 => some (.inl (v10.1, w64 (s1.2.1 + 1), v11)) else some (.inr (s1.1, s1.2.2)))
noncomputable def F_laws_markSegS_w (x0 : List TSeg) (x1 : Int) : Option (Int × (List TSeg)) :=
  (iter (S_laws_markSegS_w_1) (x1, 0, x0)).bind (fun y12 => some (y12.1, y12.2))
noncomputable def F_laws_markLog_w (x0 : List (List UInt8)) (x1 : List TWrite) (x2 : Int) (x3 : List TSeg) (x4 : Int) (x5 : Int) (x6 : Int) (x7 : Int) (x8 : Int) : Option (Int × (List (List UInt8)) × (List TWrite) × (List TSeg)) :=
  (guardO (fun r => x0.length = r.2.1.length ∧ x1.length = r.2.2.length) (F_laws_markDisk_w x0 x1 x8)).bind fun v1 => (guardO (fun r => x3.length = r.2.length) (F_laws_markSegS_w x3 v1.1)).bind fun v2 => some (v2.1, v1.2.1, v1.2.2, v2.2)
noncomputable def S_laws_markIntS_w_1 (s1 : Int × Int × (List Int)) : Option ((Int × Int × (List Int)) ⊕ (Int × (List Int))) :=
  (if decide (s1.2.1 < (s1.2.2.length : Int)) then (at? s1.2.2 s1.2.1).bind fun v3 => (some (set' s1.2.2 s1.2.1 s1.1)).bind fun v4 => some (.inl (w64 (s1.1 + 1), w64 (s1.2.1 + 1), v4)) else some (.inr (s1.1, s1.2.2)))
noncomputable def F_laws_markIntS_w (x0 : List Int) (x1 : Int) : Option (Int × (List Int)) :=
  (iter (S_laws_markIntS_w_1) (x1, 0, x0)).bind (fun y5 => some (y5.1, y5.2))
noncomputable def F_laws_markStore_w (x0 : List (List UInt8)) (x1 : List TWrite) (x2 : Int) (x3 : List TSeg) (x4 : Int) (x5 : Int) (x6 : Int) (x7 : Int) (x8 : List Int) (x9 : Int) : Option (Int × (List (List UInt8)) × (List TWrite) × (List TSeg) × (List Int)) :=
  (guardO (fun r => x0.length = r.2.1.length ∧ x1.length = r.2.2.1.length ∧ x3.length = r.2.2.2.length) (F_laws_markLog_w x0 x1 x2 x3 x4 x5 x6 x7 x9)).bind fun v1 => (guardO (fun r => x8.length = r.2.length) (F_laws_markIntS_w x8 v1.1)).bind fun v2 => some (v2.1, v1.2.1, v1.2.2.1, v1.2.2.2, v2.2)
noncomputable def S_laws_heldStringS_1 (x0 : List (List UInt8)) (s1 : Int × Int) : Option ((Int × Int) ⊕ (Int ⊕ Int)) :=
  (if decide (s1.2 < (x0.length : Int)) then (at? x0 s1.2).bind fun v3 => (F_laws_markText s1.1).bind fun v4 => (if (!(v3 == v4)) then some (.inr (.inl (-1))) else some (.inl (w64 (s1.1 + 1), w64 (s1.2 + 1)))) else some (.inr (.inr s1.1)))
noncomputable def F_laws_heldStringS (x0 : List (List UInt8)) (x1 : Int) : Option Int :=
  (iter (S_laws_heldStringS_1 x0) (x1, 0)).bind (Sum.elim (fun r => some r) (fun y2 => some y2))
noncomputable def S_laws_heldWriteS_1 (x0 : List TWrite) (s1 : Int × Int) : Option ((Int × Int) ⊕ (Int ⊕ Int)) :=
  (if decide (s1.2 < (x0.length : Int)) then (at? x0 s1.2).bind fun v3 => (if (v3.At != s1.1) then some (.inr (.inl (-1))) else (at? x0 s1.2).bind fun v4 => (F_laws_markText (w64 (s1.1 + 1))).bind fun v5 => (if (!(v4.Text == v5)) then some (.inr (.inl (-1))) else some (.inl (w64 ((w64 (s1.1 + 1)) + 1), w64 (s1.2 + 1))))) else some (.inr (.inr s1.1)))
noncomputable def F_laws_heldWriteS (x0 : List TWrite) (x1 : Int) : Option Int :=
  (iter (S_laws_heldWriteS_1 x0) (x1, 0)).bind (Sum.elim (fun r => some r) (fun y2 => some y2))
noncomputable def F_laws_heldDisk (x0 : TDisk) (x1 : Int) : Option Int :=
  (F_laws_heldStringS x0.Sectors x1).bind fun v1 => (if decide (v1 < 0) then some (-1) else (F_laws_heldWriteS x0.Cache v1).bind fun v2 => (if decide (v2 < 0) then some (-1) else some v2))
noncomputable def S_laws_heldItemS_1 (x0 : List TItem) (s1 : Int × Int) : Option ((Int × Int) ⊕ (Int ⊕ Int)) :=
  (if decide (s1.2 < (x0.length : Int)) then (at? x0 s1.2).bind fun v3 => (if (v3.Seq != s1.1) then some (.inr (.inl (-1))) else (at? x0 s1.2).bind fun v4 => (if (v4.Rec.Kind != (w64 (s1.1 + 1))) then some (.inr (.inl (-1))) else (at? x0 s1.2).bind fun v5 => (if (v5.Rec.Valid != (w64 ((w64 (s1.1 + 1)) + 1))) then some (.inr (.inl (-1))) else (at? x0 s1.2).bind fun v6 => (if (v6.Rec.Uid != (w64 ((w64 ((w64 (s1.1 + 1)) + 1)) + 1))) then some (.inr (.inl (-1))) else (at? x0 s1.2).bind fun v7 => (if (v7.Rec.Next != (w64 ((w64 ((w64 ((w64 (s1.1 + 1)) + 1)) + 1)) + 1))) then some (.inr (.inl (-1))) else (at? x0 s1.2).bind fun v8 => (if (v8.Rec.Flags != (w64 ((w64 ((w64 ((w64 ((w64 (s1.1 + 1)) + 1)) + 1)) + 1)) + 1))) then some (.inr (.inl (-1))) else (at? x0 s1.2).bind fun v9 => (F_laws_markText (w64 ((w64 ((w64 ((w64 ((w64 ((w64 (s1.1 + 1)) + 1)) + 1)) + 1)) + 1)) + 1))).bind fun v10 => (if (!(v9.Rec.User == v10)) then some (.inr (.inl (-1))) else (at? x0 s1.2).bind fun v11 => (F_laws_markText (w64 ((w64 ((w64 ((w64 ((w64 ((w64 ((w64 (s1.1 + 1)) + 1)) + 1)) + 1)) + 1)) + 1)) + 1))).bind fun v12 => (if (!(v11.Rec.Name == v12)) then some (.inr (.inl (-1))) else (at? x0 s1.2).bind fun v13 => (F_laws_markText (w64 ((w64 ((w64 ((w64 ((w64 ((w64 ((w64 ((w64 (s1.1 + 1)) + 1)) + 1)) + 1)) + 1)) + 1)) + 1)) + 1))).bind fun v14 => (if (!(v13.Rec.Text == v14)) then some (.inr (.inl (-1))) else some (.inl (w64 ((w64 ((w64 ((w64 ((w64 ((w64 ((w64 ((w64 ((w64 (s1.1 + 1)) + 1)) + 1)) + 1)) + 1)) + 1)) + 1)) + 1)) + 1), w64 (s1.2 + 1)))))))))))) else some (.inr (.inr s1.1)))
noncomputable def F_laws_heldItemS (x0 : List TItem) (x1 : Int) : Option Int :=
  (iter (S_laws_heldItemS_1 x0) (x1, 0)).bind (Sum.elim (fun r => some r) (fun y2 => some y2))
noncomputable def S_laws_heldSegS_1 (x0 : List TSeg) (s1 : Int × Int) : Option ((Int × Int) ⊕ (Int ⊕ Int)) :=
  (if decide (s1.2 < (x0.length : Int)) then (at? x0 s1.2).bind fun v3 => (if (v3.No != s1.1) then some (.inr (.inl (-1))) else (at? x0 s1.2).bind fun v4 => (if (v4.Gen != (w64 (s1.1 + 1))) then some (.inr (.inl (-1))) else (at? x0 s1.2).bind fun v5 => (if (v5.End != (w64 ((w64 (s1.1 + 1)) + 1))) then some (.inr (.inl (-1))) else (at? x0 s1.2).bind fun v6 => (F_laws_heldItemS v6.Items (w64 ((w64 ((w64 (s1.1 + 1)) + 1)) + 1))).bind fun v7 => (if decide (v7 < 0) then some (.inr (.inl (-1))) else some (.inl (v7, w64 (s1.2 + 1))))))) else some (.inr (.inr s1.1)))
noncomputable def F_laws_heldSegS (x0 : List TSeg) (x1 : Int) : Option Int :=
  (iter (S_laws_heldSegS_1 x0) (x1, 0)).bind (Sum.elim (fun r => some r) (fun y2 => some y2))
noncomputable def F_laws_heldLog (x0 : TLog) (x1 : Int) : Option Int :=
  (F_laws_heldDisk x0.Disk x1).bind fun v1 => (if decide (v1 < 0) then some (-1) else (F_laws_heldSegS x0.Used v1).bind fun v2 => (if decide (v2 < 0) then some (-1) else some v2))
noncomputable def S_laws_heldIntS_1 (x0 : List Int) (s1 : Int × Int) : Option ((Int × Int) ⊕ (Int ⊕ Int)) :=
  (if decide (s1.2 < (x0.length : Int)) then (at? x0 s1.2).bind fun v3 => (if (v3 != s1.1) then some (.inr (.inl (-1))) else some (.inl (w64 (s1.1 + 1), w64 (s1.2 + 1)))) else some (.inr (.inr s1.1)))
noncomputable def F_laws_heldIntS (x0 : List Int) (x1 : Int) : Option Int :=
  (iter (S_laws_heldIntS_1 x0) (x1, 0)).bind (Sum.elim (fun r => some r) (fun y2 => some y2))
noncomputable def F_laws_heldStore (x0 : TStore) (x1 : Int) : Option Int :=
  (F_laws_heldLog x0.Log x1).bind fun v1 => (if decide (v1 < 0) then some (-1) else (F_laws_heldIntS x0.Freed v1).bind fun v2 => (if decide (v2 < 0) then some (-1) else some v2))
noncomputable def F_laws_FnExactStoreNew (x0 : Int) : Option Bool :=
  (F_spec_StoreNew x0).bind fun v1 => (F_impl_StoreNew x0).bind fun v2 => ((F_laws_eqStore ({ Log := ({ Disk := ({ Sectors := v2.1.Log.Disk.Sectors, Cache := v2.1.Log.Disk.Cache } : TDisk), Segs := v2.1.Log.Segs, Used := v2.1.Log.Used, NextGen := v2.1.Log.NextGen, NextSeq := v2.1.Log.NextSeq, Stamp := v2.1.Log.Stamp, NextValid := v2.1.Log.NextValid } : TLog), Freed := v2.1.Freed } : TStore) v1.1).bind fun v4 => (if v4 then (if !(v2.2 == v1.2) then some true else some false) else some true) : Option Bool).bind (fun y3 => (if y3 then some false else (guardO (fun r => v2.1.Log.Disk.Sectors.length = r.2.1.length ∧ v2.1.Log.Disk.Cache.length = r.2.2.1.length ∧ v2.1.Log.Used.length = r.2.2.2.1.length ∧ v2.1.Freed.length = r.2.2.2.2.length) (F_laws_markStore_w v2.1.Log.Disk.Sectors v2.1.Log.Disk.Cache v2.1.Log.Segs v2.1.Log.Used v2.1.Log.NextGen v2.1.Log.NextSeq v2.1.Log.Stamp v2.1.Log.NextValid v2.1.Freed 1)).bind fun v5 => (F_laws_heldStore ({ Log := ({ Disk := ({ Sectors := v5.2.1, Cache := v5.2.2.1 } : TDisk), Segs := v2.1.Log.Segs, Used := v5.2.2.2.1, NextGen := v2.1.Log.NextGen, NextSeq := v2.1.Log.NextSeq, Stamp := v2.1.Log.Stamp, NextValid := v2.1.Log.NextValid } : TLog), Freed := v5.2.2.2.2 } : TStore) 1).bind fun v6 => (if decide (v6 < 0) then some false else (if (v6 != v5.1) then some false else (F_impl_StoreNew x0).bind fun v7 => ((F_laws_eqStore v7.1 v1.1).bind fun v9 => (if v9 then (if !(v7.2 == v1.2) then some true else some false) else some true) : Option Bool).bind (fun y8 => (if y8 then some false else (F_laws_heldStore ({ Log := ({ Disk := ({ Sectors := v5.2.1, Cache := v5.2.2.1 } : TDisk), Segs := v2.1.Log.Segs, Used := v5.2.2.2.1, NextGen := v2.1.Log.NextGen, NextSeq := v2.1.Log.NextSeq, Stamp := v2.1.Log.Stamp, NextValid := v2.1.Log.NextValid } : TLog), Freed := v5.2.2.2.2 } : TStore) 1).bind fun v10 => (if decide (v10 < 0) then some false else (if (v10 != v5.1) then some false else some true))))))))
end Go.Proofs.YtcehlicmghnghaaGreat.V
