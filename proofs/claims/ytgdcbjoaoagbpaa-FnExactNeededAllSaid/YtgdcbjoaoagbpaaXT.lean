/- Records, and what the functions compute. -/
import Derived.Test.YtgdcbjoaoagbpaaXE
/- Records, and how they lie in cells. -/
namespace Go.Proofs.Ytgdcbjoaoagbpaa.V
open Go Go.Proofs Go.RowKit
set_option maxRecDepth 100000
structure TWrite where
  At : Int
  Text : List UInt8
def enc_TWrite (_ : Bool) (x : TWrite) : List AV := [.int .i64 x.At, .str x.Text]
theorem sc_TWrite (o : Bool) (x : TWrite) : ∀ v ∈ enc_TWrite o x, Scl v := (fac .int (fac .str fan))
theorem fk_TWrite : FlatOk enc_TWrite 2 := ⟨⟨fun _ _ => rfl, by omega, fun _ _ => (fac .int (fac .str fan)), fun _ => (fac .int (fac .str fan)), fun _ => (.cons .refl (.cons .refl .nil))⟩, fun _ => rfl, fun _ _ => (fac rfl (fac rfl fan)), fun _ _ => (fac rfl (fac rfl fan))⟩
theorem ek_TWrite : EncOk enc_TWrite 2 := fk_TWrite.toEncOk
structure TDisk where
  Sectors : List (List UInt8)
  Cache : List TWrite
def enc_TDisk (o : Bool) (x : TDisk) : List AV := [.lst o 1 (fl (encS o) x.Sectors) x.Sectors.length, .lst o 2 (fl (enc_TWrite o) x.Cache) x.Cache.length]
theorem ek_TDisk : EncOk enc_TDisk 2 := ⟨fun _ _ => rfl, by omega, fun _ _ => (fac (.lst (ekS.fdat _ _)) (fac (.lst (ek_TWrite.fdat _ _)) fan)), fun _ => (fac (.lst (ekS.fown _)) (fac (.lst (ek_TWrite.fown _)) fan)), fun _ => (.cons (ekS.fflag _).lst (.cons (ek_TWrite.fflag _).lst .nil))⟩
structure TRec where
  Kind : Int
  Valid : Int
  Uid : Int
  Next : Int
  Flags : Int
  User : List UInt8
  Name : List UInt8
  Text : List UInt8
def enc_TRec (_ : Bool) (x : TRec) : List AV := [.int .i64 x.Kind, .int .i64 x.Valid, .int .i64 x.Uid, .int .i64 x.Next, .int .i64 x.Flags, .str x.User, .str x.Name, .str x.Text]
theorem sc_TRec (o : Bool) (x : TRec) : ∀ v ∈ enc_TRec o x, Scl v := (fac .int (fac .int (fac .int (fac .int (fac .int (fac .str (fac .str (fac .str fan))))))))
theorem fk_TRec : FlatOk enc_TRec 8 := ⟨⟨fun _ _ => rfl, by omega, fun _ _ => (fac .int (fac .int (fac .int (fac .int (fac .int (fac .str (fac .str (fac .str fan)))))))), fun _ => (fac .int (fac .int (fac .int (fac .int (fac .int (fac .str (fac .str (fac .str fan)))))))), fun _ => (.cons .refl (.cons .refl (.cons .refl (.cons .refl (.cons .refl (.cons .refl (.cons .refl (.cons .refl .nil))))))))⟩, fun _ => rfl, fun _ _ => (fac rfl (fac rfl (fac rfl (fac rfl (fac rfl (fac rfl (fac rfl (fac rfl fan)))))))), fun _ _ => (fac rfl (fac rfl (fac rfl (fac rfl (fac rfl (fac rfl (fac rfl (fac rfl fan))))))))⟩
theorem ek_TRec : EncOk enc_TRec 8 := fk_TRec.toEncOk
structure TItem where
  Seq : Int
  Rec : TRec
def enc_TItem (_ : Bool) (x : TItem) : List AV := [.int .i64 x.Seq, .int .i64 x.Rec.Kind, .int .i64 x.Rec.Valid, .int .i64 x.Rec.Uid, .int .i64 x.Rec.Next, .int .i64 x.Rec.Flags, .str x.Rec.User, .str x.Rec.Name, .str x.Rec.Text]
theorem sc_TItem (o : Bool) (x : TItem) : ∀ v ∈ enc_TItem o x, Scl v := (fac .int (fac .int (fac .int (fac .int (fac .int (fac .int (fac .str (fac .str (fac .str fan)))))))))
theorem fk_TItem : FlatOk enc_TItem 9 := ⟨⟨fun _ _ => rfl, by omega, fun _ _ => (fac .int (fac .int (fac .int (fac .int (fac .int (fac .int (fac .str (fac .str (fac .str fan))))))))), fun _ => (fac .int (fac .int (fac .int (fac .int (fac .int (fac .int (fac .str (fac .str (fac .str fan))))))))), fun _ => (.cons .refl (.cons .refl (.cons .refl (.cons .refl (.cons .refl (.cons .refl (.cons .refl (.cons .refl (.cons .refl .nil)))))))))⟩, fun _ => rfl, fun _ _ => (fac rfl (fac rfl (fac rfl (fac rfl (fac rfl (fac rfl (fac rfl (fac rfl (fac rfl fan))))))))), fun _ _ => (fac rfl (fac rfl (fac rfl (fac rfl (fac rfl (fac rfl (fac rfl (fac rfl (fac rfl fan)))))))))⟩
theorem ek_TItem : EncOk enc_TItem 9 := fk_TItem.toEncOk
structure TSeg where
  No : Int
  Gen : Int
  End : Int
  Items : List TItem
def enc_TSeg (o : Bool) (x : TSeg) : List AV := [.int .i64 x.No, .int .i64 x.Gen, .int .i64 x.End, .lst o 9 (fl (enc_TItem o) x.Items) x.Items.length]
theorem ek_TSeg : EncOk enc_TSeg 4 := ⟨fun _ _ => rfl, by omega, fun _ _ => (fac .int (fac .int (fac .int (fac (.lst (ek_TItem.fdat _ _)) fan)))), fun _ => (fac .int (fac .int (fac .int (fac (.lst (ek_TItem.fown _)) fan)))), fun _ => (.cons .refl (.cons .refl (.cons .refl (.cons (ek_TItem.fflag _).lst .nil))))⟩
structure TLog where
  Disk : TDisk
  Segs : Int
  Used : List TSeg
  NextGen : Int
  NextSeq : Int
  Stamp : Int
  NextValid : Int
def enc_TLog (o : Bool) (x : TLog) : List AV := [.lst o 1 (fl (encS o) x.Disk.Sectors) x.Disk.Sectors.length, .lst o 2 (fl (enc_TWrite o) x.Disk.Cache) x.Disk.Cache.length, .int .i64 x.Segs, .lst o 4 (fl (enc_TSeg o) x.Used) x.Used.length, .int .i64 x.NextGen, .int .i64 x.NextSeq, .int .i64 x.Stamp, .int .i64 x.NextValid]
theorem ek_TLog : EncOk enc_TLog 8 := ⟨fun _ _ => rfl, by omega, fun _ _ => (fac (.lst (ekS.fdat _ _)) (fac (.lst (ek_TWrite.fdat _ _)) (fac .int (fac (.lst (ek_TSeg.fdat _ _)) (fac .int (fac .int (fac .int (fac .int fan)))))))), fun _ => (fac (.lst (ekS.fown _)) (fac (.lst (ek_TWrite.fown _)) (fac .int (fac (.lst (ek_TSeg.fown _)) (fac .int (fac .int (fac .int (fac .int fan)))))))), fun _ => (.cons (ekS.fflag _).lst (.cons (ek_TWrite.fflag _).lst (.cons .refl (.cons (ek_TSeg.fflag _).lst (.cons .refl (.cons .refl (.cons .refl (.cons .refl .nil))))))))⟩
structure TRef where
  No : Int
  Gen : Int
def enc_TRef (_ : Bool) (x : TRef) : List AV := [.int .i64 x.No, .int .i64 x.Gen]
theorem sc_TRef (o : Bool) (x : TRef) : ∀ v ∈ enc_TRef o x, Scl v := (fac .int (fac .int fan))
theorem fk_TRef : FlatOk enc_TRef 2 := ⟨⟨fun _ _ => rfl, by omega, fun _ _ => (fac .int (fac .int fan)), fun _ => (fac .int (fac .int fan)), fun _ => (.cons .refl (.cons .refl .nil))⟩, fun _ => rfl, fun _ _ => (fac rfl (fac rfl fan)), fun _ _ => (fac rfl (fac rfl fan))⟩
theorem ek_TRef : EncOk enc_TRef 2 := fk_TRef.toEncOk
structure TCheck where
  Stamp : Int
  NextGen : Int
  NextSeq : Int
  NextValid : Int
  Refs : List TRef
def enc_TCheck (o : Bool) (x : TCheck) : List AV := [.int .i64 x.Stamp, .int .i64 x.NextGen, .int .i64 x.NextSeq, .int .i64 x.NextValid, .lst o 2 (fl (enc_TRef o) x.Refs) x.Refs.length]
theorem ek_TCheck : EncOk enc_TCheck 5 := ⟨fun _ _ => rfl, by omega, fun _ _ => (fac .int (fac .int (fac .int (fac .int (fac (.lst (ek_TRef.fdat _ _)) fan))))), fun _ => (fac .int (fac .int (fac .int (fac .int (fac (.lst (ek_TRef.fown _)) fan))))), fun _ => (.cons .refl (.cons .refl (.cons .refl (.cons .refl (.cons (ek_TRef.fflag _).lst .nil)))))⟩
structure TL06Cur where
  mText : List UInt8
  mAt : Int
  mBad : Bool
def enc_TL06Cur (_ : Bool) (x : TL06Cur) : List AV := [.str x.mText, .int .i64 x.mAt, .bool x.mBad]
theorem sc_TL06Cur (o : Bool) (x : TL06Cur) : ∀ v ∈ enc_TL06Cur o x, Scl v := (fac .str (fac .int (fac .bool fan)))
theorem fk_TL06Cur : FlatOk enc_TL06Cur 3 := ⟨⟨fun _ _ => rfl, by omega, fun _ _ => (fac .str (fac .int (fac .bool fan))), fun _ => (fac .str (fac .int (fac .bool fan))), fun _ => (.cons .refl (.cons .refl (.cons .refl .nil)))⟩, fun _ => rfl, fun _ _ => (fac rfl (fac rfl (fac rfl fan))), fun _ _ => (fac rfl (fac rfl (fac rfl fan)))⟩
theorem ek_TL06Cur : EncOk enc_TL06Cur 3 := fk_TL06Cur.toEncOk
structure TFrame where
  Gen : Int
  Seq : Int
  Body : List UInt8
def enc_TFrame (_ : Bool) (x : TFrame) : List AV := [.int .i64 x.Gen, .int .i64 x.Seq, .str x.Body]
theorem sc_TFrame (o : Bool) (x : TFrame) : ∀ v ∈ enc_TFrame o x, Scl v := (fac .int (fac .int (fac .str fan)))
theorem fk_TFrame : FlatOk enc_TFrame 3 := ⟨⟨fun _ _ => rfl, by omega, fun _ _ => (fac .int (fac .int (fac .str fan))), fun _ => (fac .int (fac .int (fac .str fan))), fun _ => (.cons .refl (.cons .refl (.cons .refl .nil)))⟩, fun _ => rfl, fun _ _ => (fac rfl (fac rfl (fac rfl fan))), fun _ _ => (fac rfl (fac rfl (fac rfl fan)))⟩
theorem ek_TFrame : EncOk enc_TFrame 3 := fk_TFrame.toEncOk
structure TStore where
  Log : TLog
  Freed : List Int
def enc_TStore (o : Bool) (x : TStore) : List AV := [.lst o 1 (fl (encS o) x.Log.Disk.Sectors) x.Log.Disk.Sectors.length, .lst o 2 (fl (enc_TWrite o) x.Log.Disk.Cache) x.Log.Disk.Cache.length, .int .i64 x.Log.Segs, .lst o 4 (fl (enc_TSeg o) x.Log.Used) x.Log.Used.length, .int .i64 x.Log.NextGen, .int .i64 x.Log.NextSeq, .int .i64 x.Log.Stamp, .int .i64 x.Log.NextValid, .lst o 1 (fl (encI o) x.Freed) x.Freed.length]
theorem ek_TStore : EncOk enc_TStore 9 := ⟨fun _ _ => rfl, by omega, fun _ _ => (fac (.lst (ekS.fdat _ _)) (fac (.lst (ek_TWrite.fdat _ _)) (fac .int (fac (.lst (ek_TSeg.fdat _ _)) (fac .int (fac .int (fac .int (fac .int (fac (.lst (ekI.fdat _ _)) fan))))))))), fun _ => (fac (.lst (ekS.fown _)) (fac (.lst (ek_TWrite.fown _)) (fac .int (fac (.lst (ek_TSeg.fown _)) (fac .int (fac .int (fac .int (fac .int (fac (.lst (ekI.fown _)) fan))))))))), fun _ => (.cons (ekS.fflag _).lst (.cons (ek_TWrite.fflag _).lst (.cons .refl (.cons (ek_TSeg.fflag _).lst (.cons .refl (.cons .refl (.cons .refl (.cons .refl (.cons (ekI.fflag _).lst .nil)))))))))⟩
def wf_TWrite (x : TWrite) : Prop := ((Lit.int .i64 x.At).wf = true) ∧ (x.Text.length ≤ maxLen) ∧ True
def wf_TDisk (x : TDisk) : Prop := (x.Sectors.length ≤ maxLen ∧ ∀ a ∈ x.Sectors, a.length ≤ maxLen) ∧ (x.Cache.length ≤ maxLen ∧ ∀ a ∈ x.Cache, wf_TWrite a) ∧ True
def wf_TRec (x : TRec) : Prop := ((Lit.int .i64 x.Kind).wf = true) ∧ ((Lit.int .i64 x.Valid).wf = true) ∧ ((Lit.int .i64 x.Uid).wf = true) ∧ ((Lit.int .i64 x.Next).wf = true) ∧ ((Lit.int .i64 x.Flags).wf = true) ∧ (x.User.length ≤ maxLen) ∧ (x.Name.length ≤ maxLen) ∧ (x.Text.length ≤ maxLen) ∧ True
def wf_TItem (x : TItem) : Prop := ((Lit.int .i64 x.Seq).wf = true) ∧ (wf_TRec x.Rec) ∧ True
def wf_TSeg (x : TSeg) : Prop := ((Lit.int .i64 x.No).wf = true) ∧ ((Lit.int .i64 x.Gen).wf = true) ∧ ((Lit.int .i64 x.End).wf = true) ∧ (x.Items.length ≤ maxLen ∧ ∀ a ∈ x.Items, wf_TItem a) ∧ True
def wf_TLog (x : TLog) : Prop := (wf_TDisk x.Disk) ∧ ((Lit.int .i64 x.Segs).wf = true) ∧ (x.Used.length ≤ maxLen ∧ ∀ a ∈ x.Used, wf_TSeg a) ∧ ((Lit.int .i64 x.NextGen).wf = true) ∧ ((Lit.int .i64 x.NextSeq).wf = true) ∧ ((Lit.int .i64 x.Stamp).wf = true) ∧ ((Lit.int .i64 x.NextValid).wf = true) ∧ True
def wf_TRef (x : TRef) : Prop := ((Lit.int .i64 x.No).wf = true) ∧ ((Lit.int .i64 x.Gen).wf = true) ∧ True
def wf_TCheck (x : TCheck) : Prop := ((Lit.int .i64 x.Stamp).wf = true) ∧ ((Lit.int .i64 x.NextGen).wf = true) ∧ ((Lit.int .i64 x.NextSeq).wf = true) ∧ ((Lit.int .i64 x.NextValid).wf = true) ∧ (x.Refs.length ≤ maxLen ∧ ∀ a ∈ x.Refs, wf_TRef a) ∧ True
def wf_TL06Cur (x : TL06Cur) : Prop := (x.mText.length ≤ maxLen) ∧ ((Lit.int .i64 x.mAt).wf = true) ∧ (True) ∧ True
def wf_TFrame (x : TFrame) : Prop := ((Lit.int .i64 x.Gen).wf = true) ∧ ((Lit.int .i64 x.Seq).wf = true) ∧ (x.Body.length ≤ maxLen) ∧ True
def wf_TStore (x : TStore) : Prop := (wf_TLog x.Log) ∧ (x.Freed.length ≤ maxLen ∧ ∀ a ∈ x.Freed, (Lit.int .i64 a).wf = true) ∧ True
end Go.Proofs.Ytgdcbjoaoagbpaa.V
/- What the functions compute. -/
namespace Go.Proofs.Ytgdcbjoaoagbpaa.V
open Go Go.Proofs Go.RowKit
set_option maxRecDepth 100000
noncomputable def F_laws_szRec (x0 : TRec) (x1 : Int) : Option Int :=
  (if decide ((w64 (x1 - (x0.User.length : Int))) < 0) then some (-1) else (if decide ((w64 ((w64 (x1 - (x0.User.length : Int))) - (x0.Name.length : Int))) < 0) then some (-1) else (if decide ((w64 ((w64 ((w64 (x1 - (x0.User.length : Int))) - (x0.Name.length : Int))) - (x0.Text.length : Int))) < 0) then some (-1) else some (w64 ((w64 ((w64 (x1 - (x0.User.length : Int))) - (x0.Name.length : Int))) - (x0.Text.length : Int))))))
noncomputable def F_laws_szItem (x0 : TItem) (x1 : Int) : Option Int :=
  (F_laws_szRec x0.Rec x1).bind fun v1 => (if decide (v1 < 0) then some (-1) else some v1)
noncomputable def S_laws_szItemS_1 (x0 : List TItem) (s1 : Int × Int) : Option ((Int × Int) ⊕ (Int ⊕ Int)) :=
  (if decide (s1.2 < (x0.length : Int)) then (at? x0 s1.2).bind fun v3 => (F_laws_szItem v3 s1.1).bind fun v4 => (if decide (v4 < 0) then some (.inr (.inl (-1))) else some (.inl (v4, w64 (s1.2 + 1)))) else some (.inr (.inr s1.1)))
noncomputable def F_laws_szItemS (x0 : List TItem) (x1 : Int) : Option Int :=
  (if decide ((w64 (x1 - (x0.length : Int))) < 0) then some (-1) else (iter (S_laws_szItemS_1 x0) (w64 (x1 - (x0.length : Int)), 0)).bind (Sum.elim (fun r => some r) (fun y2 => some y2)))
noncomputable def F_spec_l01In (x0 : Int) (x1 : Int) (x2 : Int) : Option Bool :=
  (if decide (x0 ≥ x1) then some (decide (x0 ≤ x2)) else some false)
noncomputable def S_spec_WordOk_1 (x0 : List UInt8) (s1 : Int) : Option (Int ⊕ (Bool ⊕ Unit)) :=
  (if decide (s1 < (x0.length : Int)) then ((bt? x0 s1).bind fun v4 => (if decide ((v4.toNat : Int) < 97) then some true else (bt? x0 s1).bind fun v5 => (if decide ((v5.toNat : Int) > 122) then some true else some false)) : Option Bool).bind (fun y3 => (if y3 then some (.inr (.inl false)) else some (.inl (w64 (s1 + 1))))) else some (.inr (.inr ())))
noncomputable def F_spec_WordOk (x0 : List UInt8) : Option Bool :=
  (iter (S_spec_WordOk_1 x0) 0).bind (Sum.elim (fun r => some r) (fun y2 => (F_spec_l01In (x0.length : Int) 1 8).bind fun v7 => some v7))
noncomputable def F_spec_RecOk (x0 : TRec) : Option Bool :=
  ((F_spec_l01In x0.Kind 1 5).bind fun v2 => (if v2 then (F_spec_l01In x0.Valid 1 9999).bind fun v3 => (if v3 then some false else some true) else some true) : Option Bool).bind (fun y1 => (if y1 then some false else (if (x0.Kind == 1) then ((if (x0.Kind == 3) then some true else (if (x0.Kind == 4) then some true else (if (x0.Kind == 5) then some true else some false))) : Option Bool).bind (fun y11 => ((if (x0.Kind == 3) then some true else (if (x0.Kind == 4) then some true else some false)) : Option Bool).bind (fun y12 => ((F_spec_WordOk x0.User).bind fun v14 => (if v14 then (F_spec_WordOk x0.Name).bind fun v15 => (if v15 then (F_spec_l01In x0.Next 1 10000).bind fun v16 => (if v16 then some false else some true) else some true) else some true) : Option Bool).bind (fun y13 => (if y13 then some false else ((if y11 then (F_spec_l01In x0.Uid 1 9999).bind fun v18 => (if v18 then some false else some true) else (if (x0.Uid != 0) then some true else some false)) : Option Bool).bind (fun y17 => (if y17 then some false else ((if y12 then (F_spec_l01In x0.Flags 0 7).bind fun v20 => (if v20 then some false else some true) else (if (x0.Flags != 0) then some true else some false)) : Option Bool).bind (fun y19 => (if y19 then some false else (if (x0.Kind == 3) then some (decide ((x0.Text.length : Int) ≤ 100)) else some (x0.Text == [])))))))))) else ((if (x0.Kind == 3) then some true else (if (x0.Kind == 4) then some true else (if (x0.Kind == 5) then some true else some false))) : Option Bool).bind (fun y4 => ((if (x0.Kind == 3) then some true else (if (x0.Kind == 4) then some true else some false)) : Option Bool).bind (fun y5 => ((if (!(x0.User == [])) then some true else (if (!(x0.Name == [])) then some true else (if (x0.Next != 0) then some true else some false))) : Option Bool).bind (fun y6 => (if y6 then some false else ((if y4 then (F_spec_l01In x0.Uid 1 9999).bind fun v8 => (if v8 then some false else some true) else (if (x0.Uid != 0) then some true else some false)) : Option Bool).bind (fun y7 => (if y7 then some false else ((if y5 then (F_spec_l01In x0.Flags 0 7).bind fun v10 => (if v10 then some false else some true) else (if (x0.Flags != 0) then some true else some false)) : Option Bool).bind (fun y9 => (if y9 then some false else (if (x0.Kind == 3) then some (decide ((x0.Text.length : Int) ≤ 100)) else some (x0.Text == [])))))))))))))
noncomputable def S_spec_ItemsOk_2 (x0 : List TItem) (s1 : Int) (s8 : Int) : Option (Int ⊕ (Bool ⊕ Unit)) :=
  (if decide (s8 < s1) then ((at? x0 s8).bind fun v11 => (at? x0 s1).bind fun v12 => (if (v11.Seq == v12.Seq) then (at? x0 s8).bind fun v13 => (at? x0 s1).bind fun v14 => (if !(v13.Seq == v14.Seq && (v13.Rec.Kind == v14.Rec.Kind && (v13.Rec.Valid == v14.Rec.Valid && (v13.Rec.Uid == v14.Rec.Uid && (v13.Rec.Next == v14.Rec.Next && (v13.Rec.Flags == v14.Rec.Flags && (v13.Rec.User == v14.Rec.User && (v13.Rec.Name == v14.Rec.Name && (v13.Rec.Text == v14.Rec.Text && true))))))))) then some true else some false) else some false) : Option Bool).bind (fun y10 => (if y10 then some (.inr (.inl false)) else some (.inl (w64 (s8 + 1))))) else some (.inr (.inr ())))
noncomputable def S_spec_ItemsOk_1 (x0 : List TItem) (s1 : Int) : Option (Int ⊕ (Bool ⊕ Unit)) :=
  (if decide (s1 < (x0.length : Int)) then ((at? x0 s1).bind fun v4 => (F_spec_l01In v4.Seq 1 1000000000).bind fun v5 => (if v5 then (at? x0 s1).bind fun v6 => (F_spec_RecOk v6.Rec).bind fun v7 => (if v7 then some false else some true) else some true) : Option Bool).bind (fun y3 => (if y3 then some (.inr (.inl false)) else (iter (S_spec_ItemsOk_2 x0 s1) 0).bind (Sum.elim (fun r => some (.inr (.inl r))) (fun y9 => some (.inl (w64 (s1 + 1))))))) else some (.inr (.inr ())))
noncomputable def F_spec_ItemsOk (x0 : List TItem) : Option Bool :=
  (iter (S_spec_ItemsOk_1 x0) 0).bind (Sum.elim (fun r => some r) (fun y2 => some (decide ((x0.length : Int) ≤ 200))))
noncomputable def F_spec_l08Bigger (x0 : TItem) (x1 : TItem) : Option Bool :=
  ((if decide (x0.Rec.Next > x1.Rec.Next) then some true else (if (x0.Rec.Next == x1.Rec.Next) then some (decide (x0.Seq > x1.Seq)) else some false)) : Option Bool).bind (fun y1 => some y1)
noncomputable def S_spec_l07Best_1 (x0 : List TItem) (x1 : Int) (x2 : Int) (x3 : Int) (s1 : Bool × Int × Int × Int × Int × Int × Int × Int × (List UInt8) × (List UInt8) × (List UInt8)) : Option ((Bool × Int × Int × Int × Int × Int × Int × Int × (List UInt8) × (List UInt8) × (List UInt8)) ⊕ (Bool × Int × Int × Int × Int × Int × Int × (List UInt8) × (List UInt8) × (List UInt8))) :=
  (if decide (s1.2.1 < (x0.length : Int)) then (at? x0 s1.2.1).bind fun v3 => ((if (v3.Rec.Kind == x1) then (if (v3.Rec.Valid == x2) then (if (v3.Rec.Uid == x3) then (if !s1.1 then some true else (if decide (v3.Seq > s1.2.2.1) then some true else some false)) else some false) else some false) else some false) : Option Bool).bind (fun y4 => (if y4 then some (.inl (true, w64 (s1.2.1 + 1), v3.Seq, v3.Rec.Kind, v3.Rec.Valid, v3.Rec.Uid, v3.Rec.Next, v3.Rec.Flags, v3.Rec.User, v3.Rec.Name, v3.Rec.Text)) else some (.inl (s1.1, w64 (s1.2.1 + 1), s1.2.2.1, s1.2.2.2.1, s1.2.2.2.2.1, s1.2.2.2.2.2.1, s1.2.2.2.2.2.2.1, s1.2.2.2.2.2.2.2.1, s1.2.2.2.2.2.2.2.2.1, s1.2.2.2.2.2.2.2.2.2.1, s1.2.2.2.2.2.2.2.2.2.2)))) else some (.inr (s1.1, s1.2.2.1, s1.2.2.2.1, s1.2.2.2.2.1, s1.2.2.2.2.2.1, s1.2.2.2.2.2.2.1, s1.2.2.2.2.2.2.2.1, s1.2.2.2.2.2.2.2.2.1, s1.2.2.2.2.2.2.2.2.2.1, s1.2.2.2.2.2.2.2.2.2.2)))
noncomputable def F_spec_l07Best (x0 : List TItem) (x1 : Int) (x2 : Int) (x3 : Int) : Option (TItem × Bool) :=
  (iter (S_spec_l07Best_1 x0 x1 x2 x3) (false, 0, 0, 0, 0, 0, 0, 0, [], [], [])).bind (fun y5 => some (({ Seq := y5.2.1, Rec := ({ Kind := y5.2.2.1, Valid := y5.2.2.2.1, Uid := y5.2.2.2.2.1, Next := y5.2.2.2.2.2.1, Flags := y5.2.2.2.2.2.2.1, User := y5.2.2.2.2.2.2.2.1, Name := y5.2.2.2.2.2.2.2.2.1, Text := y5.2.2.2.2.2.2.2.2.2 } : TRec) } : TItem), y5.1))
noncomputable def F_spec_l08Has (x0 : List TItem) (x1 : Int) (x2 : Int) (x3 : Int) : Option Bool :=
  (F_spec_l07Best x0 x1 x2 x3).bind fun v1 => some v1.2
noncomputable def F_spec_l08There (x0 : List TItem) (x1 : Int) : Option Bool :=
  (F_spec_l08Has x0 1 x1 0).bind fun v1 => (if v1 then (F_spec_l08Has x0 2 x1 0).bind fun v2 => some (!v2) else some false)
noncomputable def S_spec_l08Need_3 (x0 : List TItem) (v1 : TItem) (s22 : Int) : Option (Int ⊕ (Bool ⊕ Unit)) :=
  (if decide (s22 < (x0.length : Int)) then ((at? x0 s22).bind fun v25 => (if (v25.Rec.Kind == 1) then (at? x0 s22).bind fun v26 => (if (v26.Rec.Valid == v1.Rec.Valid) then (at? x0 s22).bind fun v27 => (F_spec_l08Bigger v27 v1).bind fun v28 => (if v28 then some true else some false) else some false) else some false) : Option Bool).bind (fun y24 => (if y24 then some (.inr (.inl false)) else some (.inl (w64 (s22 + 1))))) else some (.inr (.inr ())))
noncomputable def S_spec_l08Need_2 (x0 : List TItem) (v1 : TItem) (v15 : TItem × Bool) (s16 : Int) : Option (Int ⊕ (Bool ⊕ Unit)) :=
  (if decide (s16 < (x0.length : Int)) then ((at? x0 s16).bind fun v19 => (if (v19.Rec.Kind != 2) then (at? x0 s16).bind fun v20 => (if (v20.Rec.Valid == v1.Rec.Valid) then some true else some false) else some false) : Option Bool).bind (fun y18 => (if y18 then some (.inr (.inl (v15.1.Seq == v1.Seq))) else some (.inl (w64 (s16 + 1))))) else some (.inr (.inr ())))
noncomputable def S_spec_l08Need_1 (x0 : List TItem) (x1 : Int) (v1 : TItem) (s2 : Int) : Option (Int ⊕ (Bool ⊕ Unit)) :=
  (if decide (s2 < x1) then (at? x0 s2).bind fun v4 => (if (v4.Seq == v1.Seq) then some (.inr (.inl false)) else some (.inl (w64 (s2 + 1)))) else some (.inr (.inr ())))
noncomputable def F_spec_l08Need (x0 : List TItem) (x1 : Int) : Option Bool :=
  (at? x0 x1).bind fun v1 => (iter (S_spec_l08Need_1 x0 x1 v1) 0).bind (Sum.elim (fun r => some r) (fun y3 => (if (v1.Rec.Kind == 1) then (iter (S_spec_l08Need_3 x0 v1) 0).bind (Sum.elim (fun r => some r) (fun y23 => (F_spec_l08There x0 v1.Rec.Valid).bind fun v30 => some v30)) else (if (v1.Rec.Kind == 2) then (F_spec_l07Best x0 2 v1.Rec.Valid 0).bind fun v15 => (iter (S_spec_l08Need_2 x0 v1 v15) 0).bind (Sum.elim (fun r => some r) (fun y17 => some false)) else (if (v1.Rec.Kind == 5) then (F_spec_l07Best x0 5 v1.Rec.Valid v1.Rec.Uid).bind fun v11 => ((F_spec_l08There x0 v1.Rec.Valid).bind fun v13 => (if v13 then (F_spec_l08Has x0 3 v1.Rec.Valid v1.Rec.Uid).bind fun v14 => (if v14 then some (v11.1.Seq == v1.Seq) else some false) else some false) : Option Bool).bind (fun y12 => some y12) else (F_spec_l07Best x0 v1.Rec.Kind v1.Rec.Valid v1.Rec.Uid).bind fun v6 => ((F_spec_l08There x0 v1.Rec.Valid).bind fun v8 => (if v8 then (F_spec_l08Has x0 3 v1.Rec.Valid v1.Rec.Uid).bind fun v9 => (if v9 then (F_spec_l08Has x0 5 v1.Rec.Valid v1.Rec.Uid).bind fun v10 => (if v10 then some false else some (v6.1.Seq == v1.Seq)) else some false) else some false) : Option Bool).bind (fun y7 => some y7))))))
noncomputable def S_spec_NeededAll_2 (x0 : List TItem) (s6 : Int × (List Bool)) : Option ((Int × (List Bool)) ⊕ (List Bool)) :=
  (if decide (s6.1 < (x0.length : Int)) then (F_spec_l08Need x0 s6.1).bind fun v8 => (app? 1 s6.2 [v8]).bind fun v9 => some (.inl (w64 (s6.1 + 1), v9)) else some (.inr s6.2))
noncomputable def S_spec_NeededAll_1 (x0 : List TItem) (s2 : Int × (List Bool)) : Option ((Int × (List Bool)) ⊕ (List Bool)) :=
  (if decide (s2.1 < (x0.length : Int)) then (app? 1 s2.2 [false]).bind fun v4 => some (.inl (w64 (s2.1 + 1), v4)) else some (.inr s2.2))
noncomputable def F_spec_NeededAll (x0 : List TItem) : Option (List Bool) :=
  (F_spec_ItemsOk x0).bind fun v1 => (if v1 then (iter (S_spec_NeededAll_2 x0) (0, ([] : List Bool))).bind (fun y10 => some y10) else (iter (S_spec_NeededAll_1 x0) (0, ([] : List Bool))).bind (fun y5 => some y5))
noncomputable def F_laws_toRec (x0 : TRec) : Option TRec :=
  some x0
noncomputable def F_laws_toItem (x0 : TItem) : Option TItem :=
  (F_laws_toRec x0.Rec).bind fun v1 => some ({ Seq := x0.Seq, Rec := v1 } : TItem)
noncomputable def S_laws_toItemS_1 (x0 : List TItem) (s2 : Int × (List TItem)) : Option ((Int × (List TItem)) ⊕ (List TItem)) :=
  (if decide (s2.1 < (x0.length : Int)) then (at? x0 s2.1).bind fun v4 => (F_laws_toItem v4).bind fun v5 => (at? s2.2 s2.1).bind fun v6 => (some (set' s2.2 s2.1 v5)).bind fun v7 => some (.inl (w64 (s2.1 + 1), v7)) else some (.inr s2.2))
noncomputable def F_laws_toItemS (x0 : List TItem) : Option (List TItem) :=
  (mk? 96 (({ Seq := 0, Rec := ({ Kind := 0, Valid := 0, Uid := 0, Next := 0, Flags := 0, User := [], Name := [], Text := [] } : TRec) } : TItem) : TItem) (x0.length : Int)).bind fun v1 => (iter (S_laws_toItemS_1 x0) (0, v1)).bind (fun y8 => some y8)
noncomputable def F_impl_in (x0 : Int) (x1 : Int) (x2 : Int) : Option Bool :=
  (if decide (x0 ≥ x1) then some (decide (x0 ≤ x2)) else some false)
noncomputable def S_impl_WordOk_1 (x0 : List UInt8) (s2 : Int) : Option (Int ⊕ (Bool ⊕ Unit)) :=
  (if decide (s2 < (x0.length : Int)) then ((bt? x0 s2).bind fun v5 => (if decide ((v5.toNat : Int) < 97) then some true else (bt? x0 s2).bind fun v6 => (if decide ((v6.toNat : Int) > 122) then some true else some false)) : Option Bool).bind (fun y4 => (if y4 then some (.inr (.inl false)) else some (.inl (w64 (s2 + 1))))) else some (.inr (.inr ())))
noncomputable def F_impl_WordOk (x0 : List UInt8) : Option Bool :=
  (F_impl_in (x0.length : Int) 1 8).bind fun v1 => (if v1 then (iter (S_impl_WordOk_1 x0) 0).bind (Sum.elim (fun r => some r) (fun y3 => some true)) else some false)
noncomputable def F_impl_RecOk (x0 : TRec) : Option Bool :=
  (F_impl_in x0.Valid 1 9999).bind fun v1 => (if v1 then ((if (x0.Kind == 3) then some true else (if (x0.Kind == 4) then some true else (if (x0.Kind == 5) then some true else some false))) : Option Bool).bind (fun y2 => ((if y2 then (F_impl_in x0.Uid 1 9999).bind fun v4 => (if v4 then some (true, 0) else some (false, 0)) else some (true, x0.Uid)) : Option (Bool × Int)).bind (fun y3 => ((if (x0.Kind == 3) then some true else (if (x0.Kind == 4) then some true else some false)) : Option Bool).bind (fun y5 => ((if y5 then ((if y3.1 then (F_impl_in x0.Flags 0 7).bind fun v8 => (if v8 then some true else some false) else some false) : Option Bool).bind (fun y7 => some (y7, 0)) else some (y3.1, x0.Flags)) : Option (Bool × Int)).bind (fun y6 => ((if (x0.Kind == 1) then ((F_impl_WordOk x0.User).bind fun v12 => (if v12 then (F_impl_WordOk x0.Name).bind fun v13 => (if v13 then (F_impl_in x0.Next 1 10000).bind fun v14 => (if v14 then some true else some false) else some false) else some false) : Option Bool).bind (fun y11 => some (.inr (y11, 0, [], [], x0.Text))) else (if (x0.Kind == 3) then ((if y6.1 then (if decide ((x0.Text.length : Int) ≤ 100) then some true else some false) else some false) : Option Bool).bind (fun y10 => some (.inr (y10, x0.Next, x0.User, x0.Name, []))) else (if (x0.Kind == 2) then some (.inr (y6.1, x0.Next, x0.User, x0.Name, x0.Text)) else (if (x0.Kind == 4) then some (.inr (y6.1, x0.Next, x0.User, x0.Name, x0.Text)) else (if (x0.Kind == 5) then some (.inr (y6.1, x0.Next, x0.User, x0.Name, x0.Text)) else some (.inl false)))))) : Option (Bool ⊕ (Bool × Int × (List UInt8) × (List UInt8) × (List UInt8)))).bind (Sum.elim (fun r => some r) (fun y9_ => (if y9_.1 then some (0 == 0 && (0 == 0 && (y3.2 == 0 && (y9_.2.1 == 0 && (y6.2 == 0 && (y9_.2.2.1 == [] && (y9_.2.2.2.1 == [] && (y9_.2.2.2.2 == [] && true)))))))) else some false))))))) else some false)
noncomputable def F_impl_ItemsOk_1_w (x0 : TItem) (x1 : TItem) : Option Bool :=
  (if (x0.Seq == x1.Seq) then some (!(x0.Seq == x1.Seq && (x0.Rec.Kind == x1.Rec.Kind && (x0.Rec.Valid == x1.Rec.Valid && (x0.Rec.Uid == x1.Rec.Uid && (x0.Rec.Next == x1.Rec.Next && (x0.Rec.Flags == x1.Rec.Flags && (x0.Rec.User == x1.Rec.User && (x0.Rec.Name == x1.Rec.Name && (x0.Rec.Text == x1.Rec.Text && true)))))))))) else some false)
noncomputable def S_slices_IndexFunc_Item_ItemsOk_1_1 (x0 : List TItem) (x1 : TItem) (s1 : Int) : Option (Int ⊕ (Int ⊕ Unit)) :=
  (if decide (s1 < (x0.length : Int)) then (at? x0 s1).bind fun v3 => (F_impl_ItemsOk_1_w v3 x1).bind fun v4 => (if v4 then some (.inr (.inl s1)) else some (.inl (w64 (s1 + 1)))) else some (.inr (.inr ())))
noncomputable def F_slices_IndexFunc_Item_ItemsOk_1 (x0 : List TItem) (x1 : TItem) : Option Int :=
  (iter (S_slices_IndexFunc_Item_ItemsOk_1_1 x0 x1) 0).bind (Sum.elim (fun r => some r) (fun y2 => some (-1)))
noncomputable def F_slices_ContainsFunc_Item_ItemsOk_1 (x0 : List TItem) (x1 : TItem) : Option Bool :=
  (F_slices_IndexFunc_Item_ItemsOk_1 x0 x1).bind fun v1 => some (decide (v1 ≥ 0))
noncomputable def S_impl_ItemsOk_1 (x0 : List TItem) (s1 : Int) : Option (Int ⊕ (Bool ⊕ Unit)) :=
  (if decide (s1 < (x0.length : Int)) then (at? x0 s1).bind fun v3 => ((F_impl_in v3.Seq 1 1000000000).bind fun v5 => (if v5 then (F_impl_RecOk v3.Rec).bind fun v6 => (if v6 then some false else some true) else some true) : Option Bool).bind (fun y4 => (if y4 then some (.inr (.inl false)) else (sub? x0 0 s1).bind fun v7 => (F_slices_ContainsFunc_Item_ItemsOk_1 v7 v3).bind fun v8 => (if v8 then some (.inr (.inl false)) else some (.inl (w64 (s1 + 1)))))) else some (.inr (.inr ())))
noncomputable def F_impl_ItemsOk (x0 : List TItem) : Option Bool :=
  (if decide ((x0.length : Int) > 200) then some false else (iter (S_impl_ItemsOk_1 x0) 0).bind (Sum.elim (fun r => some r) (fun y2 => some true)))
noncomputable def F_impl_needed_1_w (x0 : TItem) (x1 : TItem) : Option Bool :=
  some (x0.Seq == x1.Seq)
noncomputable def S_slices_IndexFunc_Item_needed_1_1 (x0 : List TItem) (x1 : TItem) (s1 : Int) : Option (Int ⊕ (Int ⊕ Unit)) :=
  (if decide (s1 < (x0.length : Int)) then (at? x0 s1).bind fun v3 => (F_impl_needed_1_w v3 x1).bind fun v4 => (if v4 then some (.inr (.inl s1)) else some (.inl (w64 (s1 + 1)))) else some (.inr (.inr ())))
noncomputable def F_slices_IndexFunc_Item_needed_1 (x0 : List TItem) (x1 : TItem) : Option Int :=
  (iter (S_slices_IndexFunc_Item_needed_1_1 x0 x1) 0).bind (Sum.elim (fun r => some r) (fun y2 => some (-1)))
noncomputable def F_slices_ContainsFunc_Item_needed_1 (x0 : List TItem) (x1 : TItem) : Option Bool :=
  (F_slices_IndexFunc_Item_needed_1 x0 x1).bind fun v1 => some (decide (v1 ≥ 0))
noncomputable def F_impl_needed_2_w (x0 : TItem) (x1 : TRec) : Option Bool :=
  (if (x0.Rec.Valid == x1.Valid) then some (x0.Rec.Kind != 2) else some false)
noncomputable def S_slices_IndexFunc_Item_needed_2_1 (x0 : List TItem) (x1 : TRec) (s1 : Int) : Option (Int ⊕ (Int ⊕ Unit)) :=
  (if decide (s1 < (x0.length : Int)) then (at? x0 s1).bind fun v3 => (F_impl_needed_2_w v3 x1).bind fun v4 => (if v4 then some (.inr (.inl s1)) else some (.inl (w64 (s1 + 1)))) else some (.inr (.inr ())))
noncomputable def F_slices_IndexFunc_Item_needed_2 (x0 : List TItem) (x1 : TRec) : Option Int :=
  (iter (S_slices_IndexFunc_Item_needed_2_1 x0 x1) 0).bind (Sum.elim (fun r => some r) (fun y2 => some (-1)))
noncomputable def F_slices_ContainsFunc_Item_needed_2 (x0 : List TItem) (x1 : TRec) : Option Bool :=
  (F_slices_IndexFunc_Item_needed_2 x0 x1).bind fun v1 => some (decide (v1 ≥ 0))
noncomputable def F_impl_bySeq (x0 : TItem) (x1 : TItem) : Option Bool :=
  some (decide (x0.Seq < x1.Seq))
noncomputable def F_impl_about (x0 : TRec) (x1 : Int) (x2 : Int) : Option Bool :=
  (if (x0.Kind == x1) then some (x0.Valid == x2) else some false)
noncomputable def F_impl_boxThere_1_w (x0 : TRec) (x1 : Int) : Option Bool :=
  (F_impl_about x0 2 x1).bind fun v1 => some v1
noncomputable def S_impl_latest_boxThere_1_bySeq_1 (x0 : List TItem) (x1 : Int) (s1 : Bool × Int × Int × Int × Int × Int × Int × Int × (List UInt8) × (List UInt8) × (List UInt8)) : Option ((Bool × Int × Int × Int × Int × Int × Int × Int × (List UInt8) × (List UInt8) × (List UInt8)) ⊕ (Bool × Int × Int × Int × Int × Int × Int × (List UInt8) × (List UInt8) × (List UInt8))) :=
  (if decide (s1.2.1 < (x0.length : Int)) then (at? x0 s1.2.1).bind fun v3 => ((F_impl_boxThere_1_w v3.Rec x1).bind fun v5 => (if v5 then (if !s1.1 then some true else (F_impl_bySeq ({ Seq := s1.2.2.1, Rec := ({ Kind := s1.2.2.2.1, Valid := s1.2.2.2.2.1, Uid := s1.2.2.2.2.2.1, Next := s1.2.2.2.2.2.2.1, Flags := s1.2.2.2.2.2.2.2.1, User := s1.2.2.2.2.2.2.2.2.1, Name := s1.2.2.2.2.2.2.2.2.2.1, Text := s1.2.2.2.2.2.2.2.2.2.2 } : TRec) } : TItem) v3).bind fun v6 => (if v6 then some true else some false)) else some false) : Option Bool).bind (fun y4 => (if y4 then some (.inl (true, w64 (s1.2.1 + 1), v3.Seq, v3.Rec.Kind, v3.Rec.Valid, v3.Rec.Uid, v3.Rec.Next, v3.Rec.Flags, v3.Rec.User, v3.Rec.Name, v3.Rec.Text)) else some (.inl (s1.1, w64 (s1.2.1 + 1), s1.2.2.1, s1.2.2.2.1, s1.2.2.2.2.1, s1.2.2.2.2.2.1, s1.2.2.2.2.2.2.1, s1.2.2.2.2.2.2.2.1, s1.2.2.2.2.2.2.2.2.1, s1.2.2.2.2.2.2.2.2.2.1, s1.2.2.2.2.2.2.2.2.2.2)))) else some (.inr (s1.1, s1.2.2.1, s1.2.2.2.1, s1.2.2.2.2.1, s1.2.2.2.2.2.1, s1.2.2.2.2.2.2.1, s1.2.2.2.2.2.2.2.1, s1.2.2.2.2.2.2.2.2.1, s1.2.2.2.2.2.2.2.2.2.1, s1.2.2.2.2.2.2.2.2.2.2)))
noncomputable def F_impl_latest_boxThere_1_bySeq (x0 : List TItem) (x1 : Int) : Option (TItem × Bool) :=
  (iter (S_impl_latest_boxThere_1_bySeq_1 x0 x1) (false, 0, 0, 0, 0, 0, 0, 0, [], [], [])).bind (fun y7 => some (({ Seq := y7.2.1, Rec := ({ Kind := y7.2.2.1, Valid := y7.2.2.2.1, Uid := y7.2.2.2.2.1, Next := y7.2.2.2.2.2.1, Flags := y7.2.2.2.2.2.2.1, User := y7.2.2.2.2.2.2.2.1, Name := y7.2.2.2.2.2.2.2.2.1, Text := y7.2.2.2.2.2.2.2.2.2 } : TRec) } : TItem), y7.1))
noncomputable def F_impl_boxThere_2_w (x0 : TRec) (x1 : Int) : Option Bool :=
  (F_impl_about x0 1 x1).bind fun v1 => some v1
noncomputable def F_impl_byNext (x0 : TItem) (x1 : TItem) : Option Bool :=
  (if (x0.Rec.Next != x1.Rec.Next) then some (decide (x0.Rec.Next < x1.Rec.Next)) else some (decide (x0.Seq < x1.Seq)))
noncomputable def S_impl_latest_boxThere_2_byNext_1 (x0 : List TItem) (x1 : Int) (s1 : Bool × Int × Int × Int × Int × Int × Int × Int × (List UInt8) × (List UInt8) × (List UInt8)) : Option ((Bool × Int × Int × Int × Int × Int × Int × Int × (List UInt8) × (List UInt8) × (List UInt8)) ⊕ (Bool × Int × Int × Int × Int × Int × Int × (List UInt8) × (List UInt8) × (List UInt8))) :=
  (if decide (s1.2.1 < (x0.length : Int)) then (at? x0 s1.2.1).bind fun v3 => ((F_impl_boxThere_2_w v3.Rec x1).bind fun v5 => (if v5 then (if !s1.1 then some true else (F_impl_byNext ({ Seq := s1.2.2.1, Rec := ({ Kind := s1.2.2.2.1, Valid := s1.2.2.2.2.1, Uid := s1.2.2.2.2.2.1, Next := s1.2.2.2.2.2.2.1, Flags := s1.2.2.2.2.2.2.2.1, User := s1.2.2.2.2.2.2.2.2.1, Name := s1.2.2.2.2.2.2.2.2.2.1, Text := s1.2.2.2.2.2.2.2.2.2.2 } : TRec) } : TItem) v3).bind fun v6 => (if v6 then some true else some false)) else some false) : Option Bool).bind (fun y4 => (if y4 then some (.inl (true, w64 (s1.2.1 + 1), v3.Seq, v3.Rec.Kind, v3.Rec.Valid, v3.Rec.Uid, v3.Rec.Next, v3.Rec.Flags, v3.Rec.User, v3.Rec.Name, v3.Rec.Text)) else some (.inl (s1.1, w64 (s1.2.1 + 1), s1.2.2.1, s1.2.2.2.1, s1.2.2.2.2.1, s1.2.2.2.2.2.1, s1.2.2.2.2.2.2.1, s1.2.2.2.2.2.2.2.1, s1.2.2.2.2.2.2.2.2.1, s1.2.2.2.2.2.2.2.2.2.1, s1.2.2.2.2.2.2.2.2.2.2)))) else some (.inr (s1.1, s1.2.2.1, s1.2.2.2.1, s1.2.2.2.2.1, s1.2.2.2.2.2.1, s1.2.2.2.2.2.2.1, s1.2.2.2.2.2.2.2.1, s1.2.2.2.2.2.2.2.2.1, s1.2.2.2.2.2.2.2.2.2.1, s1.2.2.2.2.2.2.2.2.2.2)))
noncomputable def F_impl_latest_boxThere_2_byNext (x0 : List TItem) (x1 : Int) : Option (TItem × Bool) :=
  (iter (S_impl_latest_boxThere_2_byNext_1 x0 x1) (false, 0, 0, 0, 0, 0, 0, 0, [], [], [])).bind (fun y7 => some (({ Seq := y7.2.1, Rec := ({ Kind := y7.2.2.1, Valid := y7.2.2.2.1, Uid := y7.2.2.2.2.1, Next := y7.2.2.2.2.2.1, Flags := y7.2.2.2.2.2.2.1, User := y7.2.2.2.2.2.2.2.1, Name := y7.2.2.2.2.2.2.2.2.1, Text := y7.2.2.2.2.2.2.2.2.2 } : TRec) } : TItem), y7.1))
noncomputable def F_impl_boxThere (x0 : List TItem) (x1 : Int) : Option (TItem × Bool) :=
  (F_impl_latest_boxThere_1_bySeq x0 x1).bind fun v1 => (if v1.2 then some (({ Seq := 0, Rec := ({ Kind := 0, Valid := 0, Uid := 0, Next := 0, Flags := 0, User := [], Name := [], Text := [] } : TRec) } : TItem), false) else (F_impl_latest_boxThere_2_byNext x0 x1).bind fun v2 => some (v2.1, v2.2))
noncomputable def F_impl_needed_3_w (x0 : TRec) (x1 : TRec) : Option Bool :=
  (F_impl_about x0 2 x1.Valid).bind fun v1 => some v1
noncomputable def S_impl_latest_needed_3_bySeq_1 (x0 : List TItem) (x1 : TRec) (s1 : Bool × Int × Int × Int × Int × Int × Int × Int × (List UInt8) × (List UInt8) × (List UInt8)) : Option ((Bool × Int × Int × Int × Int × Int × Int × Int × (List UInt8) × (List UInt8) × (List UInt8)) ⊕ (Bool × Int × Int × Int × Int × Int × Int × (List UInt8) × (List UInt8) × (List UInt8))) :=
  (if decide (s1.2.1 < (x0.length : Int)) then (at? x0 s1.2.1).bind fun v3 => ((F_impl_needed_3_w v3.Rec x1).bind fun v5 => (if v5 then (if !s1.1 then some true else (F_impl_bySeq ({ Seq := s1.2.2.1, Rec := ({ Kind := s1.2.2.2.1, Valid := s1.2.2.2.2.1, Uid := s1.2.2.2.2.2.1, Next := s1.2.2.2.2.2.2.1, Flags := s1.2.2.2.2.2.2.2.1, User := s1.2.2.2.2.2.2.2.2.1, Name := s1.2.2.2.2.2.2.2.2.2.1, Text := s1.2.2.2.2.2.2.2.2.2.2 } : TRec) } : TItem) v3).bind fun v6 => (if v6 then some true else some false)) else some false) : Option Bool).bind (fun y4 => (if y4 then some (.inl (true, w64 (s1.2.1 + 1), v3.Seq, v3.Rec.Kind, v3.Rec.Valid, v3.Rec.Uid, v3.Rec.Next, v3.Rec.Flags, v3.Rec.User, v3.Rec.Name, v3.Rec.Text)) else some (.inl (s1.1, w64 (s1.2.1 + 1), s1.2.2.1, s1.2.2.2.1, s1.2.2.2.2.1, s1.2.2.2.2.2.1, s1.2.2.2.2.2.2.1, s1.2.2.2.2.2.2.2.1, s1.2.2.2.2.2.2.2.2.1, s1.2.2.2.2.2.2.2.2.2.1, s1.2.2.2.2.2.2.2.2.2.2)))) else some (.inr (s1.1, s1.2.2.1, s1.2.2.2.1, s1.2.2.2.2.1, s1.2.2.2.2.2.1, s1.2.2.2.2.2.2.1, s1.2.2.2.2.2.2.2.1, s1.2.2.2.2.2.2.2.2.1, s1.2.2.2.2.2.2.2.2.2.1, s1.2.2.2.2.2.2.2.2.2.2)))
noncomputable def F_impl_latest_needed_3_bySeq (x0 : List TItem) (x1 : TRec) : Option (TItem × Bool) :=
  (iter (S_impl_latest_needed_3_bySeq_1 x0 x1) (false, 0, 0, 0, 0, 0, 0, 0, [], [], [])).bind (fun y7 => some (({ Seq := y7.2.1, Rec := ({ Kind := y7.2.2.1, Valid := y7.2.2.2.1, Uid := y7.2.2.2.2.1, Next := y7.2.2.2.2.2.1, Flags := y7.2.2.2.2.2.2.1, User := y7.2.2.2.2.2.2.2.1, Name := y7.2.2.2.2.2.2.2.2.1, Text := y7.2.2.2.2.2.2.2.2.2 } : TRec) } : TItem), y7.1))
noncomputable def F_impl_mailItem_1_w (x0 : TRec) (x1 : Int) (x2 : Int) (x3 : Int) : Option Bool :=
  (F_impl_about x0 x1 x2).bind fun v1 => (if v1 then some (x0.Uid == x3) else some false)
noncomputable def S_impl_latest_mailItem_1_bySeq_1 (x0 : List TItem) (x1 : Int) (x2 : Int) (x3 : Int) (s1 : Bool × Int × Int × Int × Int × Int × Int × Int × (List UInt8) × (List UInt8) × (List UInt8)) : Option ((Bool × Int × Int × Int × Int × Int × Int × Int × (List UInt8) × (List UInt8) × (List UInt8)) ⊕ (Bool × Int × Int × Int × Int × Int × Int × (List UInt8) × (List UInt8) × (List UInt8))) :=
  (if decide (s1.2.1 < (x0.length : Int)) then (at? x0 s1.2.1).bind fun v3 => ((F_impl_mailItem_1_w v3.Rec x1 x2 x3).bind fun v5 => (if v5 then (if !s1.1 then some true else (F_impl_bySeq ({ Seq := s1.2.2.1, Rec := ({ Kind := s1.2.2.2.1, Valid := s1.2.2.2.2.1, Uid := s1.2.2.2.2.2.1, Next := s1.2.2.2.2.2.2.1, Flags := s1.2.2.2.2.2.2.2.1, User := s1.2.2.2.2.2.2.2.2.1, Name := s1.2.2.2.2.2.2.2.2.2.1, Text := s1.2.2.2.2.2.2.2.2.2.2 } : TRec) } : TItem) v3).bind fun v6 => (if v6 then some true else some false)) else some false) : Option Bool).bind (fun y4 => (if y4 then some (.inl (true, w64 (s1.2.1 + 1), v3.Seq, v3.Rec.Kind, v3.Rec.Valid, v3.Rec.Uid, v3.Rec.Next, v3.Rec.Flags, v3.Rec.User, v3.Rec.Name, v3.Rec.Text)) else some (.inl (s1.1, w64 (s1.2.1 + 1), s1.2.2.1, s1.2.2.2.1, s1.2.2.2.2.1, s1.2.2.2.2.2.1, s1.2.2.2.2.2.2.1, s1.2.2.2.2.2.2.2.1, s1.2.2.2.2.2.2.2.2.1, s1.2.2.2.2.2.2.2.2.2.1, s1.2.2.2.2.2.2.2.2.2.2)))) else some (.inr (s1.1, s1.2.2.1, s1.2.2.2.1, s1.2.2.2.2.1, s1.2.2.2.2.2.1, s1.2.2.2.2.2.2.1, s1.2.2.2.2.2.2.2.1, s1.2.2.2.2.2.2.2.2.1, s1.2.2.2.2.2.2.2.2.2.1, s1.2.2.2.2.2.2.2.2.2.2)))
noncomputable def F_impl_latest_mailItem_1_bySeq (x0 : List TItem) (x1 : Int) (x2 : Int) (x3 : Int) : Option (TItem × Bool) :=
  (iter (S_impl_latest_mailItem_1_bySeq_1 x0 x1 x2 x3) (false, 0, 0, 0, 0, 0, 0, 0, [], [], [])).bind (fun y7 => some (({ Seq := y7.2.1, Rec := ({ Kind := y7.2.2.1, Valid := y7.2.2.2.1, Uid := y7.2.2.2.2.1, Next := y7.2.2.2.2.2.1, Flags := y7.2.2.2.2.2.2.1, User := y7.2.2.2.2.2.2.2.1, Name := y7.2.2.2.2.2.2.2.2.1, Text := y7.2.2.2.2.2.2.2.2.2 } : TRec) } : TItem), y7.1))
noncomputable def F_impl_mailItem (x0 : List TItem) (x1 : Int) (x2 : Int) (x3 : Int) : Option (TItem × Bool) :=
  (F_impl_latest_mailItem_1_bySeq x0 x1 x2 x3).bind fun v1 => some (v1.1, v1.2)
noncomputable def F_impl_mailThere (x0 : List TItem) (x1 : Int) (x2 : Int) : Option (TItem × Bool) :=
  (F_impl_boxThere x0 x1).bind fun v1 => (if !v1.2 then some (({ Seq := 0, Rec := ({ Kind := 0, Valid := 0, Uid := 0, Next := 0, Flags := 0, User := [], Name := [], Text := [] } : TRec) } : TItem), false) else (F_impl_mailItem x0 5 x1 x2).bind fun v2 => (if v2.2 then some (({ Seq := 0, Rec := ({ Kind := 0, Valid := 0, Uid := 0, Next := 0, Flags := 0, User := [], Name := [], Text := [] } : TRec) } : TItem), false) else (F_impl_mailItem x0 3 x1 x2).bind fun v3 => some (v3.1, v3.2)))
noncomputable def F_impl_needed (x0 : List TItem) (x1 : Int) : Option Bool :=
  (at? x0 x1).bind fun v1 => (sub? x0 0 x1).bind fun v2 => (F_slices_ContainsFunc_Item_needed_1 v2 v1).bind fun v3 => (if v3 then some false else ((if (v1.Rec.Kind == 1) then (F_impl_boxThere x0 v1.Rec.Valid).bind fun v15 => some (.inr (v15.2, v15.1.Seq, v15.1.Rec.Kind, v15.1.Rec.Valid, v15.1.Rec.Uid, v15.1.Rec.Next, v15.1.Rec.Flags, v15.1.Rec.User, v15.1.Rec.Name, v15.1.Rec.Text)) else (if (v1.Rec.Kind == 2) then (F_slices_ContainsFunc_Item_needed_2 x0 v1.Rec).bind fun v13 => (if v13 then (F_impl_latest_needed_3_bySeq x0 v1.Rec).bind fun v14 => some (.inr (v14.2, v14.1.Seq, v14.1.Rec.Kind, v14.1.Rec.Valid, v14.1.Rec.Uid, v14.1.Rec.Next, v14.1.Rec.Flags, v14.1.Rec.User, v14.1.Rec.Name, v14.1.Rec.Text)) else some (.inl false)) else (if (v1.Rec.Kind == 3) then (F_impl_mailThere x0 v1.Rec.Valid v1.Rec.Uid).bind fun v11 => (if !v11.2 then some (.inl false) else (F_impl_mailItem x0 v1.Rec.Kind v1.Rec.Valid v1.Rec.Uid).bind fun v12 => some (.inr (v12.2, v12.1.Seq, v12.1.Rec.Kind, v12.1.Rec.Valid, v12.1.Rec.Uid, v12.1.Rec.Next, v12.1.Rec.Flags, v12.1.Rec.User, v12.1.Rec.Name, v12.1.Rec.Text))) else ((if (v1.Rec.Kind == 4) then some true else some false) : Option Bool).bind (fun y5 => (if y5 then (F_impl_mailThere x0 v1.Rec.Valid v1.Rec.Uid).bind fun v9 => (if !v9.2 then some (.inl false) else (F_impl_mailItem x0 v1.Rec.Kind v1.Rec.Valid v1.Rec.Uid).bind fun v10 => some (.inr (v10.2, v10.1.Seq, v10.1.Rec.Kind, v10.1.Rec.Valid, v10.1.Rec.Uid, v10.1.Rec.Next, v10.1.Rec.Flags, v10.1.Rec.User, v10.1.Rec.Name, v10.1.Rec.Text))) else (if (v1.Rec.Kind == 5) then (F_impl_boxThere x0 v1.Rec.Valid).bind fun v6 => (F_impl_mailItem x0 3 v1.Rec.Valid v1.Rec.Uid).bind fun v7 => (if !v6.2 then some (.inl false) else (if !v7.2 then some (.inl false) else (F_impl_mailItem x0 5 v1.Rec.Valid v1.Rec.Uid).bind fun v8 => some (.inr (v8.2, v8.1.Seq, v8.1.Rec.Kind, v8.1.Rec.Valid, v8.1.Rec.Uid, v8.1.Rec.Next, v8.1.Rec.Flags, v8.1.Rec.User, v8.1.Rec.Name, v8.1.Rec.Text)))) else some (.inr (false, 0, 0, 0, 0, 0, 0, [], [], [])))))))) : Option (Bool ⊕ (Bool × Int × Int × Int × Int × Int × Int × (List UInt8) × (List UInt8) × (List UInt8)))).bind (Sum.elim (fun r => some r) (fun y4_ => (if y4_.1 then some (y4_.2.1 == v1.Seq && (y4_.2.2.1 == v1.Rec.Kind && (y4_.2.2.2.1 == v1.Rec.Valid && (y4_.2.2.2.2.1 == v1.Rec.Uid && (y4_.2.2.2.2.2.1 == v1.Rec.Next && (y4_.2.2.2.2.2.2.1 == v1.Rec.Flags && (y4_.2.2.2.2.2.2.2.1 == v1.Rec.User && (y4_.2.2.2.2.2.2.2.2.1 == v1.Rec.Name && (y4_.2.2.2.2.2.2.2.2.2 == v1.Rec.Text && true))))))))) else some false))))
noncomputable def S_impl_NeededAll_2 (x0 : List TItem) (s6 : Int × (List Bool)) : Option ((Int × (List Bool)) ⊕ (List Bool)) :=
  (if decide (s6.1 < (x0.length : Int)) then (F_impl_needed x0 s6.1).bind fun v8 => (app? 1 s6.2 [v8]).bind fun v9 => some (.inl (w64 (s6.1 + 1), v9)) else some (.inr s6.2))
noncomputable def S_impl_NeededAll_1 (x0 : List TItem) (s2 : Int × (List Bool)) : Option ((Int × (List Bool)) ⊕ (List Bool)) :=
  (if decide (s2.1 < (x0.length : Int)) then (app? 1 s2.2 [false]).bind fun v4 => some (.inl (w64 (s2.1 + 1), v4)) else some (.inr s2.2))
noncomputable def F_impl_NeededAll (x0 : List TItem) : Option (List Bool) :=
  (F_impl_ItemsOk x0).bind fun v1 => (if v1 then (iter (S_impl_NeededAll_2 x0) (0, ([] : List Bool))).bind (fun y10 => some y10) else (iter (S_impl_NeededAll_1 x0) (0, ([] : List Bool))).bind (fun y5 => some y5))
noncomputable def S_laws_eqBoolS_1 (x0 : List Bool) (x1 : List Bool) (s1 : Int) : Option (Int ⊕ (Bool ⊕ Unit)) :=
  (if decide (s1 < (x0.length : Int)) then (at? x0 s1).bind fun v3 => (at? x1 s1).bind fun v4 => (if !(v3 == v4) then some (.inr (.inl false)) else some (.inl (w64 (s1 + 1)))) else some (.inr (.inr ())))
noncomputable def F_laws_eqBoolS (x0 : List Bool) (x1 : List Bool) : Option Bool :=
  (if ((x0.length : Int) != (x1.length : Int)) then some false else (iter (S_laws_eqBoolS_1 x0 x1) 0).bind (Sum.elim (fun r => some r) (fun y2 => some true)))
noncomputable def F_laws_eqRec (x0 : TRec) (x1 : TRec) : Option Bool :=
  (if (x0.Kind != x1.Kind) then some false else (if (x0.Valid != x1.Valid) then some false else (if (x0.Uid != x1.Uid) then some false else (if (x0.Next != x1.Next) then some false else (if (x0.Flags != x1.Flags) then some false else (if (!(x0.User == x1.User)) then some false else (if (!(x0.Name == x1.Name)) then some false else (if (!(x0.Text == x1.Text)) then some false else some true))))))))
noncomputable def F_laws_eqItem (x0 : TItem) (x1 : TItem) : Option Bool :=
  (if (x0.Seq != x1.Seq) then some false else (F_laws_eqRec x0.Rec x1.Rec).bind fun v1 => (if v1 then some true else some false))
noncomputable def S_laws_eqItemS_1 (x0 : List TItem) (x1 : List TItem) (s1 : Int) : Option (Int ⊕ (Bool ⊕ Unit)) :=
  (if decide (s1 < (x0.length : Int)) then (at? x0 s1).bind fun v3 => (at? x1 s1).bind fun v4 => (F_laws_eqItem v3 v4).bind fun v5 => (if v5 then some (.inl (w64 (s1 + 1))) else some (.inr (.inl false))) else some (.inr (.inr ())))
noncomputable def F_laws_eqItemS (x0 : List TItem) (x1 : List TItem) : Option Bool :=
  (if ((x0.length : Int) != (x1.length : Int)) then some false else (iter (S_laws_eqItemS_1 x0 x1) 0).bind (Sum.elim (fun r => some r) (fun y2 => some true)))
noncomputable def S_laws_markText_1 (s1 : Int × (List UInt8)) : Option ((Int × (List UInt8)) ⊕ (List UInt8)) :=
  (if decide (s1.1 > 0) then (cat? ([IntKind.u8.wrap (w64 (48 + (Int.tmod s1.1 10)))].map ofI) s1.2).bind fun v3 => some (.inl (w64 (Int.tdiv s1.1 10), v3)) else some (.inr s1.2))
noncomputable def F_laws_markText (x0 : Int) : Option (List UInt8) :=
  (if decide (x0 ≤ 0) then some [109, 48] else (iter (S_laws_markText_1) (x0, [])).bind (fun y4 => (cat? [109] y4).bind fun v5 => some v5))
noncomputable def S_laws_markItemS_w_1 (s1 : Int × Int × (List TItem)) : Option ((Int × Int × (List TItem)) ⊕ (Int × (List TItem))) :=
  (if decide (s1.2.1 < (s1.2.2.length : Int)) then (at? s1.2.2 s1.2.1).bind fun v3 => (some (set' s1.2.2 s1.2.1 ({ Seq := s1.1, Rec := v3.Rec } : TItem))).bind fun v4 => (at? v4 s1.2.1).bind fun v5 => (some (set' v4 s1.2.1 ({ Seq := v5.Seq, Rec := ({ Kind := w64 (s1.1 + 1), Valid := v5.Rec.Valid, Uid := v5.Rec.Uid, Next := v5.Rec.Next, Flags := v5.Rec.Flags, User := v5.Rec.User, Name := v5.Rec.Name, Text := v5.Rec.Text } : TRec) } : TItem))).bind fun v6 => (at? v6 s1.2.1).bind fun v7 => (some (set' v6 s1.2.1 ({ Seq := v7.Seq, Rec := ({ Kind := v7.Rec.Kind, Valid := w64 ((w64 (s1.1 + 1)) + 1), Uid := v7.Rec.Uid, Next := v7.Rec.Next, Flags := v7.Rec.Flags, User := v7.Rec.User, Name := v7.Rec.Name, Text := v7.Rec.Text } : TRec) } : TItem))).bind fun v8 => (at? v8 s1.2.1).bind fun v9 => (some (set' v8 s1.2.1 ({ Seq := v9.Seq, Rec := ({ Kind := v9.Rec.Kind, Valid := v9.Rec.Valid, Uid := w64 ((w64 ((w64 (s1.1 + 1)) + 1)) + 1), Next := v9.Rec.Next, Flags := v9.Rec.Flags, User := v9.Rec.User, Name := v9.Rec.Name, Text := v9.Rec.Text } : TRec) } : TItem))).bind fun v10 => (at? v10 s1.2.1).bind fun v11 => (some (set' v10 s1.2.1 ({ Seq := v11.Seq, Rec := ({ Kind := v11.Rec.Kind, Valid := v11.Rec.Valid, Uid := v11.Rec.Uid, Next := w64 ((w64 ((w64 ((w64 (s1.1 + 1)) + 1)) + 1)) + 1), Flags := v11.Rec.Flags, User := v11.Rec.User, Name := v11.Rec.Name, Text := v11.Rec.Text } : TRec) } : TItem))).bind fun v12 => (at? v12 s1.2.1).bind fun v13 => (some (set' v12 s1.2.1 ({ Seq := v13.Seq, Rec := ({ Kind := v13.Rec.Kind, Valid := v13.Rec.Valid, Uid := v13.Rec.Uid, Next := v13.Rec.Next, Flags := w64 ((w64 ((w64 ((w64 ((w64 (s1.1 + 1)) + 1)) + 1)) + 1)) + 1), User := v13.Rec.User, Name := v13.Rec.Name, Text := v13.Rec.Text } : TRec) } : TItem))).bind fun v14 => (F_laws_markText (w64 ((w64 ((w64 ((w64 ((w64 ((w64 (s1.1 + 1)) + 1)) + 1)) + 1)) + 1)) + 1))).bind fun v15 => (at? v14 s1.2.1).bind fun v16 => (some (set' v14 s1.2.1 ({ Seq := v16.Seq, Rec := ({ Kind := v16.Rec.Kind, Valid := v16.Rec.Valid, Uid := v16.Rec.Uid, Next := v16.Rec.Next, Flags := v16.Rec.Flags, User := v15, Name := v16.Rec.Name, Text := v16.Rec.Text } : TRec) } : TItem))).bind fun v17 => (F_laws_markText (w64 ((w64 ((w64 ((w64 ((w64 ((w64 ((w64 (s1.1 + 1)) + 1)) + 1)) + 1)) + 1)) + 1)) + 1))).bind fun v18 => (at? v17 s1.2.1).bind fun v19 => (some (set' v17 s1.2.1 ({ Seq := v19.Seq, Rec := ({ Kind := v19.Rec.Kind, Valid := v19.Rec.Valid, Uid := v19.Rec.Uid, Next := v19.Rec.Next, Flags := v19.Rec.Flags, User := v19.Rec.User, Name := v18, Text := v19.Rec.Text } : TRec) } : TItem))).bind fun v20 => (F_laws_markText (w64 ((w64 ((w64 ((w64 ((w64 ((w64 ((w64 ((w64 (s1.1 + 1)) + 1)) + 1)) + 1)) + 1)) + 1)) + 1)) + 1))).bind fun v21 => (at? v20 s1.2.1).bind fun v22 => (some (set' v20 s1.2.1 ({ Seq := v22.Seq, Rec := ({ Kind := v22.Rec.Kind, Valid := v22.Rec.Valid, Uid := v22.Rec.Uid, Next := v22.Rec.Next, Flags := v22.Rec.Flags, User := v22.Rec.User, Name := v22.Rec.Name, Text := v21 } : TRec) } : TItem))).bind fun v23 => some (.inl (w64 ((w64 ((w64 ((w64 ((w64 ((w64 ((w64 ((w64 ((w64 (s1.1 + 1)) + 1)) + 1)) + 1)) + 1)) + 1)) + 1)) + 1)) + 1), w64 (s1.2.1 + 1), v23)) else some (.inr (s1.1, s1.2.2)))
noncomputable def F_laws_markItemS_w (x0 : List TItem) (x1 : Int) : Option (Int × (List TItem)) :=
  (iter (S_laws_markItemS_w_1) (x1, 0, x0)).bind (fun y24 => some (y24.1, y24.2))
noncomputable def S_laws_markBoolS_w_1 (s1 : Int × Int × (List Bool)) : Option ((Int × Int × (List Bool)) ⊕ (Int × (List Bool))) :=
  (if decide (s1.2.1 < (s1.2.2.length : Int)) then (at? s1.2.2 s1.2.1).bind fun v3 => (some (set' s1.2.2 s1.2.1 ((Int.tmod s1.1 3) == 0))).bind fun v4 => some (.inl (w64 (s1.1 + 1), w64 (s1.2.1 + 1), v4)) else some (.inr (s1.1, s1.2.2)))
noncomputable def F_laws_markBoolS_w (x0 : List Bool) (x1 : Int) : Option (Int × (List Bool)) :=
  (iter (S_laws_markBoolS_w_1) (x1, 0, x0)).bind (fun y5 => some (y5.1, y5.2))
noncomputable def S_laws_heldBoolS_1 (x0 : List Bool) (s1 : Int × Int) : Option ((Int × Int) ⊕ (Int ⊕ Int)) :=
  (if decide (s1.2 < (x0.length : Int)) then (at? x0 s1.2).bind fun v3 => (if !(v3 == ((Int.tmod s1.1 3) == 0)) then some (.inr (.inl (-1))) else some (.inl (w64 (s1.1 + 1), w64 (s1.2 + 1)))) else some (.inr (.inr s1.1)))
noncomputable def F_laws_heldBoolS (x0 : List Bool) (x1 : Int) : Option Int :=
  (iter (S_laws_heldBoolS_1 x0) (x1, 0)).bind (Sum.elim (fun r => some r) (fun y2 => some y2))
noncomputable def F_laws_FnExactNeededAll (x0 : List TItem) : Option Bool :=
  (F_laws_szItemS x0 1048576).bind fun v1 => (if decide (v1 < 0) then some true else (F_laws_toItemS x0).bind fun v2 => (F_spec_NeededAll v2).bind fun v3 => (F_laws_toItemS x0).bind fun v4 => (F_impl_NeededAll v4).bind fun v5 => (F_laws_eqBoolS v5 v3).bind fun v6 => (if v6 then (F_laws_toItemS x0).bind fun v7 => (F_laws_eqItemS v4 v7).bind fun v8 => (if v8 then (guardO (fun r => v4.length = r.2.length) (F_laws_markItemS_w v4 1)).bind fun v9 => ((if decide (v9.1 < 0) then some true else (F_laws_eqBoolS v5 v3).bind fun v11 => (if v11 then some false else some true)) : Option Bool).bind (fun y10 => (if y10 then some false else (guardO (fun r => v5.length = r.2.length) (F_laws_markBoolS_w v5 1)).bind fun v12 => (F_laws_heldBoolS v12.2 1).bind fun v13 => (if decide (v13 < 0) then some false else (if (v13 != v12.1) then some false else (F_laws_toItemS x0).bind fun v14 => (F_impl_NeededAll v14).bind fun v15 => (F_laws_eqBoolS v15 v3).bind fun v16 => (if v16 then (F_laws_heldBoolS v12.2 1).bind fun v17 => (if decide (v17 < 0) then some false else (if (v17 != v12.1) then some false else some true)) else some false))))) else some false) else some false))
end Go.Proofs.Ytgdcbjoaoagbpaa.V
