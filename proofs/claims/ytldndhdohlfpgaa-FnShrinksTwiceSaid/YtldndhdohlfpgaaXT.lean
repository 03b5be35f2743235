/- Records, and what the functions compute. -/
import Derived.Test.YtldndhdohlfpgaaXE
/- Records, and how they lie in cells. -/
namespace Go.Proofs.Ytldndhdohlfpgaa.V
open Go Go.Proofs Go.RowKit
set_option maxRecDepth 100000
structure TWrite where
 At : Int
 Text : List UInt8
def enc_TWrite (_ : Bool) (x : TWrite) : List AV := [.j x.At, .str x.Text]
theorem sc_TWrite (o : Bool) (x : TWrite) : ∀ v ∈ enc_TWrite o x, Scl v := (fac .int (fac .str fan))
theorem fk_TWrite : FlatOk enc_TWrite 2 := ⟨⟨fun _ _ => rfl, by omega, fun _ _ => (fac .int (fac .str fan)), fun _ => (fac .int (fac .str fan)), fun _ => (.cons .refl (.cons .refl .nil))⟩, fun _ => rfl, fun _ _ => (fac rfl (fac rfl fan)), fun _ _ => (fac rfl (fac rfl fan))⟩
theorem ek_TWrite : EncOk enc_TWrite 2 := fk_TWrite.toEncOk
abbrev L_TWrite (l : List TWrite) : AV := .lst false 2 (fl (enc_TWrite false) l) l.length
structure TDisk where
 Sectors : List (List UInt8)
 Cache : List TWrite
def enc_TDisk (o : Bool) (x : TDisk) : List AV := [.lst o 1 (fl (encS o) x.Sectors) x.Sectors.length, .lst o 2 (fl (enc_TWrite o) x.Cache) x.Cache.length]
theorem ek_TDisk : EncOk enc_TDisk 2 := ⟨fun _ _ => rfl, by omega, fun _ _ => (fac (.lst (ekS.fdat _ _)) (fac (.lst (ek_TWrite.fdat _ _)) fan)), fun _ => (fac (.lst (ekS.fown _)) (fac (.lst (ek_TWrite.fown _)) fan)), fun _ => (.cons (ekS.fflag _).lst (.cons (ek_TWrite.fflag _).lst .nil))⟩
abbrev L_TDisk (l : List TDisk) : AV := .lst false 2 (fl (enc_TDisk false) l) l.length
structure TRec where
 Kind : Int
 Valid : Int
 Uid : Int
 Next : Int
 Flags : Int
 User : List UInt8
 Name : List UInt8
 Text : List UInt8
def enc_TRec (_ : Bool) (x : TRec) : List AV := [.j x.Kind, .j x.Valid, .j x.Uid, .j x.Next, .j x.Flags, .str x.User, .str x.Name, .str x.Text]
theorem sc_TRec (o : Bool) (x : TRec) : ∀ v ∈ enc_TRec o x, Scl v := (fac .int (fac .int (fac .int (fac .int (fac .int (fac .str (fac .str (fac .str fan))))))))
theorem fk_TRec : FlatOk enc_TRec 8 := ⟨⟨fun _ _ => rfl, by omega, fun _ _ => (fac .int (fac .int (fac .int (fac .int (fac .int (fac .str (fac .str (fac .str fan)))))))), fun _ => (fac .int (fac .int (fac .int (fac .int (fac .int (fac .str (fac .str (fac .str fan)))))))), fun _ => (.cons .refl (.cons .refl (.cons .refl (.cons .refl (.cons .refl (.cons .refl (.cons .refl (.cons .refl .nil))))))))⟩, fun _ => rfl, fun _ _ => (fac rfl (fac rfl (fac rfl (fac rfl (fac rfl (fac rfl (fac rfl (fac rfl fan)))))))), fun _ _ => (fac rfl (fac rfl (fac rfl (fac rfl (fac rfl (fac rfl (fac rfl (fac rfl fan))))))))⟩
theorem ek_TRec : EncOk enc_TRec 8 := fk_TRec.toEncOk
abbrev L_TRec (l : List TRec) : AV := .lst false 8 (fl (enc_TRec false) l) l.length
structure TItem where
 Seq : Int
 Rec : TRec
def enc_TItem (_ : Bool) (x : TItem) : List AV := [.j x.Seq, .j x.Rec.Kind, .j x.Rec.Valid, .j x.Rec.Uid, .j x.Rec.Next, .j x.Rec.Flags, .str x.Rec.User, .str x.Rec.Name, .str x.Rec.Text]
theorem sc_TItem (o : Bool) (x : TItem) : ∀ v ∈ enc_TItem o x, Scl v := (fac .int (fac .int (fac .int (fac .int (fac .int (fac .int (fac .str (fac .str (fac .str fan)))))))))
theorem fk_TItem : FlatOk enc_TItem 9 := ⟨⟨fun _ _ => rfl, by omega, fun _ _ => (fac .int (fac .int (fac .int (fac .int (fac .int (fac .int (fac .str (fac .str (fac .str fan))))))))), fun _ => (fac .int (fac .int (fac .int (fac .int (fac .int (fac .int (fac .str (fac .str (fac .str fan))))))))), fun _ => (.cons .refl (.cons .refl (.cons .refl (.cons .refl (.cons .refl (.cons .refl (.cons .refl (.cons .refl (.cons .refl .nil)))))))))⟩, fun _ => rfl, fun _ _ => (fac rfl (fac rfl (fac rfl (fac rfl (fac rfl (fac rfl (fac rfl (fac rfl (fac rfl fan))))))))), fun _ _ => (fac rfl (fac rfl (fac rfl (fac rfl (fac rfl (fac rfl (fac rfl (fac rfl (fac rfl fan)))))))))⟩
theorem ek_TItem : EncOk enc_TItem 9 := fk_TItem.toEncOk
abbrev L_TItem (l : List TItem) : AV := .lst false 9 (fl (enc_TItem false) l) l.length
structure TSeg where
 No : Int
 Gen : Int
 End : Int
 Items : List TItem
def enc_TSeg (o : Bool) (x : TSeg) : List AV := [.j x.No, .j x.Gen, .j x.End, .lst o 9 (fl (enc_TItem o) x.Items) x.Items.length]
theorem ek_TSeg : EncOk enc_TSeg 4 := ⟨fun _ _ => rfl, by omega, fun _ _ => (fac .int (fac .int (fac .int (fac (.lst (ek_TItem.fdat _ _)) fan)))), fun _ => (fac .int (fac .int (fac .int (fac (.lst (ek_TItem.fown _)) fan)))), fun _ => (.cons .refl (.cons .refl (.cons .refl (.cons (ek_TItem.fflag _).lst .nil))))⟩
abbrev L_TSeg (l : List TSeg) : AV := .lst false 4 (fl (enc_TSeg false) l) l.length
structure TLog where
 Disk : TDisk
 Segs : Int
 Used : List TSeg
 NextGen : Int
 NextSeq : Int
 Stamp : Int
 NextValid : Int
def enc_TLog (o : Bool) (x : TLog) : List AV := [.lst o 1 (fl (encS o) x.Disk.Sectors) x.Disk.Sectors.length, .lst o 2 (fl (enc_TWrite o) x.Disk.Cache) x.Disk.Cache.length, .j x.Segs, .lst o 4 (fl (enc_TSeg o) x.Used) x.Used.length, .j x.NextGen, .j x.NextSeq, .j x.Stamp, .j x.NextValid]
theorem ek_TLog : EncOk enc_TLog 8 := ⟨fun _ _ => rfl, by omega, fun _ _ => (fac (.lst (ekS.fdat _ _)) (fac (.lst (ek_TWrite.fdat _ _)) (fac .int (fac (.lst (ek_TSeg.fdat _ _)) (fac .int (fac .int (fac .int (fac .int fan)))))))), fun _ => (fac (.lst (ekS.fown _)) (fac (.lst (ek_TWrite.fown _)) (fac .int (fac (.lst (ek_TSeg.fown _)) (fac .int (fac .int (fac .int (fac .int fan)))))))), fun _ => (.cons (ekS.fflag _).lst (.cons (ek_TWrite.fflag _).lst (.cons .refl (.cons (ek_TSeg.fflag _).lst (.cons .refl (.cons .refl (.cons .refl (.cons .refl .nil))))))))⟩
abbrev L_TLog (l : List TLog) : AV := .lst false 8 (fl (enc_TLog false) l) l.length
structure TL01Cur where
 mB : List Int
 mI : Int
 mH : Int
def enc_TL01Cur (o : Bool) (x : TL01Cur) : List AV := [.lst o 1 (fl (encB o) x.mB) x.mB.length, .j x.mI, .j x.mH]
theorem ek_TL01Cur : EncOk enc_TL01Cur 3 := ⟨fun _ _ => rfl, by omega, fun _ _ => (fac (.lst (ekB.fdat _ _)) (fac .int (fac .int fan))), fun _ => (fac (.lst (ekB.fown _)) (fac .int (fac .int fan))), fun _ => (.cons (ekB.fflag _).lst (.cons .refl (.cons .refl .nil)))⟩
abbrev L_TL01Cur (l : List TL01Cur) : AV := .lst false 3 (fl (enc_TL01Cur false) l) l.length
structure TFrame where
 Gen : Int
 Seq : Int
 Body : List UInt8
def enc_TFrame (_ : Bool) (x : TFrame) : List AV := [.j x.Gen, .j x.Seq, .str x.Body]
theorem sc_TFrame (o : Bool) (x : TFrame) : ∀ v ∈ enc_TFrame o x, Scl v := (fac .int (fac .int (fac .str fan)))
theorem fk_TFrame : FlatOk enc_TFrame 3 := ⟨⟨fun _ _ => rfl, by omega, fun _ _ => (fac .int (fac .int (fac .str fan))), fun _ => (fac .int (fac .int (fac .str fan))), fun _ => (.cons .refl (.cons .refl (.cons .refl .nil)))⟩, fun _ => rfl, fun _ _ => (fac rfl (fac rfl (fac rfl fan))), fun _ _ => (fac rfl (fac rfl (fac rfl fan)))⟩
theorem ek_TFrame : EncOk enc_TFrame 3 := fk_TFrame.toEncOk
abbrev L_TFrame (l : List TFrame) : AV := .lst false 3 (fl (enc_TFrame false) l) l.length
structure TRef where
 No : Int
 Gen : Int
def enc_TRef (_ : Bool) (x : TRef) : List AV := [.j x.No, .j x.Gen]
theorem sc_TRef (o : Bool) (x : TRef) : ∀ v ∈ enc_TRef o x, Scl v := (fac .int (fac .int fan))
theorem fk_TRef : FlatOk enc_TRef 2 := ⟨⟨fun _ _ => rfl, by omega, fun _ _ => (fac .int (fac .int fan)), fun _ => (fac .int (fac .int fan)), fun _ => (.cons .refl (.cons .refl .nil))⟩, fun _ => rfl, fun _ _ => (fac rfl (fac rfl fan)), fun _ _ => (fac rfl (fac rfl fan))⟩
theorem ek_TRef : EncOk enc_TRef 2 := fk_TRef.toEncOk
abbrev L_TRef (l : List TRef) : AV := .lst false 2 (fl (enc_TRef false) l) l.length
structure TCheck where
 Stamp : Int
 NextGen : Int
 NextSeq : Int
 NextValid : Int
 Refs : List TRef
def enc_TCheck (o : Bool) (x : TCheck) : List AV := [.j x.Stamp, .j x.NextGen, .j x.NextSeq, .j x.NextValid, .lst o 2 (fl (enc_TRef o) x.Refs) x.Refs.length]
theorem ek_TCheck : EncOk enc_TCheck 5 := ⟨fun _ _ => rfl, by omega, fun _ _ => (fac .int (fac .int (fac .int (fac .int (fac (.lst (ek_TRef.fdat _ _)) fan))))), fun _ => (fac .int (fac .int (fac .int (fac .int (fac (.lst (ek_TRef.fown _)) fan))))), fun _ => (.cons .refl (.cons .refl (.cons .refl (.cons .refl (.cons (ek_TRef.fflag _).lst .nil)))))⟩
abbrev L_TCheck (l : List TCheck) : AV := .lst false 5 (fl (enc_TCheck false) l) l.length
structure TL06Cur where
 mText : List UInt8
 mAt : Int
 mBad : Bool
def enc_TL06Cur (_ : Bool) (x : TL06Cur) : List AV := [.str x.mText, .j x.mAt, .bool x.mBad]
theorem sc_TL06Cur (o : Bool) (x : TL06Cur) : ∀ v ∈ enc_TL06Cur o x, Scl v := (fac .str (fac .int (fac .bool fan)))
theorem fk_TL06Cur : FlatOk enc_TL06Cur 3 := ⟨⟨fun _ _ => rfl, by omega, fun _ _ => (fac .str (fac .int (fac .bool fan))), fun _ => (fac .str (fac .int (fac .bool fan))), fun _ => (.cons .refl (.cons .refl (.cons .refl .nil)))⟩, fun _ => rfl, fun _ _ => (fac rfl (fac rfl (fac rfl fan))), fun _ _ => (fac rfl (fac rfl (fac rfl fan)))⟩
theorem ek_TL06Cur : EncOk enc_TL06Cur 3 := fk_TL06Cur.toEncOk
abbrev L_TL06Cur (l : List TL06Cur) : AV := .lst false 3 (fl (enc_TL06Cur false) l) l.length
structure TMail where
 Uid : Int
 Flags : Int
 Text : List UInt8
def enc_TMail (_ : Bool) (x : TMail) : List AV := [.j x.Uid, .j x.Flags, .str x.Text]
theorem sc_TMail (o : Bool) (x : TMail) : ∀ v ∈ enc_TMail o x, Scl v := (fac .int (fac .int (fac .str fan)))
theorem fk_TMail : FlatOk enc_TMail 3 := ⟨⟨fun _ _ => rfl, by omega, fun _ _ => (fac .int (fac .int (fac .str fan))), fun _ => (fac .int (fac .int (fac .str fan))), fun _ => (.cons .refl (.cons .refl (.cons .refl .nil)))⟩, fun _ => rfl, fun _ _ => (fac rfl (fac rfl (fac rfl fan))), fun _ _ => (fac rfl (fac rfl (fac rfl fan)))⟩
theorem ek_TMail : EncOk enc_TMail 3 := fk_TMail.toEncOk
abbrev L_TMail (l : List TMail) : AV := .lst false 3 (fl (enc_TMail false) l) l.length
structure TBox where
 Valid : Int
 User : List UInt8
 Name : List UInt8
 Next : Int
 Mails : List TMail
def enc_TBox (o : Bool) (x : TBox) : List AV := [.j x.Valid, .str x.User, .str x.Name, .j x.Next, .lst o 3 (fl (enc_TMail o) x.Mails) x.Mails.length]
theorem ek_TBox : EncOk enc_TBox 5 := ⟨fun _ _ => rfl, by omega, fun _ _ => (fac .int (fac .str (fac .str (fac .int (fac (.lst (ek_TMail.fdat _ _)) fan))))), fun _ => (fac .int (fac .str (fac .str (fac .int (fac (.lst (ek_TMail.fown _)) fan))))), fun _ => (.cons .refl (.cons .refl (.cons .refl (.cons .refl (.cons (ek_TMail.fflag _).lst .nil)))))⟩
abbrev L_TBox (l : List TBox) : AV := .lst false 5 (fl (enc_TBox false) l) l.length
structure TState where
 Boxes : List TBox
def enc_TState (o : Bool) (x : TState) : List AV := [.lst o 5 (fl (enc_TBox o) x.Boxes) x.Boxes.length]
theorem ek_TState : EncOk enc_TState 1 := ⟨fun _ _ => rfl, by omega, fun _ _ => (fac (.lst (ek_TBox.fdat _ _)) fan), fun _ => (fac (.lst (ek_TBox.fown _)) fan), fun _ => (.cons (ek_TBox.fflag _).lst .nil)⟩
abbrev L_TState (l : List TState) : AV := .lst false 1 (fl (enc_TState false) l) l.length
def wf_TWrite (x : TWrite) : Prop := ((Lit.int .i64 x.At).wf = true) ∧ (x.Text.length ≤ maxLen) ∧ True
def wf_TDisk (x : TDisk) : Prop := (x.Sectors.length ≤ maxLen ∧ ∀ a ∈ x.Sectors, a.length ≤ maxLen) ∧ (x.Cache.length ≤ maxLen ∧ ∀ a ∈ x.Cache, wf_TWrite a) ∧ True
def wf_TRec (x : TRec) : Prop := ((Lit.int .i64 x.Kind).wf = true) ∧ ((Lit.int .i64 x.Valid).wf = true) ∧ ((Lit.int .i64 x.Uid).wf = true) ∧ ((Lit.int .i64 x.Next).wf = true) ∧ ((Lit.int .i64 x.Flags).wf = true) ∧ (x.User.length ≤ maxLen) ∧ (x.Name.length ≤ maxLen) ∧ (x.Text.length ≤ maxLen) ∧ True
def wf_TItem (x : TItem) : Prop := ((Lit.int .i64 x.Seq).wf = true) ∧ (wf_TRec x.Rec) ∧ True
def wf_TSeg (x : TSeg) : Prop := ((Lit.int .i64 x.No).wf = true) ∧ ((Lit.int .i64 x.Gen).wf = true) ∧ ((Lit.int .i64 x.End).wf = true) ∧ (x.Items.length ≤ maxLen ∧ ∀ a ∈ x.Items, wf_TItem a) ∧ True
def wf_TLog (x : TLog) : Prop := (wf_TDisk x.Disk) ∧ ((Lit.int .i64 x.Segs).wf = true) ∧ (x.Used.length ≤ maxLen ∧ ∀ a ∈ x.Used, wf_TSeg a) ∧ ((Lit.int .i64 x.NextGen).wf = true) ∧ ((Lit.int .i64 x.NextSeq).wf = true) ∧ ((Lit.int .i64 x.Stamp).wf = true) ∧ ((Lit.int .i64 x.NextValid).wf = true) ∧ True
def wf_TL01Cur (x : TL01Cur) : Prop := (x.mB.length ≤ maxLen ∧ ∀ a ∈ x.mB, (Lit.int .u8 a).wf = true) ∧ ((Lit.int .i64 x.mI).wf = true) ∧ ((Lit.int .i64 x.mH).wf = true) ∧ True
def wf_TFrame (x : TFrame) : Prop := ((Lit.int .i64 x.Gen).wf = true) ∧ ((Lit.int .i64 x.Seq).wf = true) ∧ (x.Body.length ≤ maxLen) ∧ True
def wf_TRef (x : TRef) : Prop := ((Lit.int .i64 x.No).wf = true) ∧ ((Lit.int .i64 x.Gen).wf = true) ∧ True
def wf_TCheck (x : TCheck) : Prop := ((Lit.int .i64 x.Stamp).wf = true) ∧ ((Lit.int .i64 x.NextGen).wf = true) ∧ ((Lit.int .i64 x.NextSeq).wf = true) ∧ ((Lit.int .i64 x.NextValid).wf = true) ∧ (x.Refs.length ≤ maxLen ∧ ∀ a ∈ x.Refs, wf_TRef a) ∧ True
def wf_TL06Cur (x : TL06Cur) : Prop := (x.mText.length ≤ maxLen) ∧ ((Lit.int .i64 x.mAt).wf = true) ∧ (True) ∧ True
def wf_TMail (x : TMail) : Prop := ((Lit.int .i64 x.Uid).wf = true) ∧ ((Lit.int .i64 x.Flags).wf = true) ∧ (x.Text.length ≤ maxLen) ∧ True
def wf_TBox (x : TBox) : Prop := ((Lit.int .i64 x.Valid).wf = true) ∧ (x.User.length ≤ maxLen) ∧ (x.Name.length ≤ maxLen) ∧ ((Lit.int .i64 x.Next).wf = true) ∧ (x.Mails.length ≤ maxLen ∧ ∀ a ∈ x.Mails, wf_TMail a) ∧ True
def wf_TState (x : TState) : Prop := (x.Boxes.length ≤ maxLen ∧ ∀ a ∈ x.Boxes, wf_TBox a) ∧ True
end Go.Proofs.Ytldndhdohlfpgaa.V
/- What the functions compute. -/
namespace Go.Proofs.Ytldndhdohlfpgaa.V
open Go Go.Proofs Go.RowKit
set_option maxRecDepth 100000
noncomputable def S_spec_l01New_w_1 (x0 : List Int) (s1 : Int × Int) : Option ((Int × Int) ⊕ Int) :=
 ((if decide (s1.2 < (x0.length : Int)) then (if decide (s1.2 < 4000) then some true else some false) else some false) : Option Bool).bind (fun y3 => (if y3 then (at? x0 s1.2).bind fun v4 => some (.inl (andv .i64 (w64 ((w64 ((w64 (s1.1 * 131)) + (w64 v4))) + 7)) 1073741823, w64 (s1.2 + 1))) else some (.inr s1.1)))
noncomputable def F_spec_l01New_w (x0 : List Int) : Option TL01Cur :=
 (iter (S_spec_l01New_w_1 x0) (w64 (76001 + (x0.length : Int)), 0)).bind (fun y5 => some ({ mB := x0, mI := 0, mH := y5 } : TL01Cur))
noncomputable def F_spec_l01Byte_w (x0 : TL01Cur) : Option (Int × TL01Cur) :=
 (if decide (x0.mI < (x0.mB.length : Int)) then (at? x0.mB x0.mI).bind fun v1 => some (andv .i64 (w64 ((andv .i64 (xorv .i64 (shrv .i64 (w64 ((w64 (x0.mH * 6364136223846793005)) + 1442695040888963407)) 33) (shrv .i64 (w64 ((w64 (x0.mH * 6364136223846793005)) + 1442695040888963407)) 45)) 255) + (w64 v1))) 255, ({ mB := x0.mB, mI := w64 (x0.mI + 1), mH := w64 ((w64 (x0.mH * 6364136223846793005)) + 1442695040888963407) } : TL01Cur)) else some (andv .i64 (xorv .i64 (shrv .i64 (w64 ((w64 (x0.mH * 6364136223846793005)) + 1442695040888963407)) 33) (shrv .i64 (w64 ((w64 (x0.mH * 6364136223846793005)) + 1442695040888963407)) 45)) 255, ({ mB := x0.mB, mI := x0.mI, mH := w64 ((w64 (x0.mH * 6364136223846793005)) + 1442695040888963407) } : TL01Cur)))
noncomputable def F_spec_l01Below_w (x0 : TL01Cur) (x1 : Int) : Option (Int × TL01Cur) :=
 (if decide (x1 ≤ 0) then some (0, ({ mB := x0.mB, mI := x0.mI, mH := x0.mH } : TL01Cur)) else (if decide (x1 ≤ 256) then (F_spec_l01Byte_w ({ mB := x0.mB, mI := x0.mI, mH := x0.mH } : TL01Cur)).bind fun v6 => (rem? v6.1 x1).bind fun v7 => some (v7, ({ mB := x0.mB, mI := v6.2.mI, mH := v6.2.mH } : TL01Cur)) else (F_spec_l01Byte_w ({ mB := x0.mB, mI := x0.mI, mH := x0.mH } : TL01Cur)).bind fun v1 => (F_spec_l01Byte_w ({ mB := x0.mB, mI := v1.2.mI, mH := v1.2.mH } : TL01Cur)).bind fun v2 => (F_spec_l01Byte_w ({ mB := x0.mB, mI := v2.2.mI, mH := v2.2.mH } : TL01Cur)).bind fun v3 => (F_spec_l01Byte_w ({ mB := x0.mB, mI := v3.2.mI, mH := v3.2.mH } : TL01Cur)).bind fun v4 => (rem? (w64 ((w64 ((w64 ((w64 (v1.1 * 16777216)) + (w64 (v2.1 * 65536)))) + (w64 (v3.1 * 256)))) + v4.1)) x1).bind fun v5 => some (v5, ({ mB := x0.mB, mI := v4.2.mI, mH := v4.2.mH } : TL01Cur))))
noncomputable def S_spec_DrawPlaces_1 (x0 : List Int) (s4 : Int × Int × Int × (List Int)) : Option ((Int × Int × Int × (List Int)) ⊕ (List Int)) :=
 (if decide (s4.1 < 12) then (F_spec_l01Below_w ({ mB := x0, mI := s4.2.1, mH := s4.2.2.1 } : TL01Cur) 10000).bind fun v6 => (app? 8 s4.2.2.2 [v6.1]).bind fun v7 => some (.inl (w64 (s4.1 + 1), v6.2.mI, v6.2.mH, v7)) else some (.inr s4.2.2.2))
noncomputable def F_spec_DrawPlaces (x0 : List Int) : Option (List Int) :=
 (F_spec_l01New_w x0).bind fun v2 => (F_spec_l01Byte_w ({ mB := x0, mI := v2.mI, mH := v2.mH } : TL01Cur)).bind fun v3 => (iter (S_spec_DrawPlaces_1 x0) (0, v3.2.mI, v3.2.mH, ([] : List Int))).bind (fun y8 => some y8)
noncomputable def F_spec_l01Once_w (x0 : TL01Cur) (x1 : Int) : Option (Bool × TL01Cur) :=
 (F_spec_l01Below_w ({ mB := x0.mB, mI := x0.mI, mH := x0.mH } : TL01Cur) x1).bind fun v1 => some ((v1.1 == 0), ({ mB := x0.mB, mI := v1.2.mI, mH := v1.2.mH } : TL01Cur))
noncomputable def F_spec_l01PickInt_w (x0 : TL01Cur) (x1 : List Int) : Option (Int × TL01Cur) :=
 (F_spec_l01Below_w ({ mB := x0.mB, mI := x0.mI, mH := x0.mH } : TL01Cur) (x1.length : Int)).bind fun v1 => (at? x1 v1.1).bind fun v2 => some (v2, ({ mB := x0.mB, mI := v1.2.mI, mH := v1.2.mH } : TL01Cur))
noncomputable def F_spec_l01Pick_w (x0 : TL01Cur) (x1 : List (List UInt8)) : Option ((List UInt8) × TL01Cur) :=
 (F_spec_l01Below_w ({ mB := x0.mB, mI := x0.mI, mH := x0.mH } : TL01Cur) (x1.length : Int)).bind fun v1 => (at? x1 v1.1).bind fun v2 => some (v2, ({ mB := x0.mB, mI := v1.2.mI, mH := v1.2.mH } : TL01Cur))
noncomputable def F_spec_l06Text_w (x0 : TL01Cur) : Option ((List UInt8) × TL01Cur) :=
 (F_spec_l01Pick_w ({ mB := x0.mB, mI := x0.mI, mH := x0.mH } : TL01Cur) [[104, 101, 108, 108, 111], [102, 114, 111, 109, 58, 32, 97, 110, 110, 10, 10, 104, 105], [115, 117, 98, 106, 101, 99, 116, 58, 32, 120, 10, 10, 98, 111, 100, 121, 32, 111, 102, 32, 105, 116, 10, 46, 100, 111, 116, 10], [], [120, 10, 46, 46, 10]]).bind fun v1 => some (v1.1, ({ mB := x0.mB, mI := v1.2.mI, mH := v1.2.mH } : TL01Cur))
noncomputable def F_spec_l06Rec_w (x0 : TL01Cur) : Option (TRec × TL01Cur) :=
 (F_spec_l01PickInt_w ({ mB := x0.mB, mI := x0.mI, mH := x0.mH } : TL01Cur) ([1, 1, 2, 3, 3, 3, 3, 4, 4, 5, 5] : List Int)).bind fun v1 => (F_spec_l01Below_w ({ mB := x0.mB, mI := v1.2.mI, mH := v1.2.mH } : TL01Cur) 3).bind fun v2 => (if (v1.1 == 1) then (F_spec_l01Pick_w ({ mB := x0.mB, mI := v2.2.mI, mH := v2.2.mH } : TL01Cur) [[97, 110, 110], [98, 111, 98]]).bind fun v9 => (F_spec_l01Pick_w ({ mB := x0.mB, mI := v9.2.mI, mH := v9.2.mH } : TL01Cur) [[105, 110, 98, 111, 120], [119, 111, 114, 107]]).bind fun v10 => (F_spec_l01Below_w ({ mB := x0.mB, mI := v10.2.mI, mH := v10.2.mH } : TL01Cur) 6).bind fun v11 => some (({ Kind := v1.1, Valid := w64 (1 + v2.1), Uid := 0, Next := w64 (1 + v11.1), Flags := 0, User := v9.1, Name := v10.1, Text := [] } : TRec), ({ mB := x0.mB, mI := v11.2.mI, mH := v11.2.mH } : TL01Cur)) else (if (v1.1 == 3) then (F_spec_l01Below_w ({ mB := x0.mB, mI := v2.2.mI, mH := v2.2.mH } : TL01Cur) 5).bind fun v6 => (F_spec_l01Below_w ({ mB := x0.mB, mI := v6.2.mI, mH := v6.2.mH } : TL01Cur) 8).bind fun v7 => (F_spec_l06Text_w ({ mB := x0.mB, mI := v7.2.mI, mH := v7.2.mH } : TL01Cur)).bind fun v8 => some (({ Kind := v1.1, Valid := w64 (1 + v2.1), Uid := w64 (1 + v6.1), Next := 0, Flags := v7.1, User := [], Name := [], Text := v8.1 } : TRec), ({ mB := x0.mB, mI := v8.2.mI, mH := v8.2.mH } : TL01Cur)) else (if (v1.1 == 4) then (F_spec_l01Below_w ({ mB := x0.mB, mI := v2.2.mI, mH := v2.2.mH } : TL01Cur) 5).bind fun v4 => (F_spec_l01Below_w ({ mB := x0.mB, mI := v4.2.mI, mH := v4.2.mH } : TL01Cur) 8).bind fun v5 => some (({ Kind := v1.1, Valid := w64 (1 + v2.1), Uid := w64 (1 + v4.1), Next := 0, Flags := v5.1, User := [], Name := [], Text := [] } : TRec), ({ mB := x0.mB, mI := v5.2.mI, mH := v5.2.mH } : TL01Cur)) else (if (v1.1 == 5) then (F_spec_l01Below_w ({ mB := x0.mB, mI := v2.2.mI, mH := v2.2.mH } : TL01Cur) 5).bind fun v3 => some (({ Kind := v1.1, Valid := w64 (1 + v2.1), Uid := w64 (1 + v3.1), Next := 0, Flags := 0, User := [], Name := [], Text := [] } : TRec), ({ mB := x0.mB, mI := v3.2.mI, mH := v3.2.mH } : TL01Cur)) else some (({ Kind := v1.1, Valid := w64 (1 + v2.1), Uid := 0, Next := 0, Flags := 0, User := [], Name := [], Text := [] } : TRec), ({ mB := x0.mB, mI := v2.2.mI, mH := v2.2.mH } : TL01Cur))))))
noncomputable def S_spec_l07Items_w_1 (x0 : TL01Cur) (s1 : Int × Int × Int × (List TItem)) : Option ((Int × Int × Int × (List TItem)) ⊕ (Int × Int × (List TItem))) :=
 (F_spec_l01Below_w ({ mB := x0.mB, mI := s1.2.1, mH := s1.2.2.1 } : TL01Cur) 22).bind fun v3 => (if decide (s1.1 < v3.1) then (F_spec_l06Rec_w ({ mB := x0.mB, mI := v3.2.mI, mH := v3.2.mH } : TL01Cur)).bind fun v4 => (app? 96 s1.2.2.2 [({ Seq := w64 (2 + s1.1), Rec := v4.1 } : TItem)]).bind fun v5 => some (.inl (w64 (s1.1 + 1), v4.2.mI, v4.2.mH, v5)) else some (.inr (v3.2.mI, v3.2.mH, s1.2.2.2)))
noncomputable def F_spec_l07Items_w (x0 : TL01Cur) : Option ((List TItem) × TL01Cur) :=
 (iter (S_spec_l07Items_w_1 x0) (0, x0.mI, x0.mH, ([] : List TItem))).bind (fun y6 => ((if decide ((y6.2.2.length : Int) > 1) then (F_spec_l01Once_w ({ mB := x0.mB, mI := y6.1, mH := y6.2.1 } : TL01Cur) 3).bind fun v8 => (if v8.1 then some (true, v8.2.mI, v8.2.mH) else some (false, v8.2.mI, v8.2.mH)) else some (false, y6.1, y6.2.1)) : Option (Bool × Int × Int)).bind (fun y7 => (if y7.1 then (F_spec_l01Below_w ({ mB := x0.mB, mI := y7.2.1, mH := y7.2.2 } : TL01Cur) (y6.2.2.length : Int)).bind fun v9 => (at? y6.2.2 v9.1).bind fun v10 => (app? 96 y6.2.2 [v10]).bind fun v11 => some (v11, ({ mB := x0.mB, mI := v9.2.mI, mH := v9.2.mH } : TL01Cur)) else some (y6.2.2, ({ mB := x0.mB, mI := y7.2.1, mH := y7.2.2 } : TL01Cur)))))
noncomputable def F_spec_DrawItems (x0 : List Int) : Option (List TItem) :=
 (F_spec_l01New_w x0).bind fun v2 => (F_spec_l07Items_w ({ mB := x0, mI := v2.mI, mH := v2.mH } : TL01Cur)).bind fun v3 => some v3.1
noncomputable def F_impl_in (x0 : Int) (x1 : Int) (x2 : Int) : Option Bool :=
 (if decide (x0 ≥ x1) then some (decide (x0 ≤ x2)) else some false)
noncomputable def S_impl_WordOk_1 (x0 : List UInt8) (s2 : Int) : Option (Int ⊕ (Bool ⊕ Unit)) :=
 (if decide (s2 < (x0.length : Int)) then ((bt? x0 s2).bind fun v5 => (if decide ((v5.toNat : Int) < 97) then some true else (bt? x0 s2).bind fun v6 => (if decide ((v6.toNat : Int) > 122) then some true else some false)) : Option Bool).bind (fun y4 => (if y4 then some (.inr (.inl false)) else some (.inl (w64 (s2 + 1))))) else some (.inr (.inr ())))
noncomputable def F_impl_WordOk (x0 : List UInt8) : Option Bool :=
 (F_impl_in (x0.length : Int) 1 8).bind fun v1 => (if v1 then (iter (S_impl_WordOk_1 x0) 0).bind (Sum.elim (fun r => some r) (fun y3 => some true)) else some false)
noncomputable def F_impl_RecOk (x0 : TRec) : Option Bool :=
 (F_impl_in x0.Valid 1 9999).bind fun v1 => (if v1 then ((if (x0.Kind == 3) then some true else (if (x0.Kind == 4) then some true else (if (x0.Kind == 5) then some true else some false))) : Option Bool).bind (fun y2 => ((if y2 then (F_impl_in x0.Uid 1 9999).bind fun v4 => (if v4 then some (true, 0) else some (false, 0)) else some (true, x0.Uid)) : Option (Bool × Int)).bind (fun y3 => ((if (x0.Kind == 3) then some true else (if (x0.Kind == 4) then some true else some false)) : Option Bool).bind (fun y5 => ((if y5 then ((if y3.1 then (F_impl_in x0.Flags 0 7).bind fun v8 => (if v8 then some true else some false) else some false) : Option Bool).bind (fun y7 => some (y7, 0)) else some (y3.1, x0.Flags)) : Option (Bool × Int)).bind (fun y6 => ((if (x0.Kind == 1) then ((F_impl_WordOk x0.User).bind fun v12 => (if v12 then (F_impl_WordOk x0.Name).bind fun v13 => (if v13 then (F_impl_in x0.Next 1 10000).bind fun v14 => (if v14 then some true else some false) else some false) else some false) : Option Bool).bind (fun y11 => some (.inr (y11, 0, [], [], x0.Text))) else (if (x0.Kind == 3) then ((if y6.1 then (if decide ((x0.Text.length : Int) ≤ 100) then some true else some false) else some false) : Option Bool).bind (fun y10 => some (.inr (y10, x0.Next, x0.User, x0.Name, []))) else (if (x0.Kind == 2) then some (.inr (y6.1, x0.Next, x0.User, x0.Name, x0.Text)) else (if (x0.Kind == 4) then some (.inr (y6.1, x0.Next, x0.User, x0.Name, x0.Text)) else (if (x0.Kind == 5) then some (.inr (y6.1, x0.Next, x0.User, x0.Name, x0.Text)) else some (.inl false)))))) : Option (Bool ⊕ (Bool × Int × (List UInt8) × (List UInt8) × (List UInt8)))).bind (Sum.elim (fun r => some r) (fun y9_ => (if y9_.1 then some (0 == 0 && (0 == 0 && (y3.2 == 0 && (y9_.2.1 == 0 && (y6.2 == 0 && (y9_.2.2.1 == [] && (y9_.2.2.2.1 == [] && (y9_.2.2.2.2 == [] && true)))))))) else some false))))))) else some false)
noncomputable def F_impl_ItemsOk_1_w (x0 : TItem) (x1 : TItem) : Option Bool :=
 (if (x0.Seq == x1.Seq) then some (!(x0.Seq == x1.Seq && (x0.Rec.Kind == x1.Rec.Kind && (x0.Rec.Valid == x1.Rec.Valid && (x0.Rec.Uid == x1.Rec.Uid && (x0.Rec.Next == x1.Rec.Next && (x0.Rec.Flags == x1.Rec.Flags && (x0.Rec.User == x1.Rec.User && (x0.Rec.Name == x1.Rec.Name && (x0.Rec.Text == x1.Rec.Text && true)))))))))) else some false)
noncomputable def S_slices_IndexFunc_Item_ItemsOk_1_1 (x0 : List TItem) (x1 : TItem) (s1 : Int) : Option (Int ⊕ (Int ⊕ Unit)) :=
 (if decide (s1 < (x0.length : Int)) then (at? x0 s1).bind fun v3 => (F_impl_ItemsOk_1_w v3 x1).bind fun v4 => (if v4 then some (.inr (.inl s1)) else some (.inl (w64 (s1 + 1)))) else some (.inr (.inr ())))
noncomputable def F_slices_IndexFunc_Item_ItemsOk_1 (x0 : List TItem) (x1 : TItem) : Option Int :=
 (iter (S_slices_IndexFunc_Item_ItemsOk_1_1 x0 x1) 0).bind (Sum.elim (fun r => some r) (fun y2 => some (-1)))
noncomputable def F_slices_ContainsFunc_Item_ItemsOk_1 (x0 : List TItem) (x1 : TItem) : Option Bool :=
 (F_slices_IndexFunc_Item_ItemsOk_1 x0 x1).bind fun v1 => some (decide (v1 ≥ 0))
noncomputable def S_impl_ItemsOk_1 (x0 : List TItem) (s1 : Int) : Option (Int ⊕ (Bool ⊕ Unit)) :=
 (if decide (s1 < (x0.length : Int)) then (at? x0 s1).bind fun v3 => ((F_impl_in v3.Seq 1 1000000000).bind fun v5 => (if v5 then (F_impl_RecOk v3.Rec).bind fun v6 => (if v6 then some false else some true) else some true) : Option Bool).bind (fun y4 => (if y4 then some (.inr (.inl false)) else (sub? x0 0 s1).bind fun v7 => (F_slices_ContainsFunc_Item_ItemsOk_1 v7 v3).bind fun v8 => (if v8 then some (.inr (.inl false)) else some (.inl (w64 (s1 + 1)))))) else some (.inr (.inr ())))
noncomputable def F_impl_ItemsOk (x0 : List TItem) : Option Bool :=
 (if decide ((x0.length : Int) > 200) then some false else (iter (S_impl_ItemsOk_1 x0) 0).bind (Sum.elim (fun r => some r) (fun y2 => some true)))
noncomputable def F_impl_needed_1_w (x0 : TItem) (x1 : TItem) : Option Bool :=
 some (x0.Seq == x1.Seq)
noncomputable def S_slices_IndexFunc_Item_needed_1_1 (x0 : List TItem) (x1 : TItem) (s1 : Int) : Option (Int ⊕ (Int ⊕ Unit)) :=
 (if decide (s1 < (x0.length : Int)) then (at? x0 s1).bind fun v3 => (F_impl_needed_1_w v3 x1).bind fun v4 => (if v4 then some (.inr (.inl s1)) else some (.inl (w64 (s1 + 1)))) else some (.inr (.inr ())))
noncomputable def F_slices_IndexFunc_Item_needed_1 (x0 : List TItem) (x1 : TItem) : Option Int :=
 (iter (S_slices_IndexFunc_Item_needed_1_1 x0 x1) 0).bind (Sum.elim (fun r => some r) (fun y2 => some (-1)))
noncomputable def F_slices_ContainsFunc_Item_needed_1 (x0 : List TItem) (x1 : TItem) : Option Bool :=
 (F_slices_IndexFunc_Item_needed_1 x0 x1).bind fun v1 => some (decide (v1 ≥ 0))
noncomputable def F_impl_needed_2_w (x0 : TItem) (x1 : TRec) : Option Bool :=
 (if (x0.Rec.Valid == x1.Valid) then some (x0.Rec.Kind != 2) else some false)
noncomputable def S_slices_IndexFunc_Item_needed_2_1 (x0 : List TItem) (x1 : TRec) (s1 : Int) : Option (Int ⊕ (Int ⊕ Unit)) :=
 (if decide (s1 < (x0.length : Int)) then (at? x0 s1).bind fun v3 => (F_impl_needed_2_w v3 x1).bind fun v4 => (if v4 then some (.inr (.inl s1)) else some (.inl (w64 (s1 + 1)))) else some (.inr (.inr ())))
noncomputable def F_slices_IndexFunc_Item_needed_2 (x0 : List TItem) (x1 : TRec) : Option Int :=
 (iter (S_slices_IndexFunc_Item_needed_2_1 x0 x1) 0).bind (Sum.elim (fun r => some r) (fun y2 => some (-1)))
noncomputable def F_slices_ContainsFunc_Item_needed_2 (x0 : List TItem) (x1 : TRec) : Option Bool :=
 (F_slices_IndexFunc_Item_needed_2 x0 x1).bind fun v1 => some (decide (v1 ≥ 0))
noncomputable def F_impl_bySeq (x0 : TItem) (x1 : TItem) : Option Bool :=
 some (decide (x0.Seq < x1.Seq))
noncomputable def F_impl_about (x0 : TRec) (x1 : Int) (x2 : Int) : Option Bool :=
 (if (x0.Kind == x1) then some (x0.Valid == x2) else some false)
noncomputable def F_impl_boxThere_1_w (x0 : TRec) (x1 : Int) : Option Bool :=
 (F_impl_about x0 2 x1).bind fun v1 => some v1
noncomputable def S_impl_latest_boxThere_1_bySeq_1 (x0 : List TItem) (x1 : Int) (s1 : Bool × Int × Int × Int × Int × Int × Int × Int × (List UInt8) × (List UInt8) × (List UInt8)) : Option ((Bool × Int × Int × Int × Int × Int × Int × Int × (List UInt8) × (List UInt8) × (List UInt8)) ⊕ (Bool × Int × Int × Int × Int × Int × Int × (List UInt8) × (List UInt8) × (List UInt8))) :=
 (if decide (s1.2.1 < (x0.length : Int)) then (at? x0 s1.2.1).bind fun v3 => ((F_impl_boxThere_1_w v3.Rec x1).bind fun v5 => (if v5 then (if !s1.1 then some true else (F_impl_bySeq ({ Seq := s1.2.2.1, Rec := ({ Kind := s1.2.2.2.1, Valid := s1.2.2.2.2.1, Uid := s1.2.2.2.2.2.1, Next := s1.2.2.2.2.2.2.1, Flags := s1.2.2.2.2.2.2.2.1, User := s1.2.2.2.2.2.2.2.2.1, Name := s1.2.2.2.2.2.2.2.2.2.1, Text := s1.2.2.2.2.2.2.2.2.2.2 } : TRec) } : TItem) v3).bind fun v6 => (if v6 then some true else some false)) else some false) : Option Bool).bind (fun y4 => (if y4 then some (.inl (true, w64 (s1.2.1 + 1), v3.Seq, v3.Rec.Kind, v3.Rec.Valid, v3.Rec.Uid, v3.Rec.Next, v3.Rec.Flags, v3.Rec.User, v3.Rec.Name, v3.Rec.Text)) else some (.inl (s1.1, w64 (s1.2.1 + 1), s1.2.2.1, s1.2.2.2.1, s1.2.2.2.2.1, s1.2.2.2.2.2.1, s1.2.2.2.2.2.2.1, s1.2.2.2.2.2.2.2.1, s1.2.2.2.2.2.2.2.2.1, s1.2.2.2.2.2.2.2.2.2.1, s1.2.2.2.2.2.2.2.2.2.2)))) else some (.inr (s1.1, s1.2.2.1, s1.2.2.2.1, s1.2.2.2.2.1, s1.2.2.2.2.2.1, s1.2.2.2.2.2.2.1, s1.2.2.2.2.2.2.2.1, s1.2.2.2.2.2.2.2.2.1, s1.2.2.2.2.2.2.2.2.2.1, s1.2.2.2.2.2.2.2.2.2.2)))
noncomputable def F_impl_latest_boxThere_1_bySeq (x0 : List TItem) (x1 : Int) : Option (TItem × Bool) :=
 (iter (S_impl_latest_boxThere_1_bySeq_1 x0 x1) (false, 0, 0, 0, 0, 0, 0, 0, [], [], [])).bind (fun y7 => some (({ Seq := y7.2.1, Rec := ({ Kind := y7.2.2.1, Valid := y7.2.2.2.1, Uid := y7.2.2.2.2.1, Next := y7.2.2.2.2.2.1, Flags := y7.2.2.2.2.2.2.1, User := y7.2.2.2.2.2.2.2.1, Name := y7.2.2.2.2.2.2.2.2.1, Text := y7.2.2.2.2.2.2.2.2.2 } : TRec) } : TItem), y7.1))
noncomputable def F_impl_boxThere_2_w (x0 : TRec) (x1 : Int) : Option Bool :=
 (F_impl_about x0 1 x1).bind fun v1 => some v1
noncomputable def F_impl_byNext (x0 : TItem) (x1 : TItem) : Option Bool :=
 (if (x0.Rec.Next != x1.Rec.Next) then some (decide (x0.Rec.Next < x1.Rec.Next)) else some (decide (x0.Seq < x1.Seq)))
noncomputable def S_impl_latest_boxThere_2_byNext_1 (x0 : List TItem) (x1 : Int) (s1 : Bool × Int × Int × Int × Int × Int × Int × Int × (List UInt8) × (List UInt8) × (List UInt8)) : Option ((Bool × Int × Int × Int × Int × Int × Int × Int × (List UInt8) × (List UInt8) × (List UInt8)) ⊕ (Bool × Int × Int × Int × Int × Int × Int × (List UInt8) × (List UInt8) × (List UInt8))) :=
 (if decide (s1.2.1 < (x0.length : Int)) then (at? x0 s1.2.1).bind fun v3 => ((F_impl_boxThere_2_w v3.Rec x1).bind fun v5 => (if v5 then (if !s1.1 then some true else (F_impl_byNext ({ Seq := s1.2.2.1, Rec := ({ Kind := s1.2.2.2.1, Valid := s1.2.2.2.2.1, Uid := s1.2.2.2.2.2.1, Next := s1.2.2.2.2.2.2.1, Flags := s1.2.2.2.2.2.2.2.1, User := s1.2.2.2.2.2.2.2.2.1, Name := s1.2.2.2.2.2.2.2.2.2.1, Text := s1.2.2.2.2.2.2.2.2.2.2 } : TRec) } : TItem) v3).bind fun v6 => (if v6 then some true else some false)) else some false) : Option Bool).bind (fun y4 => (if y4 then some (.inl (true, w64 (s1.2.1 + 1), v3.Seq, v3.Rec.Kind, v3.Rec.Valid, v3.Rec.Uid, v3.Rec.Next, v3.Rec.Flags, v3.Rec.User, v3.Rec.Name, v3.Rec.Text)) else some (.inl (s1.1, w64 (s1.2.1 + 1), s1.2.2.1, s1.2.2.2.1, s1.2.2.2.2.1, s1.2.2.2.2.2.1, s1.2.2.2.2.2.2.1, s1.2.2.2.2.2.2.2.1, s1.2.2.2.2.2.2.2.2.1, s1.2.2.2.2.2.2.2.2.2.1, s1.2.2.2.2.2.2.2.2.2.2)))) else some (.inr (s1.1, s1.2.2.1, s1.2.2.2.1, s1.2.2.2.2.1, s1.2.2.2.2.2.1, s1.2.2.2.2.2.2.1, s1.2.2.2.2.2.2.2.1, s1.2.2.2.2.2.2.2.2.1, s1.2.2.2.2.2.2.2.2.2.1, s1.2.2.2.2.2.2.2.2.2.2)))
noncomputable def F_impl_latest_boxThere_2_byNext (x0 : List TItem) (x1 : Int) : Option (TItem × Bool) :=
 (iter (S_impl_latest_boxThere_2_byNext_1 x0 x1) (false, 0, 0, 0, 0, 0, 0, 0, [], [], [])).bind (fun y7 => some (({ Seq := y7.2.1, Rec := ({ Kind := y7.2.2.1, Valid := y7.2.2.2.1, Uid := y7.2.2.2.2.1, Next := y7.2.2.2.2.2.1, Flags := y7.2.2.2.2.2.2.1, User := y7.2.2.2.2.2.2.2.1, Name := y7.2.2.2.2.2.2.2.2.1, Text := y7.2.2.2.2.2.2.2.2.2 } : TRec) } : TItem), y7.1))
noncomputable def F_impl_boxThere (x0 : List TItem) (x1 : Int) : Option (TItem × Bool) :=
 (F_impl_latest_boxThere_1_bySeq x0 x1).bind fun v1 => (if v1.2 then some (({ Seq := 0, Rec := ({ Kind := 0, Valid := 0, Uid := 0, Next := 0, Flags := 0, User := [], Name := [], Text := [] } : TRec) } : TItem), false) else (F_impl_latest_boxThere_2_byNext x0 x1).bind fun v2 => some (v2.1, v2.2))
noncomputable def F_impl_needed_3_w (x0 : TRec) (x1 : TRec) : Option Bool :=
 (F_impl_about x0 2 x1.Valid).bind fun v1 => some v1
noncomputable def S_impl_latest_needed_3_bySeq_1 (x0 : List TItem) (x1 : TRec) (s1 : Bool × Int × Int × Int × Int × Int × Int × Int × (List UInt8) × (List UInt8) × (List UInt8)) : Option ((Bool × Int × Int × Int × Int × Int × Int × Int × (List UInt8) × (List UInt8) × (List UInt8)) ⊕ (Bool × Int × Int × Int × Int × Int × Int × (List UInt8) × (List UInt8) × (List UInt8))) :=
 (if decide (s1.2.1 < (x0.length : Int)) then (at? x0 s1.2.1).bind fun v3 => ((F_impl_needed_3_w v3.Rec x1).bind fun v5 => (if v5 then (if !s1.1 then some true else (F_impl_bySeq ({ Seq := s1.2.2.1, Rec := ({ Kind := s1.2.2.2.1, Valid := s1.2.2.2.2.1, Uid := s1.2.2.2.2.2.1, Next := s1.2.2.2.2.2.2.1, Flags := s1.2.2.2.2.2.2.2.1, User := s1.2.2.2.2.2.2.2.2.1, Name := s1.2.2.2.2.2.2.2.2.2.1, Text := s1.2.2.2.2.2.2.2.2.2.2 } : TRec) } : TItem) v3).bind fun v6 => (if v6 then some true else some false)) else some false) : Option Bool).bind (fun y4 => (if y4 then some (.inl (true, w64 (s1.2.1 + 1), v3.Seq, v3.Rec.Kind, v3.Rec.Valid, v3.Rec.Uid, v3.Rec.Next, v3.Rec.Flags, v3.Rec.User, v3.Rec.Name, v3.Rec.Text)) else some (.inl (s1.1, w64 (s1.2.1 + 1), s1.2.2.1, s1.2.2.2.1, s1.2.2.2.2.1, s1.2.2.2.2.2.1, s1.2.2.2.2.2.2.1, s1.2.2.2.2.2.2.2.1, s1.2.2.2.2.2.2.2.2.1, s1.2.2.2.2.2.2.2.2.2.1, s1.2.2.2.2.2.2.2.2.2.2)))) else some (.inr (s1.1, s1.2.2.1, s1.2.2.2.1, s1.2.2.2.2.1, s1.2.2.2.2.2.1, s1.2.2.2.2.2.2.1, s1.2.2.2.2.2.2.2.1, s1.2.2.2.2.2.2.2.2.1, s1.2.2.2.2.2.2.2.2.2.1, s1.2.2.2.2.2.2.2.2.2.2)))
noncomputable def F_impl_latest_needed_3_bySeq (x0 : List TItem) (x1 : TRec) : Option (TItem × Bool) :=
 (iter (S_impl_latest_needed_3_bySeq_1 x0 x1) (false, 0, 0, 0, 0, 0, 0, 0, [], [], [])).bind (fun y7 => some (({ Seq := y7.2.1, Rec := ({ Kind := y7.2.2.1, Valid := y7.2.2.2.1, Uid := y7.2.2.2.2.1, Next := y7.2.2.2.2.2.1, Flags := y7.2.2.2.2.2.2.1, User := y7.2.2.2.2.2.2.2.1, Name := y7.2.2.2.2.2.2.2.2.1, Text := y7.2.2.2.2.2.2.2.2.2 } : TRec) } : TItem), y7.1))
noncomputable def F_impl_mailItem_1_w (x0 : TRec) (x1 : Int) (x2 : Int) (x3 : Int) : Option Bool :=
 (F_impl_about x0 x1 x2).bind fun v1 => (if v1 then some (x0.Uid == x3) else some false)
noncomputable def S_impl_latest_mailItem_1_bySeq_1 (x0 : List TItem) (x1 : Int) (x2 : Int) (x3 : Int) (s1 : Bool × Int × Int × Int × Int × Int × Int × Int × (List UInt8) × (List UInt8) × (List UInt8)) : Option ((Bool × Int × Int × Int × Int × Int × Int × Int × (List UInt8) × (List UInt8) × (List UInt8)) ⊕ (Bool × Int × Int × Int × Int × Int × Int × (List UInt8) × (List UInt8) × (List UInt8))) :=
 (if decide (s1.2.1 < (x0.length : Int)) then (at? x0 s1.2.1).bind fun v3 => ((F_impl_mailItem_1_w v3.Rec x1 x2 x3).bind fun v5 => (if v5 then (if !s1.1 then some true else (F_impl_bySeq ({ Seq := s1.2.2.1, Rec := ({ Kind := s1.2.2.2.1, Valid := s1.2.2.2.2.1, Uid := s1.2.2.2.2.2.1, Next := s1.2.2.2.2.2.2.1, Flags := s1.2.2.2.2.2.2.2.1, User := s1.2.2.2.2.2.2.2.2.1, Name := s1.2.2.2.2.2.2.2.2.2.1, Text := s1.2.2.2.2.2.2.2.2.2.2 } : TRec) } : TItem) v3).bind fun v6 => (if v6 then some true else some false)) else some false) : Option Bool).bind (fun y4 => (if y4 then some (.inl (true, w64 (s1.2.1 + 1), v3.Seq, v3.Rec.Kind, v3.Rec.Valid, v3.Rec.Uid, v3.Rec.Next, v3.Rec.Flags, v3.Rec.User, v3.Rec.Name, v3.Rec.Text)) else some (.inl (s1.1, w64 (s1.2.1 + 1), s1.2.2.1, s1.2.2.2.1, s1.2.2.2.2.1, s1.2.2.2.2.2.1, s1.2.2.2.2.2.2.1, s1.2.2.2.2.2.2.2.1, s1.2.2.2.2.2.2.2.2.1, s1.2.2.2.2.2.2.2.2.2.1, s1.2.2.2.2.2.2.2.2.2.2)))) else some (.inr (s1.1, s1.2.2.1, s1.2.2.2.1, s1.2.2.2.2.1, s1.2.2.2.2.2.1, s1.2.2.2.2.2.2.1, s1.2.2.2.2.2.2.2.1, s1.2.2.2.2.2.2.2.2.1, s1.2.2.2.2.2.2.2.2.2.1, s1.2.2.2.2.2.2.2.2.2.2)))
noncomputable def F_impl_latest_mailItem_1_bySeq (x0 : List TItem) (x1 : Int) (x2 : Int) (x3 : Int) : Option (TItem × Bool) :=
 (iter (S_impl_latest_mailItem_1_bySeq_1 x0 x1 x2 x3) (false, 0, 0, 0, 0, 0, 0, 0, [], [], [])).bind (fun y7 => some (({ Seq := y7.2.1, Rec := ({ Kind := y7.2.2.1, Valid := y7.2.2.2.1, Uid := y7.2.2.2.2.1, Next := y7.2.2.2.2.2.1, Flags := y7.2.2.2.2.2.2.1, User := y7.2.2.2.2.2.2.2.1, Name := y7.2.2.2.2.2.2.2.2.1, Text := y7.2.2.2.2.2.2.2.2.2 } : TRec) } : TItem), y7.1))
noncomputable def F_impl_mailItem (x0 : List TItem) (x1 : Int) (x2 : Int) (x3 : Int) : Option (TItem × Bool) :=
 (F_impl_latest_mailItem_1_bySeq x0 x1 x2 x3).bind fun v1 => some (v1.1, v1.2)
noncomputable def F_impl_mailThere (x0 : List TItem) (x1 : Int) (x2 : Int) : Option (TItem × Bool) :=
 (F_impl_boxThere x0 x1).bind fun v1 => (if !v1.2 then some (({ Seq := 0, Rec := ({ Kind := 0, Valid := 0, Uid := 0, Next := 0, Flags := 0, User := [], Name := [], Text := [] } : TRec) } : TItem), false) else (F_impl_mailItem x0 5 x1 x2).bind fun v2 => (if v2.2 then some (({ Seq := 0, Rec := ({ Kind := 0, Valid := 0, Uid := 0, Next := 0, Flags := 0, User := [], Name := [], Text := [] } : TRec) } : TItem), false) else (F_impl_mailItem x0 3 x1 x2).bind fun v3 => some (v3.1, v3.2)))
noncomputable def F_impl_needed (x0 : List TItem) (x1 : Int) : Option Bool :=
 (at? x0 x1).bind fun v1 => (sub? x0 0 x1).bind fun v2 => (F_slices_ContainsFunc_Item_needed_1 v2 v1).bind fun v3 => (if v3 then some false else ((if (v1.Rec.Kind == 1) then (F_impl_boxThere x0 v1.Rec.Valid).bind fun v15 => some (.inr (v15.2, v15.1.Seq, v15.1.Rec.Kind, v15.1.Rec.Valid, v15.1.Rec.Uid, v15.1.Rec.Next, v15.1.Rec.Flags, v15.1.Rec.User, v15.1.Rec.Name, v15.1.Rec.Text)) else (if (v1.Rec.Kind == 2) then (F_slices_ContainsFunc_Item_needed_2 x0 v1.Rec).bind fun v13 => (if v13 then (F_impl_latest_needed_3_bySeq x0 v1.Rec).bind fun v14 => some (.inr (v14.2, v14.1.Seq, v14.1.Rec.Kind, v14.1.Rec.Valid, v14.1.Rec.Uid, v14.1.Rec.Next, v14.1.Rec.Flags, v14.1.Rec.User, v14.1.Rec.Name, v14.1.Rec.Text)) else some (.inl false)) else (if (v1.Rec.Kind == 3) then (F_impl_mailThere x0 v1.Rec.Valid v1.Rec.Uid).bind fun v11 => (if !v11.2 then some (.inl false) else (F_impl_mailItem x0 v1.Rec.Kind v1.Rec.Valid v1.Rec.Uid).bind fun v12 => some (.inr (v12.2, v12.1.Seq, v12.1.Rec.Kind, v12.1.Rec.Valid, v12.1.Rec.Uid, v12.1.Rec.Next, v12.1.Rec.Flags, v12.1.Rec.User, v12.1.Rec.Name, v12.1.Rec.Text))) else ((if (v1.Rec.Kind == 4) then some true else some false) : Option Bool).bind (fun y5 => (if y5 then (F_impl_mailThere x0 v1.Rec.Valid v1.Rec.Uid).bind fun v9 => (if !v9.2 then some (.inl false) else (F_impl_mailItem x0 v1.Rec.Kind v1.Rec.Valid v1.Rec.Uid).bind fun v10 => some (.inr (v10.2, v10.1.Seq, v10.1.Rec.Kind, v10.1.Rec.Valid, v10.1.Rec.Uid, v10.1.Rec.Next, v10.1.Rec.Flags, v10.1.Rec.User, v10.1.Rec.Name, v10.1.Rec.Text))) else (if (v1.Rec.Kind == 5) then (F_impl_boxThere x0 v1.Rec.Valid).bind fun v6 => (F_impl_mailItem x0 3 v1.Rec.Valid v1.Rec.Uid).bind fun v7 => (if !v6.2 then some (.inl false) else (if !v7.2 then some (.inl false) else (F_impl_mailItem x0 5 v1.Rec.Valid v1.Rec.Uid).bind fun v8 => some (.inr (v8.2, v8.1.Seq, v8.1.Rec.Kind, v8.1.Rec.Valid, v8.1.Rec.Uid, v8.1.Rec.Next, v8.1.Rec.Flags, v8.1.Rec.User, v8.1.Rec.Name, v8.1.Rec.Text)))) else some (.inr (false, 0, 0, 0, 0, 0, 0, [], [], [])))))))) : Option (Bool ⊕ (Bool × Int × Int × Int × Int × Int × Int × (List UInt8) × (List UInt8) × (List UInt8)))).bind (Sum.elim (fun r => some r) (fun y4_ => (if y4_.1 then some (y4_.2.1 == v1.Seq && (y4_.2.2.1 == v1.Rec.Kind && (y4_.2.2.2.1 == v1.Rec.Valid && (y4_.2.2.2.2.1 == v1.Rec.Uid && (y4_.2.2.2.2.2.1 == v1.Rec.Next && (y4_.2.2.2.2.2.2.1 == v1.Rec.Flags && (y4_.2.2.2.2.2.2.2.1 == v1.Rec.User && (y4_.2.2.2.2.2.2.2.2.1 == v1.Rec.Name && (y4_.2.2.2.2.2.2.2.2.2 == v1.Rec.Text && true))))))))) else some false))))
noncomputable def S_impl_NeededAll_2 (x0 : List TItem) (s6 : Int × (List Bool)) : Option ((Int × (List Bool)) ⊕ (List Bool)) :=
 (if decide (s6.1 < (x0.length : Int)) then (F_impl_needed x0 s6.1).bind fun v8 => (app? 1 s6.2 [v8]).bind fun v9 => some (.inl (w64 (s6.1 + 1), v9)) else some (.inr s6.2))
noncomputable def S_impl_NeededAll_1 (x0 : List TItem) (s2 : Int × (List Bool)) : Option ((Int × (List Bool)) ⊕ (List Bool)) :=
 (if decide (s2.1 < (x0.length : Int)) then (app? 1 s2.2 [false]).bind fun v4 => some (.inl (w64 (s2.1 + 1), v4)) else some (.inr s2.2))
noncomputable def F_impl_NeededAll (x0 : List TItem) : Option (List Bool) :=
 (F_impl_ItemsOk x0).bind fun v1 => (if v1 then (iter (S_impl_NeededAll_2 x0) (0, ([] : List Bool))).bind (fun y10 => some y10) else (iter (S_impl_NeededAll_1 x0) (0, ([] : List Bool))).bind (fun y5 => some y5))
noncomputable def F_impl_dropped (x0 : List Bool) (x1 : Int) : Option Bool :=
 (if decide (x1 < (x0.length : Int)) then (at? x0 x1).bind fun v1 => some v1 else some false)
noncomputable def S_impl_Without_1 (x0 : List TItem) (x1 : List Bool) (s1 : Int × (List TItem)) : Option ((Int × (List TItem)) ⊕ (List TItem)) :=
 (if decide (s1.1 < (x0.length : Int)) then (at? x0 s1.1).bind fun v3 => (F_impl_dropped x1 s1.1).bind fun v4 => (if v4 then some (.inl (w64 (s1.1 + 1), s1.2)) else (app? 96 s1.2 [v3]).bind fun v5 => some (.inl (w64 (s1.1 + 1), v5))) else some (.inr s1.2))
noncomputable def F_impl_Without (x0 : List TItem) (x1 : List Bool) : Option (List TItem) :=
 (iter (S_impl_Without_1 x0 x1) (0, ([] : List TItem))).bind (fun y6 => some y6)
noncomputable def F_impl_StateOf_1 (x0 : TRec) : Option (Int × Bool) :=
 some (x0.Valid, (x0.Kind == 1))
noncomputable def S_impl_numbers_StateOf_1_1 (x0 : List TItem) (s1 : Int × (List Int)) : Option ((Int × (List Int)) ⊕ (List Int)) :=
 (if decide (s1.1 < (x0.length : Int)) then (at? x0 s1.1).bind fun v3 => (F_impl_StateOf_1 v3.Rec).bind fun v4 => (if v4.2 then (app? 8 s1.2 [v4.1]).bind fun v5 => some (.inl (w64 (s1.1 + 1), v5)) else some (.inl (w64 (s1.1 + 1), s1.2))) else some (.inr s1.2))
noncomputable def F_impl_numbers_StateOf_1 (x0 : List TItem) : Option (List Int) :=
 (iter (S_impl_numbers_StateOf_1_1 x0) (0, ([] : List Int))).bind (fun y6 => (sort? y6).bind fun v7 => (comp? v7).bind fun v8 => some v8)
noncomputable def F_impl_boxState_1_w (x0 : TRec) (x1c0 : Int) : Option (Int × Bool) :=
 (F_impl_about x0 3 x1c0).bind fun v1 => (if v1 then some (x0.Uid, true) else (F_impl_about x0 5 x1c0).bind fun v2 => some (x0.Uid, v2))
noncomputable def S_impl_numbers_boxState_1_1 (x0 : List TItem) (x1ac0 : Int) (s1 : Int × (List Int)) : Option ((Int × (List Int)) ⊕ (List Int)) :=
 (if decide (s1.1 < (x0.length : Int)) then (at? x0 s1.1).bind fun v3 => (F_impl_boxState_1_w v3.Rec x1ac0).bind fun v4 => (if v4.2 then (app? 8 s1.2 [v4.1]).bind fun v5 => some (.inl (w64 (s1.1 + 1), v5)) else some (.inl (w64 (s1.1 + 1), s1.2))) else some (.inr s1.2))
noncomputable def F_impl_numbers_boxState_1 (x0 : List TItem) (x1ac0 : Int) : Option (List Int) :=
 (iter (S_impl_numbers_boxState_1_1 x0 x1ac0) (0, ([] : List Int))).bind (fun y6 => (sort? y6).bind fun v7 => (comp? v7).bind fun v8 => some v8)
noncomputable def S_impl_boxState_1 (x0 : List TItem) (x1 : TItem) (v1 : List Int) (s2 : Int × Int × (List TMail)) : Option ((Int × Int × (List TMail)) ⊕ (Int × (List TMail))) :=
 (if decide (s2.1 < (v1.length : Int)) then (at? v1 s2.1).bind fun v4 => (F_impl_mailThere x0 x1.Rec.Valid v4).bind fun v5 => (if !v5.2 then some (.inl (w64 (s2.1 + 1), (if w64 (v4 + 1) > s2.2.1 then w64 (v4 + 1) else s2.2.1), s2.2.2)) else (F_impl_mailItem x0 4 x1.Rec.Valid v4).bind fun v6 => ((if v6.2 then some v6.1.Rec.Flags else some v5.1.Rec.Flags) : Option Int).bind (fun y7 => (app? 32 s2.2.2 [({ Uid := v4, Flags := y7, Text := v5.1.Rec.Text } : TMail)]).bind fun v8 => some (.inl (w64 (s2.1 + 1), (if w64 (v4 + 1) > s2.2.1 then w64 (v4 + 1) else s2.2.1), v8)))) else some (.inr (s2.2.1, s2.2.2)))
noncomputable def F_impl_boxState (x0 : List TItem) (x1 : TItem) : Option TBox :=
 (F_impl_numbers_boxState_1 x0 x1.Rec.Valid).bind fun v1 => (iter (S_impl_boxState_1 x0 x1 v1) (0, x1.Rec.Next, ([] : List TMail))).bind (fun y9 => some ({ Valid := x1.Rec.Valid, User := x1.Rec.User, Name := x1.Rec.Name, Next := y9.1, Mails := y9.2 } : TBox))
noncomputable def S_impl_StateOf_1 (x0 : List TItem) (v2 : List Int) (s3 : Int × (List TBox)) : Option ((Int × (List TBox)) ⊕ (List TBox)) :=
 (if decide (s3.1 < (v2.length : Int)) then (at? v2 s3.1).bind fun v5 => (F_impl_boxThere x0 v5).bind fun v6 => (if v6.2 then (F_impl_boxState x0 v6.1).bind fun v7 => (app? 72 s3.2 [({ Valid := v7.Valid, User := v7.User, Name := v7.Name, Next := v7.Next, Mails := v7.Mails } : TBox)]).bind fun v8 => some (.inl (w64 (s3.1 + 1), v8)) else some (.inl (w64 (s3.1 + 1), s3.2))) else some (.inr s3.2))
noncomputable def F_impl_StateOf (x0 : List TItem) : Option TState :=
 (F_impl_ItemsOk x0).bind fun v1 => (if v1 then (F_impl_numbers_StateOf_1 x0).bind fun v2 => (iter (S_impl_StateOf_1 x0 v2) (0, ([] : List TBox))).bind (fun y9 => some ({ Boxes := y9 } : TState)) else some ({ Boxes := [] } : TState))
noncomputable def F_impl_NextsOf_1_w (x0 : TBox) (x1 : TBox) : Option Bool :=
 some (x0.Valid == x1.Valid)
noncomputable def S_slices_IndexFunc_Box_NextsOf_1_1 (x0 : List TBox) (x1 : TBox) (s1 : Int) : Option (Int ⊕ (Int ⊕ Unit)) :=
 (if decide (s1 < (x0.length : Int)) then (at? x0 s1).bind fun v3 => (F_impl_NextsOf_1_w v3 x1).bind fun v4 => (if v4 then some (.inr (.inl s1)) else some (.inl (w64 (s1 + 1)))) else some (.inr (.inr ())))
noncomputable def F_slices_IndexFunc_Box_NextsOf_1 (x0 : List TBox) (x1 : TBox) : Option Int :=
 (iter (S_slices_IndexFunc_Box_NextsOf_1_1 x0 x1) 0).bind (Sum.elim (fun r => some r) (fun y2 => some (-1)))
noncomputable def S_impl_NextsOf_1 (v2 : TState) (v3 : TState) (s4 : Int × (List TRec)) : Option ((Int × (List TRec)) ⊕ (List TRec)) :=
 (if decide (s4.1 < (v3.Boxes.length : Int)) then (at? v3.Boxes s4.1).bind fun v6 => (F_slices_IndexFunc_Box_NextsOf_1 v2.Boxes v6).bind fun v7 => ((if decide (v7 < 0) then some true else (at? v2.Boxes v7).bind fun v9 => (if decide (v9.Next < v6.Next) then some true else some false)) : Option Bool).bind (fun y8 => (if y8 then (app? 88 s4.2 [({ Kind := 1, Valid := v6.Valid, Uid := 0, Next := v6.Next, Flags := 0, User := v6.User, Name := v6.Name, Text := [] } : TRec)]).bind fun v10 => some (.inl (w64 (s4.1 + 1), v10)) else some (.inl (w64 (s4.1 + 1), s4.2)))) else some (.inr s4.2))
noncomputable def F_impl_NextsOf (x0 : List TItem) (x1 : List Bool) : Option (List TRec) :=
 (F_impl_Without x0 x1).bind fun v1 => (F_impl_StateOf v1).bind fun v2 => (F_impl_StateOf x0).bind fun v3 => (iter (S_impl_NextsOf_1 v2 v3) (0, ([] : List TRec))).bind (fun y11 => some y11)
noncomputable def S_impl_Shrunk_2 (x2 : Int) (v10 : List TRec) (s11 : Int × (List TItem)) : Option ((Int × (List TItem)) ⊕ (List TItem)) :=
 (if decide (s11.1 < (v10.length : Int)) then (at? v10 s11.1).bind fun v13 => (app? 96 s11.2 [({ Seq := w64 (x2 + s11.1), Rec := v13 } : TItem)]).bind fun v14 => some (.inl (w64 (s11.1 + 1), v14)) else some (.inr s11.2))
noncomputable def S_impl_Shrunk_1 (x0 : List TItem) (x1 : List Bool) (v1 : List Bool) (s2 : Int × (List Bool)) : Option ((Int × (List Bool)) ⊕ (List Bool)) :=
 (if decide (s2.1 < (x0.length : Int)) then (F_impl_dropped x1 s2.1).bind fun v4 => (if v4 then (at? v1 s2.1).bind fun v6 => (app? 1 s2.2 [!v6]).bind fun v7 => some (.inl (w64 (s2.1 + 1), v7)) else (app? 1 s2.2 [false]).bind fun v5 => some (.inl (w64 (s2.1 + 1), v5))) else some (.inr s2.2))
noncomputable def F_impl_Shrunk (x0 : List TItem) (x1 : List Bool) (x2 : Int) : Option (List TItem) :=
 (F_impl_NeededAll x0).bind fun v1 => (iter (S_impl_Shrunk_1 x0 x1 v1) (0, ([] : List Bool))).bind (fun y8 => (F_impl_Without x0 y8).bind fun v9 => (F_impl_NextsOf x0 y8).bind fun v10 => (iter (S_impl_Shrunk_2 x2 v10) (0, v9)).bind (fun y15 => some y15))
noncomputable def S_laws_chosen_1 (x0 : Int) (x1 : List Int) (s1 : Int × (List Bool)) : Option ((Int × (List Bool)) ⊕ (List Bool)) :=
 (if decide (s1.1 < x0) then (rem? s1.1 (x1.length : Int)).bind fun v3 => (at? x1 v3).bind fun v4 => (app? 1 s1.2 [((Int.tmod v4 2) == 1)]).bind fun v5 => some (.inl (w64 (s1.1 + 1), v5)) else some (.inr s1.2))
noncomputable def F_laws_chosen (x0 : Int) (x1 : List Int) : Option (List Bool) :=
 (iter (S_laws_chosen_1 x0 x1) (0, ([] : List Bool))).bind (fun y6 => some y6)
noncomputable def F_spec_l01In (x0 : Int) (x1 : Int) (x2 : Int) : Option Bool :=
 (if decide (x0 ≥ x1) then some (decide (x0 ≤ x2)) else some false)
noncomputable def S_spec_WordOk_1 (x0 : List UInt8) (s1 : Int) : Option (Int ⊕ (Bool ⊕ Unit)) :=
 (if decide (s1 < (x0.length : Int)) then ((bt? x0 s1).bind fun v4 => (if decide ((v4.toNat : Int) < 97) then some true else (bt? x0 s1).bind fun v5 => (if decide ((v5.toNat : Int) > 122) then some true else some false)) : Option Bool).bind (fun y3 => (if y3 then some (.inr (.inl false)) else some (.inl (w64 (s1 + 1))))) else some (.inr (.inr ())))
noncomputable def F_spec_WordOk (x0 : List UInt8) : Option Bool :=
 (iter (S_spec_WordOk_1 x0) 0).bind (Sum.elim (fun r => some r) (fun y2 => (F_spec_l01In (x0.length : Int) 1 8).bind fun v7 => some v7))
noncomputable def F_spec_RecOk (x0 : TRec) : Option Bool :=
 ((F_spec_l01In x0.Kind 1 5).bind fun v2 => (if v2 then (F_spec_l01In x0.Valid 1 9999).bind fun v3 => (if v3 then some false else some true) else some true) : Option Bool).bind (fun y1 => (if y1 then some false else (if (x0.Kind == 1) then ((if (x0.Kind == 3) then some true else (if (x0.Kind == 4) then some true else (if (x0.Kind == 5) then some true else some false))) : Option Bool).bind (fun y11 => ((if (x0.Kind == 3) then some true else (if (x0.Kind == 4) then some true else some false)) : Option Bool).bind (fun y12 => ((F_spec_WordOk x0.User).bind fun v14 => (if v14 then (F_spec_WordOk x0.Name).bind fun v15 => (if v15 then (F_spec_l01In x0.Next 1 10000).bind fun v16 => (if v16 then some false else some true) else some true) else some true) : Option Bool).bind (fun y13 => (if y13 then some false else ((if y11 then (F_spec_l01In x0.Uid 1 9999).bind fun v18 => (if v18 then some false else some true) else (if (x0.Uid != 0) then some true else some false)) : Option Bool).bind (fun y17 => (if y17 then some false else ((if y12 then (F_spec_l01In x0.Flags 0 7).bind fun v20 => (if v20 then some false else some true) else (if (x0.Flags != 0) then some true else some false)) : Option Bool).bind (fun y19 => (if y19 then some false else (if (x0.Kind == 3) then some (decide ((x0.Text.length : Int) ≤ 100)) else some (x0.Text == [])))))))))) else ((if (x0.Kind == 3) then some true else (if (x0.Kind == 4) then some true else (if (x0.Kind == 5) then some true else some false))) : Option Bool).bind (fun y4 => ((if (x0.Kind == 3) then some true else (if (x0.Kind == 4) then some true else some false)) : Option Bool).bind (fun y5 => ((if (!(x0.User == [])) then some true else (if (!(x0.Name == [])) then some true else (if (x0.Next != 0) then some true else some false))) : Option Bool).bind (fun y6 => (if y6 then some false else ((if y4 then (F_spec_l01In x0.Uid 1 9999).bind fun v8 => (if v8 then some false else some true) else (if (x0.Uid != 0) then some true else some false)) : Option Bool).bind (fun y7 => (if y7 then some false else ((if y5 then (F_spec_l01In x0.Flags 0 7).bind fun v10 => (if v10 then some false else some true) else (if (x0.Flags != 0) then some true else some false)) : Option Bool).bind (fun y9 => (if y9 then some false else (if (x0.Kind == 3) then some (decide ((x0.Text.length : Int) ≤ 100)) else some (x0.Text == [])))))))))))))
noncomputable def S_spec_ItemsOk_2 (x0 : List TItem) (s1 : Int) (s8 : Int) : Option (Int ⊕ (Bool ⊕ Unit)) :=
 (if decide (s8 < s1) then ((at? x0 s8).bind fun v11 => (at? x0 s1).bind fun v12 => (if (v11.Seq == v12.Seq) then (at? x0 s8).bind fun v13 => (at? x0 s1).bind fun v14 => (if !(v13.Seq == v14.Seq && (v13.Rec.Kind == v14.Rec.Kind && (v13.Rec.Valid == v14.Rec.Valid && (v13.Rec.Uid == v14.Rec.Uid && (v13.Rec.Next == v14.Rec.Next && (v13.Rec.Flags == v14.Rec.Flags && (v13.Rec.User == v14.Rec.User && (v13.Rec.Name == v14.Rec.Name && (v13.Rec.Text == v14.Rec.Text && true))))))))) then some true else some false) else some false) : Option Bool).bind (fun y10 => (if y10 then some (.inr (.inl false)) else some (.inl (w64 (s8 + 1))))) else some (.inr (.inr ())))
noncomputable def S_spec_ItemsOk_1 (x0 : List TItem) (s1 : Int) : Option (Int ⊕ (Bool ⊕ Unit)) :=
 (if decide (s1 < (x0.length : Int)) then ((at? x0 s1).bind fun v4 => (F_spec_l01In v4.Seq 1 1000000000).bind fun v5 => (if v5 then (at? x0 s1).bind fun v6 => (F_spec_RecOk v6.Rec).bind fun v7 => (if v7 then some false else some true) else some true) : Option Bool).bind (fun y3 => (if y3 then some (.inr (.inl false)) else (iter (S_spec_ItemsOk_2 x0 s1) 0).bind (Sum.elim (fun r => some (.inr (.inl r))) (fun y9 => some (.inl (w64 (s1 + 1))))))) else some (.inr (.inr ())))
noncomputable def F_spec_ItemsOk (x0 : List TItem) : Option Bool :=
 (iter (S_spec_ItemsOk_1 x0) 0).bind (Sum.elim (fun r => some r) (fun y2 => some (decide ((x0.length : Int) ≤ 200))))
noncomputable def S_spec_l07Best_1 (x0 : List TItem) (x1 : Int) (x2 : Int) (x3 : Int) (s1 : Bool × Int × Int × Int × Int × Int × Int × Int × (List UInt8) × (List UInt8) × (List UInt8)) : Option ((Bool × Int × Int × Int × Int × Int × Int × Int × (List UInt8) × (List UInt8) × (List UInt8)) ⊕ (Bool × Int × Int × Int × Int × Int × Int × (List UInt8) × (List UInt8) × (List UInt8))) :=
 (if decide (s1.2.1 < (x0.length : Int)) then (at? x0 s1.2.1).bind fun v3 => ((if (v3.Rec.Kind == x1) then (if (v3.Rec.Valid == x2) then (if (v3.Rec.Uid == x3) then (if !s1.1 then some true else (if decide (v3.Seq > s1.2.2.1) then some true else some false)) else some false) else some false) else some false) : Option Bool).bind (fun y4 => (if y4 then some (.inl (true, w64 (s1.2.1 + 1), v3.Seq, v3.Rec.Kind, v3.Rec.Valid, v3.Rec.Uid, v3.Rec.Next, v3.Rec.Flags, v3.Rec.User, v3.Rec.Name, v3.Rec.Text)) else some (.inl (s1.1, w64 (s1.2.1 + 1), s1.2.2.1, s1.2.2.2.1, s1.2.2.2.2.1, s1.2.2.2.2.2.1, s1.2.2.2.2.2.2.1, s1.2.2.2.2.2.2.2.1, s1.2.2.2.2.2.2.2.2.1, s1.2.2.2.2.2.2.2.2.2.1, s1.2.2.2.2.2.2.2.2.2.2)))) else some (.inr (s1.1, s1.2.2.1, s1.2.2.2.1, s1.2.2.2.2.1, s1.2.2.2.2.2.1, s1.2.2.2.2.2.2.1, s1.2.2.2.2.2.2.2.1, s1.2.2.2.2.2.2.2.2.1, s1.2.2.2.2.2.2.2.2.2.1, s1.2.2.2.2.2.2.2.2.2.2)))
noncomputable def F_spec_l07Best (x0 : List TItem) (x1 : Int) (x2 : Int) (x3 : Int) : Option (TItem × Bool) :=
 (iter (S_spec_l07Best_1 x0 x1 x2 x3) (false, 0, 0, 0, 0, 0, 0, 0, [], [], [])).bind (fun y5 => some (({ Seq := y5.2.1, Rec := ({ Kind := y5.2.2.1, Valid := y5.2.2.2.1, Uid := y5.2.2.2.2.1, Next := y5.2.2.2.2.2.1, Flags := y5.2.2.2.2.2.2.1, User := y5.2.2.2.2.2.2.2.1, Name := y5.2.2.2.2.2.2.2.2.1, Text := y5.2.2.2.2.2.2.2.2.2 } : TRec) } : TItem), y5.1))
noncomputable def S_spec_l07Sorted_2 (x0 : List Int) (x1 : Int) (s8 : Int × (List Int)) : Option ((Int × (List Int)) ⊕ (List Int)) :=
 (if decide (s8.1 < (x0.length : Int)) then (at? x0 s8.1).bind fun v10 => (if decide (v10 > x1) then (at? x0 s8.1).bind fun v11 => (app? 8 s8.2 [v11]).bind fun v12 => some (.inl (w64 (s8.1 + 1), v12)) else some (.inl (w64 (s8.1 + 1), s8.2))) else some (.inr s8.2))
noncomputable def S_spec_l07Sorted_1 (x0 : List Int) (x1 : Int) (s1 : Int × (List Int)) : Option ((Int × (List Int)) ⊕ (List Int)) :=
 (if decide (s1.1 < (x0.length : Int)) then (at? x0 s1.1).bind fun v3 => (if decide (v3 < x1) then (at? x0 s1.1).bind fun v4 => (app? 8 s1.2 [v4]).bind fun v5 => some (.inl (w64 (s1.1 + 1), v5)) else some (.inl (w64 (s1.1 + 1), s1.2))) else some (.inr s1.2))
noncomputable def F_spec_l07Sorted (x0 : List Int) (x1 : Int) : Option (List Int) :=
 (iter (S_spec_l07Sorted_1 x0 x1) (0, ([] : List Int))).bind (fun y6 => (app? 8 y6 [x1]).bind fun v7 => (iter (S_spec_l07Sorted_2 x0 x1) (0, v7)).bind (fun y13 => some y13))
noncomputable def S_spec_l07Tell_1 (x0 : List TItem) (x1 : Int) (s1 : Int × Int × Int × Int × Int × Int × Int × (List UInt8) × (List UInt8) × (List UInt8)) : Option ((Int × Int × Int × Int × Int × Int × Int × (List UInt8) × (List UInt8) × (List UInt8)) ⊕ (Int × Int × Int × Int × Int × Int × (List UInt8) × (List UInt8) × (List UInt8))) :=
 (if decide (s1.1 < (x0.length : Int)) then (at? x0 s1.1).bind fun v3 => ((if (v3.Rec.Kind != 1) then some true else (if (v3.Rec.Valid != x1) then some true else some false)) : Option Bool).bind (fun y4 => (if y4 then some (.inl (w64 (s1.1 + 1), s1.2.1, s1.2.2.1, s1.2.2.2.1, s1.2.2.2.2.1, s1.2.2.2.2.2.1, s1.2.2.2.2.2.2.1, s1.2.2.2.2.2.2.2.1, s1.2.2.2.2.2.2.2.2.1, s1.2.2.2.2.2.2.2.2.2)) else ((if (s1.2.1 == 0) then some true else (if decide (v3.Rec.Next > s1.2.2.2.2.2.1) then some true else (if (v3.Rec.Next == s1.2.2.2.2.2.1) then (if decide (v3.Seq > s1.2.1) then some true else some false) else some false))) : Option Bool).bind (fun y5 => (if y5 then some (.inl (w64 (s1.1 + 1), v3.Seq, v3.Rec.Kind, v3.Rec.Valid, v3.Rec.Uid, v3.Rec.Next, v3.Rec.Flags, v3.Rec.User, v3.Rec.Name, v3.Rec.Text)) else some (.inl (w64 (s1.1 + 1), s1.2.1, s1.2.2.1, s1.2.2.2.1, s1.2.2.2.2.1, s1.2.2.2.2.2.1, s1.2.2.2.2.2.2.1, s1.2.2.2.2.2.2.2.1, s1.2.2.2.2.2.2.2.2.1, s1.2.2.2.2.2.2.2.2.2)))))) else some (.inr (s1.2.1, s1.2.2.1, s1.2.2.2.1, s1.2.2.2.2.1, s1.2.2.2.2.2.1, s1.2.2.2.2.2.2.1, s1.2.2.2.2.2.2.2.1, s1.2.2.2.2.2.2.2.2.1, s1.2.2.2.2.2.2.2.2.2)))
noncomputable def F_spec_l07Tell (x0 : List TItem) (x1 : Int) : Option TItem :=
 (iter (S_spec_l07Tell_1 x0 x1) (0, 0, 0, 0, 0, 0, 0, [], [], [])).bind (fun y6 => some ({ Seq := y6.1, Rec := ({ Kind := y6.2.1, Valid := y6.2.2.1, Uid := y6.2.2.2.1, Next := y6.2.2.2.2.1, Flags := y6.2.2.2.2.2.1, User := y6.2.2.2.2.2.2.1, Name := y6.2.2.2.2.2.2.2.1, Text := y6.2.2.2.2.2.2.2.2 } : TRec) } : TItem))
noncomputable def S_spec_l07Next_1 (x0 : List TItem) (x1 : Int) (s1 : Int × Int) : Option ((Int × Int) ⊕ Int) :=
 (if decide (s1.2 < (x0.length : Int)) then (at? x0 s1.2).bind fun v3 => (if (v3.Rec.Valid != x1) then some (.inl (s1.1, w64 (s1.2 + 1))) else ((if (v3.Rec.Kind == 1) then some v3.Rec.Next else (if (v3.Rec.Kind == 3) then some (w64 (v3.Rec.Uid + 1)) else (if (v3.Rec.Kind == 5) then some (w64 (v3.Rec.Uid + 1)) else some 0))) : Option Int).bind (fun y4 => (if decide (y4 > s1.1) then some (.inl (y4, w64 (s1.2 + 1))) else some (.inl (s1.1, w64 (s1.2 + 1)))))) else some (.inr s1.1))
noncomputable def F_spec_l07Next (x0 : List TItem) (x1 : Int) : Option Int :=
 (iter (S_spec_l07Next_1 x0 x1) (1, 0)).bind (fun y5 => some y5)
noncomputable def S_spec_l07Mails_2 (x0 : List TItem) (x1 : Int) (y7 : (List Int)) (s8 : Int × (List TMail)) : Option ((Int × (List TMail)) ⊕ (List TMail)) :=
 (if decide (s8.1 < (y7.length : Int)) then (at? y7 s8.1).bind fun v10 => (F_spec_l07Best x0 3 x1 v10).bind fun v11 => (at? y7 s8.1).bind fun v12 => (at? y7 s8.1).bind fun v13 => (F_spec_l07Best x0 4 x1 v13).bind fun v14 => ((if v14.2 then some v14.1.Rec.Flags else some v11.1.Rec.Flags) : Option Int).bind (fun y15 => (app? 32 s8.2 [({ Uid := v12, Flags := y15, Text := v11.1.Rec.Text } : TMail)]).bind fun v16 => some (.inl (w64 (s8.1 + 1), v16))) else some (.inr s8.2))
noncomputable def S_spec_l07Mails_1 (x0 : List TItem) (x1 : Int) (s1 : Int × (List Int)) : Option ((Int × (List Int)) ⊕ (List Int)) :=
 (if decide (s1.1 < (x0.length : Int)) then (at? x0 s1.1).bind fun v3 => (F_spec_l07Best x0 5 x1 v3.Rec.Uid).bind fun v4 => ((if (v3.Rec.Kind == 3) then (if (v3.Rec.Valid == x1) then some (!v4.2) else some false) else some false) : Option Bool).bind (fun y5 => (if y5 then (F_spec_l07Sorted s1.2 v3.Rec.Uid).bind fun v6 => some (.inl (w64 (s1.1 + 1), v6)) else some (.inl (w64 (s1.1 + 1), s1.2)))) else some (.inr s1.2))
noncomputable def F_spec_l07Mails (x0 : List TItem) (x1 : Int) : Option (List TMail) :=
 (iter (S_spec_l07Mails_1 x0 x1) (0, ([] : List Int))).bind (fun y7 => (iter (S_spec_l07Mails_2 x0 x1 y7) (0, ([] : List TMail))).bind (fun y17 => some y17))
noncomputable def S_spec_StateOf_2 (x0 : List TItem) (y7 : (List Int)) (s8 : Int × (List TBox)) : Option ((Int × (List TBox)) ⊕ (List TBox)) :=
 (if decide (s8.1 < (y7.length : Int)) then (at? y7 s8.1).bind fun v10 => (F_spec_l07Tell x0 v10).bind fun v11 => (at? y7 s8.1).bind fun v12 => (at? y7 s8.1).bind fun v13 => (F_spec_l07Next x0 v13).bind fun v14 => (at? y7 s8.1).bind fun v15 => (F_spec_l07Mails x0 v15).bind fun v16 => (app? 72 s8.2 [({ Valid := v12, User := v11.Rec.User, Name := v11.Rec.Name, Next := v14, Mails := v16 } : TBox)]).bind fun v17 => some (.inl (w64 (s8.1 + 1), v17)) else some (.inr s8.2))
noncomputable def S_spec_StateOf_1 (x0 : List TItem) (s2 : Int × (List Int)) : Option ((Int × (List Int)) ⊕ (List Int)) :=
 (if decide (s2.1 < (x0.length : Int)) then (at? x0 s2.1).bind fun v4 => (F_spec_l07Best x0 2 v4.Rec.Valid 0).bind fun v5 => (if (v4.Rec.Kind == 1) then (if !v5.2 then (F_spec_l07Sorted s2.2 v4.Rec.Valid).bind fun v6 => some (.inl (w64 (s2.1 + 1), v6)) else some (.inl (w64 (s2.1 + 1), s2.2))) else some (.inl (w64 (s2.1 + 1), s2.2))) else some (.inr s2.2))
noncomputable def F_spec_StateOf (x0 : List TItem) : Option TState :=
 (F_spec_ItemsOk x0).bind fun v1 => (if v1 then (iter (S_spec_StateOf_1 x0) (0, ([] : List Int))).bind (fun y7 => (iter (S_spec_StateOf_2 x0 y7) (0, ([] : List TBox))).bind (fun y18 => some ({ Boxes := y18 } : TState))) else some ({ Boxes := [] } : TState))
noncomputable def F_impl_Needed (x0 : List TItem) (x1 : Int) : Option Bool :=
 ((F_impl_ItemsOk x0).bind fun v2 => (if v2 then (F_impl_in x1 0 (w64 ((x0.length : Int) - 1))).bind fun v3 => (if v3 then (F_impl_needed x0 x1).bind fun v4 => some v4 else some false) else some false) : Option Bool).bind (fun y1 => some y1)
noncomputable def S_spec_SameState_2 (v3 : TBox) (v4 : TBox) (s6 : Int) : Option (Int ⊕ (Bool ⊕ Unit)) :=
 (if decide (s6 < (v3.Mails.length : Int)) then (at? v3.Mails s6).bind fun v8 => (at? v4.Mails s6).bind fun v9 => (if !(v8.Uid == v9.Uid && (v8.Flags == v9.Flags && (v8.Text == v9.Text && true))) then some (.inr (.inl false)) else some (.inl (w64 (s6 + 1)))) else some (.inr (.inr ())))
noncomputable def S_spec_SameState_1 (x0 : TState) (x1 : TState) (s1 : Int) : Option (Int ⊕ (Bool ⊕ Unit)) :=
 (if decide (s1 < (x0.Boxes.length : Int)) then (at? x0.Boxes s1).bind fun v3 => (at? x1.Boxes s1).bind fun v4 => ((if (v3.Valid != v4.Valid) then some true else (if (!(v3.User == v4.User)) then some true else (if (!(v3.Name == v4.Name)) then some true else (if (v3.Next != v4.Next) then some true else (if ((v3.Mails.length : Int) != (v4.Mails.length : Int)) then some true else some false))))) : Option Bool).bind (fun y5 => (if y5 then some (.inr (.inl false)) else (iter (S_spec_SameState_2 v3 v4) 0).bind (Sum.elim (fun r => some (.inr (.inl r))) (fun y7 => some (.inl (w64 (s1 + 1))))))) else some (.inr (.inr ())))
noncomputable def F_spec_SameState (x0 : TState) (x1 : TState) : Option Bool :=
 (if ((x0.Boxes.length : Int) != (x1.Boxes.length : Int)) then some false else (iter (S_spec_SameState_1 x0 x1) 0).bind (Sum.elim (fun r => some r) (fun y2 => some true)))
noncomputable def S_laws_flip_1 (x0 : List Bool) (s1 : Int × (List Bool)) : Option ((Int × (List Bool)) ⊕ (List Bool)) :=
 (if decide (s1.1 < (x0.length : Int)) then (at? x0 s1.1).bind fun v3 => (app? 1 s1.2 [!v3]).bind fun v4 => some (.inl (w64 (s1.1 + 1), v4)) else some (.inr s1.2))
noncomputable def F_laws_flip (x0 : List Bool) : Option (List Bool) :=
 (iter (S_laws_flip_1 x0) (0, ([] : List Bool))).bind (fun y5 => some y5)
noncomputable def F_laws_big (x0 : List Int) : Option Bool :=
 some (decide ((x0.length : Int) > 1048576))
noncomputable def S_laws_FnShrinksTwice_1 (v2 : List TItem) (v13 : List Bool) (s14 : Int) : Option (Int ⊕ (Bool ⊕ Unit)) :=
 (if decide (s14 < (v13.length : Int)) then (at? v13 s14).bind fun v16 => (F_impl_Needed v2 s14).bind fun v17 => (if !(v16 == v17) then some (.inr (.inl false)) else some (.inl (w64 (s14 + 1)))) else some (.inr (.inr ())))
noncomputable def F_laws_FnShrinksTwice (x0 : List Int) : Option Bool :=
 (F_laws_big x0).bind fun v1 => (if v1 then some true else (F_spec_DrawItems x0).bind fun v2 => (F_spec_DrawPlaces x0).bind fun v3 => (F_laws_chosen (v2.length : Int) v3).bind fun v4 => (F_impl_Shrunk v2 v4 500).bind fun v5 => (sub? v3 3 (v3.length : Int)).bind fun v6 => (F_laws_chosen (v5.length : Int) v6).bind fun v7 => (F_impl_Shrunk v5 v7 600).bind fun v8 => (sub? v3 5 (v3.length : Int)).bind fun v9 => (F_laws_chosen (v8.length : Int) v9).bind fun v10 => (F_impl_Shrunk v8 v10 700).bind fun v11 => (F_spec_StateOf v2).bind fun v12 => (F_impl_NeededAll v2).bind fun v13 => (iter (S_laws_FnShrinksTwice_1 v2 v13) 0).bind (Sum.elim (fun r => some r) (fun y15 => ((F_spec_StateOf v8).bind fun v20 => (F_spec_SameState v20 v12).bind fun v21 => (if v21 then (F_spec_StateOf v11).bind fun v22 => (F_spec_SameState v22 v12).bind fun v23 => (if v23 then (if ((v13.length : Int) == (v2.length : Int)) then (F_impl_Without v2 v13).bind fun v24 => (F_laws_flip v13).bind fun v25 => (F_impl_Without v2 v25).bind fun v26 => some ((w64 ((v24.length : Int) + (v26.length : Int))) == (v2.length : Int)) else some false) else some false) else some false) : Option Bool).bind (fun y19 => some y19))))
end Go.Proofs.Ytldndhdohlfpgaa.V
