/- Records, and what the functions compute. -/
import Derived.Test.YtldndhdohlfpgaaXE
/- Records, and how they lie in cells. -/
namespace Go.Proofs.Ytldndhdohlfpgaa.V
open Go Go.Proofs Go.RowKit
set_option maxRecDepth 100000
structure TWrite where
 At : Int
 Text : List UInt8
def enc_TWrite (_ : Bool) (x : TWrite) : List AV:=[.j x.At,.str x.Text]
theorem sc_TWrite (o : Bool) (x : TWrite) : ∀ v ∈ enc_TWrite o x,Scl v:=(fac .int (fac .str fan))
theorem fk_TWrite : FlatOk enc_TWrite 2:=⟨⟨fun _ _=>rfl,by omega,fun _ _=>(fac .int (fac .str fan)),fun _=>(fac .int (fac .str fan)),fun _=>(.cons .refl (.cons .refl .nil))⟩,fun _=>rfl,fun _ _=>(fac rfl (fac rfl fan)),fun _ _=>(fac rfl (fac rfl fan))⟩
theorem ek_TWrite : EncOk enc_TWrite 2:=fk_TWrite.toEncOk
abbrev L_TWrite (l : List TWrite) : AV:=.lst false 2 (fl (enc_TWrite false) l) l.length
structure TDisk where
 Sectors : List (List UInt8)
 Cache : List TWrite
def enc_TDisk (o : Bool) (x : TDisk) : List AV:=[.lst o 1 (fl (encS o) x.Sectors) x.Sectors.length,.lst o 2 (fl (enc_TWrite o) x.Cache) x.Cache.length]
theorem ek_TDisk : EncOk enc_TDisk 2:=⟨fun _ _=>rfl,by omega,fun _ _=>(fac (.lst (ekS.fdat _ _)) (fac (.lst (ek_TWrite.fdat _ _)) fan)),fun _=>(fac (.lst (ekS.fown _)) (fac (.lst (ek_TWrite.fown _)) fan)),fun _=>(.cons (ekS.fflag _).lst (.cons (ek_TWrite.fflag _).lst .nil))⟩
abbrev L_TDisk (l : List TDisk) : AV:=.lst false 2 (fl (enc_TDisk false) l) l.length
structure TRec where
 Kind : Int
 Valid : Int
 Uid : Int
 Next : Int
 Flags : Int
 User : List UInt8
 Name : List UInt8
 Text : List UInt8
def enc_TRec (_ : Bool) (x : TRec) : List AV:=[.j x.Kind,.j x.Valid,.j x.Uid,.j x.Next,.j x.Flags,.str x.User,.str x.Name,.str x.Text]
theorem sc_TRec (o : Bool) (x : TRec) : ∀ v ∈ enc_TRec o x,Scl v:=(fac .int (fac .int (fac .int (fac .int (fac .int (fac .str (fac .str (fac .str fan))))))))
theorem fk_TRec : FlatOk enc_TRec 8:=⟨⟨fun _ _=>rfl,by omega,fun _ _=>(fac .int (fac .int (fac .int (fac .int (fac .int (fac .str (fac .str (fac .str fan)))))))),fun _=>(fac .int (fac .int (fac .int (fac .int (fac .int (fac .str (fac .str (fac .str fan)))))))),fun _=>(.cons .refl (.cons .refl (.cons .refl (.cons .refl (.cons .refl (.cons .refl (.cons .refl (.cons .refl .nil))))))))⟩,fun _=>rfl,fun _ _=>(fac rfl (fac rfl (fac rfl (fac rfl (fac rfl (fac rfl (fac rfl (fac rfl fan)))))))),fun _ _=>(fac rfl (fac rfl (fac rfl (fac rfl (fac rfl (fac rfl (fac rfl (fac rfl fan))))))))⟩
theorem ek_TRec : EncOk enc_TRec 8:=fk_TRec.toEncOk
abbrev L_TRec (l : List TRec) : AV:=.lst false 8 (fl (enc_TRec false) l) l.length
structure TItem where
 Seq : Int
 Rec : TRec
def enc_TItem (_ : Bool) (x : TItem) : List AV:=[.j x.Seq,.j x.Rec.Kind,.j x.Rec.Valid,.j x.Rec.Uid,.j x.Rec.Next,.j x.Rec.Flags,.str x.Rec.User,.str x.Rec.Name,.str x.Rec.Text]
theorem sc_TItem (o : Bool) (x : TItem) : ∀ v ∈ enc_TItem o x,Scl v:=(fac .int (fac .int (fac .int (fac .int (fac .int (fac .int (fac .str (fac .str (fac .str fan)))))))))
theorem fk_TItem : FlatOk enc_TItem 9:=⟨⟨fun _ _=>rfl,by omega,fun _ _=>(fac .int (fac .int (fac .int (fac .int (fac .int (fac .int (fac .str (fac .str (fac .str fan))))))))),fun _=>(fac .int (fac .int (fac .int (fac .int (fac .int (fac .int (fac .str (fac .str (fac .str fan))))))))),fun _=>(.cons .refl (.cons .refl (.cons .refl (.cons .refl (.cons .refl (.cons .refl (.cons .refl (.cons .refl (.cons .refl .nil)))))))))⟩,fun _=>rfl,fun _ _=>(fac rfl (fac rfl (fac rfl (fac rfl (fac rfl (fac rfl (fac rfl (fac rfl (fac rfl fan))))))))),fun _ _=>(fac rfl (fac rfl (fac rfl (fac rfl (fac rfl (fac rfl (fac rfl (fac rfl (fac rfl fan)))))))))⟩
theorem ek_TItem : EncOk enc_TItem 9:=fk_TItem.toEncOk
abbrev L_TItem (l : List TItem) : AV:=.lst false 9 (fl (enc_TItem false) l) l.length
structure TSeg where
 No : Int
 Gen : Int
 End : Int
 Items : List TItem
def enc_TSeg (o : Bool) (x : TSeg) : List AV:=[.j x.No,.j x.Gen,.j x.End,.lst o 9 (fl (enc_TItem o) x.Items) x.Items.length]
theorem ek_TSeg : EncOk enc_TSeg 4:=⟨fun _ _=>rfl,by omega,fun _ _=>(fac .int (fac .int (fac .int (fac (.lst (ek_TItem.fdat _ _)) fan)))),fun _=>(fac .int (fac .int (fac .int (fac (.lst (ek_TItem.fown _)) fan)))),fun _=>(.cons .refl (.cons .refl (.cons .refl (.cons (ek_TItem.fflag _).lst .nil))))⟩
abbrev L_TSeg (l : List TSeg) : AV:=.lst false 4 (fl (enc_TSeg false) l) l.length
structure TLog where
 Disk : TDisk
 Segs : Int
 Used : List TSeg
 NextGen : Int
 NextSeq : Int
 Stamp : Int
 NextValid : Int
def enc_TLog (o : Bool) (x : TLog) : List AV:=[.lst o 1 (fl (encS o) x.Disk.Sectors) x.Disk.Sectors.length,.lst o 2 (fl (enc_TWrite o) x.Disk.Cache) x.Disk.Cache.length,.j x.Segs,.lst o 4 (fl (enc_TSeg o) x.Used) x.Used.length,.j x.NextGen,.j x.NextSeq,.j x.Stamp,.j x.NextValid]
theorem ek_TLog : EncOk enc_TLog 8:=⟨fun _ _=>rfl,by omega,fun _ _=>(fac (.lst (ekS.fdat _ _)) (fac (.lst (ek_TWrite.fdat _ _)) (fac .int (fac (.lst (ek_TSeg.fdat _ _)) (fac .int (fac .int (fac .int (fac .int fan)))))))),fun _=>(fac (.lst (ekS.fown _)) (fac (.lst (ek_TWrite.fown _)) (fac .int (fac (.lst (ek_TSeg.fown _)) (fac .int (fac .int (fac .int (fac .int fan)))))))),fun _=>(.cons (ekS.fflag _).lst (.cons (ek_TWrite.fflag _).lst (.cons .refl (.cons (ek_TSeg.fflag _).lst (.cons .refl (.cons .refl (.cons .refl (.cons .refl .nil))))))))⟩
abbrev L_TLog (l : List TLog) : AV:=.lst false 8 (fl (enc_TLog false) l) l.length
structure TL01Cur where
 mB : List Int
 mI : Int
 mH : Int
def enc_TL01Cur (o : Bool) (x : TL01Cur) : List AV:=[.lst o 1 (fl (encB o) x.mB) x.mB.length,.j x.mI,.j x.mH]
theorem ek_TL01Cur : EncOk enc_TL01Cur 3:=⟨fun _ _=>rfl,by omega,fun _ _=>(fac (.lst (ekB.fdat _ _)) (fac .int (fac .int fan))),fun _=>(fac (.lst (ekB.fown _)) (fac .int (fac .int fan))),fun _=>(.cons (ekB.fflag _).lst (.cons .refl (.cons .refl .nil)))⟩
abbrev L_TL01Cur (l : List TL01Cur) : AV:=.lst false 3 (fl (enc_TL01Cur false) l) l.length
structure TFrame where
 Gen : Int
 Seq : Int
 Body : List UInt8
def enc_TFrame (_ : Bool) (x : TFrame) : List AV:=[.j x.Gen,.j x.Seq,.str x.Body]
theorem sc_TFrame (o : Bool) (x : TFrame) : ∀ v ∈ enc_TFrame o x,Scl v:=(fac .int (fac .int (fac .str fan)))
theorem fk_TFrame : FlatOk enc_TFrame 3:=⟨⟨fun _ _=>rfl,by omega,fun _ _=>(fac .int (fac .int (fac .str fan))),fun _=>(fac .int (fac .int (fac .str fan))),fun _=>(.cons .refl (.cons .refl (.cons .refl .nil)))⟩,fun _=>rfl,fun _ _=>(fac rfl (fac rfl (fac rfl fan))),fun _ _=>(fac rfl (fac rfl (fac rfl fan)))⟩
theorem ek_TFrame : EncOk enc_TFrame 3:=fk_TFrame.toEncOk
abbrev L_TFrame (l : List TFrame) : AV:=.lst false 3 (fl (enc_TFrame false) l) l.length
structure TRef where
 No : Int
 Gen : Int
def enc_TRef (_ : Bool) (x : TRef) : List AV:=[.j x.No,.j x.Gen]
theorem sc_TRef (o : Bool) (x : TRef) : ∀ v ∈ enc_TRef o x,Scl v:=(fac .int (fac .int fan))
theorem fk_TRef : FlatOk enc_TRef 2:=⟨⟨fun _ _=>rfl,by omega,fun _ _=>(fac .int (fac .int fan)),fun _=>(fac .int (fac .int fan)),fun _=>(.cons .refl (.cons .refl .nil))⟩,fun _=>rfl,fun _ _=>(fac rfl (fac rfl fan)),fun _ _=>(fac rfl (fac rfl fan))⟩
theorem ek_TRef : EncOk enc_TRef 2:=fk_TRef.toEncOk
abbrev L_TRef (l : List TRef) : AV:=.lst false 2 (fl (enc_TRef false) l) l.length
structure TCheck where
 Stamp : Int
 NextGen : Int
 NextSeq : Int
 NextValid : Int
 Refs : List TRef
def enc_TCheck (o : Bool) (x : TCheck) : List AV:=[.j x.Stamp,.j x.NextGen,.j x.NextSeq,.j x.NextValid,.lst o 2 (fl (enc_TRef o) x.Refs) x.Refs.length]
theorem ek_TCheck : EncOk enc_TCheck 5:=⟨fun _ _=>rfl,by omega,fun _ _=>(fac .int (fac .int (fac .int (fac .int (fac (.lst (ek_TRef.fdat _ _)) fan))))),fun _=>(fac .int (fac .int (fac .int (fac .int (fac (.lst (ek_TRef.fown _)) fan))))),fun _=>(.cons .refl (.cons .refl (.cons .refl (.cons .refl (.cons (ek_TRef.fflag _).lst .nil)))))⟩
abbrev L_TCheck (l : List TCheck) : AV:=.lst false 5 (fl (enc_TCheck false) l) l.length
structure TL06Cur where
 mText : List UInt8
 mAt : Int
 mBad : Bool
def enc_TL06Cur (_ : Bool) (x : TL06Cur) : List AV:=[.str x.mText,.j x.mAt,.bool x.mBad]
theorem sc_TL06Cur (o : Bool) (x : TL06Cur) : ∀ v ∈ enc_TL06Cur o x,Scl v:=(fac .str (fac .int (fac .bool fan)))
theorem fk_TL06Cur : FlatOk enc_TL06Cur 3:=⟨⟨fun _ _=>rfl,by omega,fun _ _=>(fac .str (fac .int (fac .bool fan))),fun _=>(fac .str (fac .int (fac .bool fan))),fun _=>(.cons .refl (.cons .refl (.cons .refl .nil)))⟩,fun _=>rfl,fun _ _=>(fac rfl (fac rfl (fac rfl fan))),fun _ _=>(fac rfl (fac rfl (fac rfl fan)))⟩
theorem ek_TL06Cur : EncOk enc_TL06Cur 3:=fk_TL06Cur.toEncOk
abbrev L_TL06Cur (l : List TL06Cur) : AV:=.lst false 3 (fl (enc_TL06Cur false) l) l.length
structure TMail where
 Uid : Int
 Flags : Int
 Text : List UInt8
def enc_TMail (_ : Bool) (x : TMail) : List AV:=[.j x.Uid,.j x.Flags,.str x.Text]
theorem sc_TMail (o : Bool) (x : TMail) : ∀ v ∈ enc_TMail o x,Scl v:=(fac .int (fac .int (fac .str fan)))
theorem fk_TMail : FlatOk enc_TMail 3:=⟨⟨fun _ _=>rfl,by omega,fun _ _=>(fac .int (fac .int (fac .str fan))),fun _=>(fac .int (fac .int (fac .str fan))),fun _=>(.cons .refl (.cons .refl (.cons .refl .nil)))⟩,fun _=>rfl,fun _ _=>(fac rfl (fac rfl (fac rfl fan))),fun _ _=>(fac rfl (fac rfl (fac rfl fan)))⟩
theorem ek_TMail : EncOk enc_TMail 3:=fk_TMail.toEncOk
abbrev L_TMail (l : List TMail) : AV:=.lst false 3 (fl (enc_TMail false) l) l.length
structure TBox where
 Valid : Int
 User : List UInt8
 Name : List UInt8
 Next : Int
 Mails : List TMail
def enc_TBox (o : Bool) (x : TBox) : List AV:=[.j x.Valid,.str x.User,.str x.Name,.j x.Next,.lst o 3 (fl (enc_TMail o) x.Mails) x.Mails.length]
theorem ek_TBox : EncOk enc_TBox 5:=⟨fun _ _=>rfl,by omega,fun _ _=>(fac .int (fac .str (fac .str (fac .int (fac (.lst (ek_TMail.fdat _ _)) fan))))),fun _=>(fac .int (fac .str (fac .str (fac .int (fac (.lst (ek_TMail.fown _)) fan))))),fun _=>(.cons .refl (.cons .refl (.cons .refl (.cons .refl (.cons (ek_TMail.fflag _).lst .nil)))))⟩
abbrev L_TBox (l : List TBox) : AV:=.lst false 5 (fl (enc_TBox false) l) l.length
structure TState where
 Boxes : List TBox
def enc_TState (o : Bool) (x : TState) : List AV:=[.lst o 5 (fl (enc_TBox o) x.Boxes) x.Boxes.length]
theorem ek_TState : EncOk enc_TState 1:=⟨fun _ _=>rfl,by omega,fun _ _=>(fac (.lst (ek_TBox.fdat _ _)) fan),fun _=>(fac (.lst (ek_TBox.fown _)) fan),fun _=>(.cons (ek_TBox.fflag _).lst .nil)⟩
abbrev L_TState (l : List TState) : AV:=.lst false 1 (fl (enc_TState false) l) l.length
def wf_TWrite (x : TWrite) : Prop:=((Lit.int .i64 x.At).wf = true) ∧ (x.Text.length ≤ maxLen) ∧ True
def wf_TDisk (x : TDisk) : Prop:=(x.Sectors.length ≤ maxLen ∧ ∀ a ∈ x.Sectors,a.length ≤ maxLen) ∧ (x.Cache.length ≤ maxLen ∧ ∀ a ∈ x.Cache,wf_TWrite a) ∧ True
def wf_TRec (x : TRec) : Prop:=((Lit.int .i64 x.Kind).wf = true) ∧ ((Lit.int .i64 x.Valid).wf = true) ∧ ((Lit.int .i64 x.Uid).wf = true) ∧ ((Lit.int .i64 x.Next).wf = true) ∧ ((Lit.int .i64 x.Flags).wf = true) ∧ (x.User.length ≤ maxLen) ∧ (x.Name.length ≤ maxLen) ∧ (x.Text.length ≤ maxLen) ∧ True
def wf_TItem (x : TItem) : Prop:=((Lit.int .i64 x.Seq).wf = true) ∧ (wf_TRec x.Rec) ∧ True
def wf_TSeg (x : TSeg) : Prop:=((Lit.int .i64 x.No).wf = true) ∧ ((Lit.int .i64 x.Gen).wf = true) ∧ ((Lit.int .i64 x.End).wf = true) ∧ (x.Items.length ≤ maxLen ∧ ∀ a ∈ x.Items,wf_TItem a) ∧ True
def wf_TLog (x : TLog) : Prop:=(wf_TDisk x.Disk) ∧ ((Lit.int .i64 x.Segs).wf = true) ∧ (x.Used.length ≤ maxLen ∧ ∀ a ∈ x.Used,wf_TSeg a) ∧ ((Lit.int .i64 x.NextGen).wf = true) ∧ ((Lit.int .i64 x.NextSeq).wf = true) ∧ ((Lit.int .i64 x.Stamp).wf = true) ∧ ((Lit.int .i64 x.NextValid).wf = true) ∧ True
def wf_TL01Cur (x : TL01Cur) : Prop:=(x.mB.length ≤ maxLen ∧ ∀ a ∈ x.mB,(Lit.int .u8 a).wf = true) ∧ ((Lit.int .i64 x.mI).wf = true) ∧ ((Lit.int .i64 x.mH).wf = true) ∧ True
def wf_TFrame (x : TFrame) : Prop:=((Lit.int .i64 x.Gen).wf = true) ∧ ((Lit.int .i64 x.Seq).wf = true) ∧ (x.Body.length ≤ maxLen) ∧ True
def wf_TRef (x : TRef) : Prop:=((Lit.int .i64 x.No).wf = true) ∧ ((Lit.int .i64 x.Gen).wf = true) ∧ True
def wf_TCheck (x : TCheck) : Prop:=((Lit.int .i64 x.Stamp).wf = true) ∧ ((Lit.int .i64 x.NextGen).wf = true) ∧ ((Lit.int .i64 x.NextSeq).wf = true) ∧ ((Lit.int .i64 x.NextValid).wf = true) ∧ (x.Refs.length ≤ maxLen ∧ ∀ a ∈ x.Refs,wf_TRef a) ∧ True
def wf_TL06Cur (x : TL06Cur) : Prop:=(x.mText.length ≤ maxLen) ∧ ((Lit.int .i64 x.mAt).wf = true) ∧ (True) ∧ True
def wf_TMail (x : TMail) : Prop:=((Lit.int .i64 x.Uid).wf = true) ∧ ((Lit.int .i64 x.Flags).wf = true) ∧ (x.Text.length ≤ maxLen) ∧ True
def wf_TBox (x : TBox) : Prop:=((Lit.int .i64 x.Valid).wf = true) ∧ (x.User.length ≤ maxLen) ∧ (x.Name.length ≤ maxLen) ∧ ((Lit.int .i64 x.Next).wf = true) ∧ (x.Mails.length ≤ maxLen ∧ ∀ a ∈ x.Mails,wf_TMail a) ∧ True
def wf_TState (x : TState) : Prop:=(x.Boxes.length ≤ maxLen ∧ ∀ a ∈ x.Boxes,wf_TBox a) ∧ True
end Go.Proofs.Ytldndhdohlfpgaa.V
/- What the functions compute. -/
namespace Go.Proofs.Ytldndhdohlfpgaa.V
open Go Go.Proofs Go.RowKit
set_option maxRecDepth 100000
noncomputable def F_impl_in (x0 : Int) (x1 : Int) (x2 : Int) : Option Bool :=
 (if decide (x0 ≥ x1) then some (decide (x0 ≤ x2)) else some false)
noncomputable def F_impl_CheckOk_1_w (x0 : TRef) (x1 : TRef) : Option Bool :=
 some (x0.No == x1.No)
noncomputable def S_slices_IndexFunc_Ref_CheckOk_1_1 (x0 : List TRef) (x1 : TRef) (s1 : Int) : Option (Int ⊕ (Int ⊕ Unit)) :=
 (if decide (s1 < (x0.length : Int)) then (at? x0 s1).bind fun v3=>(F_impl_CheckOk_1_w v3 x1).bind fun v4=>(if v4 then some (.inr (.inl s1)) else some (.inl (w64 (s1 + 1)))) else some (.inr (.inr ())))
noncomputable def F_slices_IndexFunc_Ref_CheckOk_1 (x0 : List TRef) (x1 : TRef) : Option Int :=
 (iter (S_slices_IndexFunc_Ref_CheckOk_1_1 x0 x1) 0).bind (Sum.elim (fun r=>some r) (fun y2=>some (-1)))
noncomputable def F_slices_ContainsFunc_Ref_CheckOk_1 (x0 : List TRef) (x1 : TRef) : Option Bool :=
 (F_slices_IndexFunc_Ref_CheckOk_1 x0 x1).bind fun v1=>some (decide (v1 ≥ 0))
noncomputable def S_impl_CheckOk_2 (x0 : TCheck) (s7 : Int × Int) : Option ((Int × Int) ⊕ (Bool ⊕ Unit)) :=
 (if decide (s7.2 < (x0.Refs.length : Int)) then (at? x0.Refs s7.2).bind fun v9=>((F_impl_in v9.Gen (w64 (s7.1 + 1)) (w64 (x0.NextGen - 1))).bind fun v11=>(if v11 then (F_impl_in v9.No 0 10).bind fun v12=>(if v12 then (sub? x0.Refs 0 s7.2).bind fun v13=>(F_slices_ContainsFunc_Ref_CheckOk_1 v13 v9).bind fun v14=>(if v14 then some true else some false) else some true) else some true) : Option Bool).bind (fun y10=>(if y10 then some (.inr (.inl false)) else some (.inl (v9.Gen,w64 (s7.2 + 1))))) else some (.inr (.inr ())))
noncomputable def S_impl_CheckOk_1 (x0 : TCheck) (s1 : Int) : Option (Int ⊕ (Bool ⊕ Unit)) :=
 (if decide (s1 < ([x0.Stamp,x0.NextGen,x0.NextSeq,x0.NextValid].length : Int)) then (at? [x0.Stamp,x0.NextGen,x0.NextSeq,x0.NextValid] s1).bind fun v3=>(F_impl_in v3 1 1000000000).bind fun v4=>(if v4 then some (.inl (w64 (s1 + 1))) else some (.inr (.inl false))) else some (.inr (.inr ())))
noncomputable def F_impl_CheckOk (x0 : TCheck) : Option Bool :=
 (iter (S_impl_CheckOk_1 x0) 0).bind (Sum.elim (fun r=>some r) (fun y2=>(F_impl_in (x0.Refs.length : Int) 1 11).bind fun v6=>(if v6 then (iter (S_impl_CheckOk_2 x0) (0,0)).bind (Sum.elim (fun r=>some r) (fun y8=>some true)) else some false)))
noncomputable def S_impl_varText_1 (s1 : Int × (List Int)) : Option ((Int × (List Int)) ⊕ (Int × (List Int))) :=
 (if decide (s1.1 > 127) then (app? 1 s1.2 [IntKind.u8.wrap (orv .i64 (andv .i64 s1.1 127) 128)]).bind fun v3=>some (.inl (shrv .i64 s1.1 7,v3)) else some (.inr (s1.1,s1.2)))
noncomputable def F_impl_varText (x0 : Int) : Option (List UInt8) :=
 (iter (S_impl_varText_1) (x0,([] : List Int))).bind (fun y4=>(app? 1 y4.2 [IntKind.u8.wrap y4.1]).bind fun v5=>some (v5.map ofI))
noncomputable def S_impl_SumMore_2 (s4 : Int × Int) : Option ((Int × Int) ⊕ Int) :=
 (if decide (s4.2 < 8) then (if ((andv .u32 s4.1 1) == 1) then some (.inl (xorv .u32 (shrv .u32 s4.1 1) 3558460437,w64 (s4.2 + 1))) else some (.inl (shrv .u32 s4.1 1,w64 (s4.2 + 1)))) else some (.inr s4.1))
noncomputable def S_impl_SumMore_1 (x1 : List UInt8) (s1 : Int × Int) : Option ((Int × Int) ⊕ Int) :=
 (if decide (s1.2 < (x1.length : Int)) then (bt? x1 s1.2).bind fun v3=>(iter (S_impl_SumMore_2) (xorv .u32 s1.1 (IntKind.u32.wrap (v3.toNat : Int)),0)).bind (fun y6=>some (.inl (y6,w64 (s1.2 + 1)))) else some (.inr s1.1))
noncomputable def F_impl_SumMore (x0 : Int) (x1 : List UInt8) : Option Int :=
 (iter (S_impl_SumMore_1 x1) (x0,0)).bind (fun y7=>some y7)
noncomputable def F_impl_SumOf (x0 : List UInt8) : Option Int :=
 (F_impl_SumMore 4294967295 x0).bind fun v1=>some v1
noncomputable def F_impl_seal (x0 : List UInt8) : Option (List UInt8) :=
 (F_impl_SumOf x0).bind fun v1=>some ([IntKind.u8.wrap (shrv .u32 v1 24),IntKind.u8.wrap (shrv .u32 v1 16),IntKind.u8.wrap (shrv .u32 v1 8),IntKind.u8.wrap v1].map ofI)
noncomputable def S_impl_CheckText_1 (x0 : TCheck) (s11 : (List UInt8) × Int) : Option (((List UInt8) × Int) ⊕ (List UInt8)) :=
 (if decide (s11.2 < (x0.Refs.length : Int)) then (at? x0.Refs s11.2).bind fun v13=>(F_impl_varText v13.No).bind fun v14=>(F_impl_varText v13.Gen).bind fun v15=>(cat? v14 v15).bind fun v16=>(cat? s11.1 v16).bind fun v17=>some (.inl (v17,w64 (s11.2 + 1))) else some (.inr s11.1))
noncomputable def F_impl_CheckText (x0 : TCheck) : Option ((List UInt8) × Bool) :=
 (F_impl_CheckOk x0).bind fun v1=>(if v1 then (F_impl_varText x0.Stamp).bind fun v2=>(F_impl_varText x0.NextGen).bind fun v3=>(cat? v2 v3).bind fun v4=>(F_impl_varText x0.NextSeq).bind fun v5=>(cat? v4 v5).bind fun v6=>(F_impl_varText x0.NextValid).bind fun v7=>(cat? v6 v7).bind fun v8=>(F_impl_varText (x0.Refs.length : Int)).bind fun v9=>(cat? v8 v9).bind fun v10=>(iter (S_impl_CheckText_1 x0) (v10,0)).bind (fun y18=>(F_impl_seal y18).bind fun v19=>(cat? y18 v19).bind fun v20=>(F_impl_varText (v20.length : Int)).bind fun v21=>(cat? v21 v20).bind fun v22=>(if decide ((v22.length : Int) > 128) then some ([],false) else some (v22,true))) else some ([],false))
noncomputable def S_impl_ReadVar_1 (x0 : List UInt8) (x1 : Int) (s2 : Int × Int) : Option ((Int × Int) ⊕ ((Int × Int × Bool) ⊕ Unit)) :=
 ((if decide (s2.2 < 5) then (if decide ((w64 (x1 + s2.2)) < (x0.length : Int)) then some true else some false) else some false) : Option Bool).bind (fun y4=>(if y4 then (bt? x0 (w64 (x1 + s2.2))).bind fun v5=>(shl? .i64 (andv .i64 (w64 (v5.toNat : Int)) 127) (w64 (7 * s2.2))).bind fun v6=>(if decide ((w64 (v5.toNat : Int)) > 127) then some (.inl (orv .i64 s2.1 v6,w64 (s2.2 + 1))) else ((if ((w64 (v5.toNat : Int)) == 0) then (if decide (s2.2 > 0) then some true else (if decide ((orv .i64 s2.1 v6) > 1000000000) then some true else some false)) else (if decide ((orv .i64 s2.1 v6) > 1000000000) then some true else some false)) : Option Bool).bind (fun y7=>(if y7 then some (.inr (.inl (0,0,false))) else some (.inr (.inl (orv .i64 s2.1 v6,w64 ((w64 (x1 + s2.2)) + 1),true)))))) else some (.inr (.inr ()))))
noncomputable def F_impl_ReadVar (x0 : List UInt8) (x1 : Int) : Option (Int × Int × Bool) :=
 (F_impl_in x1 0 (x0.length : Int)).bind fun v1=>(if v1 then (iter (S_impl_ReadVar_1 x0 x1) (0,0)).bind (Sum.elim (fun r=>some r) (fun y3=>some (0,0,false))) else some (0,0,false))
noncomputable def F_impl_ReadShort (x0 : List UInt8) (x1 : Int) : Option ((List UInt8) × Int × Bool) :=
 (F_impl_ReadVar x0 x1).bind fun v1=>((if !v1.2.2 then some true else (if decide (v1.1 > 20000) then some true else (if decide (v1.1 > (w64 ((x0.length : Int) - v1.2.1))) then some true else some false))) : Option Bool).bind (fun y2=>(if y2 then some ([],0,false) else (sub? x0 v1.2.1 (w64 (v1.2.1 + v1.1))).bind fun v3=>some (v3,w64 (v1.2.1 + v1.1),true)))
noncomputable def F_impl_Unsealed (x0 : List UInt8) : Option ((List UInt8) × Bool) :=
 ((F_impl_in (w64 ((x0.length : Int) - 4)) 0 20000).bind fun v2=>(if v2 then (sub? x0 (w64 ((x0.length : Int) - 4)) (x0.length : Int)).bind fun v3=>(sub? x0 0 (w64 ((x0.length : Int) - 4))).bind fun v4=>(F_impl_seal v4).bind fun v5=>(if (!(v3 == v5)) then some true else some false) else some true) : Option Bool).bind (fun y1=>(if y1 then some ([],false) else (sub? x0 0 (w64 ((x0.length : Int) - 4))).bind fun v6=>some (v6,true)))
noncomputable def S_impl_ReadCheck_2 (y4 : (List Int)) (s12 : Int × (List TRef)) : Option ((Int × (List TRef)) ⊕ (List TRef)) :=
 (if decide ((w64 (s12.1 + 1)) < (y4.length : Int)) then (at? y4 s12.1).bind fun v14=>(at? y4 (w64 (s12.1 + 1))).bind fun v15=>(app? 16 s12.2 [({ No:=v14,Gen:=v15 } : TRef)]).bind fun v16=>some (.inl (w64 (s12.1 + 2),v16)) else some (.inr s12.2))
noncomputable def S_impl_ReadCheck_1 (v2 : (List UInt8) × Bool) (s3 : Int × (List Int)) : Option ((Int × (List Int)) ⊕ ((TCheck × Bool) ⊕ (List Int))) :=
 (if decide (s3.1 < (v2.1.length : Int)) then (F_impl_ReadVar v2.1 s3.1).bind fun v5=>(if !v5.2.2 then some (.inr (.inl (({ Stamp:=0,NextGen:=0,NextSeq:=0,NextValid:=0,Refs:=[] } : TCheck),false))) else (app? 8 s3.2 [v5.1]).bind fun v6=>some (.inl (v5.2.1,v6))) else some (.inr (.inr s3.2)))
noncomputable def F_impl_ReadCheck (x0 : List UInt8) : Option (TCheck × Bool) :=
 (F_impl_ReadShort x0 0).bind fun v1=>(F_impl_Unsealed v1.1).bind fun v2=>(if !v1.2.2 then some (({ Stamp:=0,NextGen:=0,NextSeq:=0,NextValid:=0,Refs:=[] } : TCheck),false) else (if !v2.2 then some (({ Stamp:=0,NextGen:=0,NextSeq:=0,NextValid:=0,Refs:=[] } : TCheck),false) else (iter (S_impl_ReadCheck_1 v2) (0,([] : List Int))).bind (Sum.elim (fun r=>some r) (fun y4=>(if decide ((y4.length : Int) < 5) then some (({ Stamp:=0,NextGen:=0,NextSeq:=0,NextValid:=0,Refs:=[] } : TCheck),false) else (at? y4 0).bind fun v8=>(at? y4 1).bind fun v9=>(at? y4 2).bind fun v10=>(at? y4 3).bind fun v11=>(iter (S_impl_ReadCheck_2 y4) (5,([] : List TRef))).bind (fun y17=>(F_impl_CheckText ({ Stamp:=v8,NextGen:=v9,NextSeq:=v10,NextValid:=v11,Refs:=y17 } : TCheck)).bind fun v18=>((if !v18.2 then some true else (sub? x0 0 v1.2.1).bind fun v20=>(if (!(v18.1 == v20)) then some true else some false)) : Option Bool).bind (fun y19=>(if y19 then some (({ Stamp:=0,NextGen:=0,NextSeq:=0,NextValid:=0,Refs:=[] } : TCheck),false) else some (({ Stamp:=v8,NextGen:=v9,NextSeq:=v10,NextValid:=v11,Refs:=y17 } : TCheck),true)))))))))
noncomputable def S_impl_ReadSector_1 (x0 : TDisk) (x1 : Int) (s3 : (List UInt8) × Int) : Option (((List UInt8) × Int) ⊕ (List UInt8)) :=
 (if decide (s3.2 < (x0.Cache.length : Int)) then (at? x0.Cache s3.2).bind fun v5=>(if (v5.At == x1) then some (.inl (v5.Text,w64 (s3.2 + 1))) else some (.inl (s3.1,w64 (s3.2 + 1)))) else some (.inr s3.1))
noncomputable def F_impl_ReadSector (x0 : TDisk) (x1 : Int) : Option ((List UInt8) × Bool) :=
 (F_impl_in x1 0 (w64 ((x0.Sectors.length : Int) - 1))).bind fun v1=>(if v1 then (at? x0.Sectors x1).bind fun v2=>(iter (S_impl_ReadSector_1 x0 x1) (v2,0)).bind (fun y6=>some (y6,true)) else some ([],false))
noncomputable def S_impl_SectorText_1 (x0 : TDisk) (x1 : Int) (x2 : Int) (s2 : (List UInt8) × Int) : Option (((List UInt8) × Int) ⊕ (((List UInt8) × Bool) ⊕ (List UInt8))) :=
 (if decide (s2.2 < x2) then (F_impl_ReadSector x0 (w64 (x1 + s2.2))).bind fun v4=>(if !v4.2 then some (.inr (.inl ([],false))) else (cat? s2.1 v4.1).bind fun v5=>some (.inl (v5,w64 (s2.2 + 1)))) else some (.inr (.inr s2.1)))
noncomputable def F_impl_SectorText (x0 : TDisk) (x1 : Int) (x2 : Int) : Option ((List UInt8) × Bool) :=
 (F_impl_in x2 0 100).bind fun v1=>(if v1 then (iter (S_impl_SectorText_1 x0 x1 x2) ([],0)).bind (Sum.elim (fun r=>some r) (fun y3=>some (y3,true))) else some ([],false))
noncomputable def S_impl_NewestCheck_1 (x0 : TDisk) (s1 : Bool × Int × Int × Int × Int × Int × (List TRef)) : Option ((Bool × Int × Int × Int × Int × Int × (List TRef)) ⊕ (Bool × Int × Int × Int × Int × (List TRef))) :=
 (if decide (s1.2.1 < (([0,4] : List Int).length : Int)) then (at? ([0,4] : List Int) s1.2.1).bind fun v3=>(F_impl_SectorText x0 v3 4).bind fun v4=>(F_impl_ReadCheck v4.1).bind fun v5=>((if v5.2 then (if !s1.1 then some true else (if decide (v5.1.Stamp > s1.2.2.1) then some true else some false)) else some false) : Option Bool).bind (fun y6=>(if y6 then some (.inl (true,w64 (s1.2.1 + 1),v5.1.Stamp,v5.1.NextGen,v5.1.NextSeq,v5.1.NextValid,v5.1.Refs)) else some (.inl (s1.1,w64 (s1.2.1 + 1),s1.2.2.1,s1.2.2.2.1,s1.2.2.2.2.1,s1.2.2.2.2.2.1,s1.2.2.2.2.2.2)))) else some (.inr (s1.1,s1.2.2.1,s1.2.2.2.1,s1.2.2.2.2.1,s1.2.2.2.2.2.1,s1.2.2.2.2.2.2)))
noncomputable def F_impl_NewestCheck (x0 : TDisk) : Option (TCheck × Bool) :=
 (iter (S_impl_NewestCheck_1 x0) (false,0,0,0,0,0,([] : List TRef))).bind (fun y7=>some (({ Stamp:=y7.2.1,NextGen:=y7.2.2.1,NextSeq:=y7.2.2.2.1,NextValid:=y7.2.2.2.2.1,Refs:=y7.2.2.2.2.2 } : TCheck),y7.1))
noncomputable def S_spec_CheckOf_1 (x0 : TLog) (s1 : Int × (List TRef)) : Option ((Int × (List TRef)) ⊕ (List TRef)) :=
 (if decide (s1.1 < (x0.Used.length : Int)) then (at? x0.Used s1.1).bind fun v3=>(at? x0.Used s1.1).bind fun v4=>(app? 16 s1.2 [({ No:=v3.No,Gen:=v4.Gen } : TRef)]).bind fun v5=>some (.inl (w64 (s1.1 + 1),v5)) else some (.inr s1.2))
noncomputable def F_spec_CheckOf (x0 : TLog) : Option TCheck :=
 (iter (S_spec_CheckOf_1 x0) (0,([] : List TRef))).bind (fun y6=>some ({ Stamp:=w64 (x0.Stamp + 1),NextGen:=x0.NextGen,NextSeq:=x0.NextSeq,NextValid:=x0.NextValid,Refs:=y6 } : TCheck))
noncomputable def F_spec_l01In (x0 : Int) (x1 : Int) (x2 : Int) : Option Bool :=
 (if decide (x0 ≥ x1) then some (decide (x0 ≤ x2)) else some false)
noncomputable def S_spec_CheckOk_2 (x0 : TCheck) (s7 : Int) (v9 : TRef) (s14 : Int) : Option (Int ⊕ (Bool ⊕ Unit)) :=
 (if decide (s14 < s7) then (at? x0.Refs s14).bind fun v16=>(if (v16.No == v9.No) then some (.inr (.inl false)) else some (.inl (w64 (s14 + 1)))) else some (.inr (.inr ())))
noncomputable def S_spec_CheckOk_1 (x0 : TCheck) (s7 : Int) : Option (Int ⊕ (Bool ⊕ Unit)) :=
 (if decide (s7 < (x0.Refs.length : Int)) then (at? x0.Refs s7).bind fun v9=>((F_spec_l01In v9.No 0 10).bind fun v11=>(if v11 then (F_spec_l01In v9.Gen 1 (w64 (x0.NextGen - 1))).bind fun v12=>(if v12 then (if decide (s7 > 0) then (at? x0.Refs (w64 (s7 - 1))).bind fun v13=>(if decide (v13.Gen ≥ v9.Gen) then some true else some false) else some false) else some true) else some true) : Option Bool).bind (fun y10=>(if y10 then some (.inr (.inl false)) else (iter (S_spec_CheckOk_2 x0 s7 v9) 0).bind (Sum.elim (fun r=>some (.inr (.inl r))) (fun y15=>some (.inl (w64 (s7 + 1))))))) else some (.inr (.inr ())))
noncomputable def F_spec_CheckOk (x0 : TCheck) : Option Bool :=
 ((F_spec_l01In x0.Stamp 1 1000000000).bind fun v2=>(if v2 then (F_spec_l01In x0.NextGen 1 1000000000).bind fun v3=>(if v3 then (F_spec_l01In x0.NextSeq 1 1000000000).bind fun v4=>(if v4 then (F_spec_l01In x0.NextValid 1 1000000000).bind fun v5=>(if v5 then (F_spec_l01In (x0.Refs.length : Int) 1 11).bind fun v6=>(if v6 then some false else some true) else some true) else some true) else some true) else some true) : Option Bool).bind (fun y1=>(if y1 then some false else (iter (S_spec_CheckOk_1 x0) 0).bind (Sum.elim (fun r=>some r) (fun y8=>some true))))
noncomputable def S_spec_l01Var_1 (s1 : Int × (List Int)) : Option ((Int × (List Int)) ⊕ (Int × (List Int))) :=
 (if decide (s1.1 > 127) then (app? 1 s1.2 [IntKind.u8.wrap (w64 ((Int.tmod s1.1 128) + 128))]).bind fun v3=>some (.inl (w64 (Int.tdiv s1.1 128),v3)) else some (.inr (s1.1,s1.2)))
noncomputable def F_spec_l01Var (x0 : Int) : Option (List UInt8) :=
 (iter (S_spec_l01Var_1) (x0,([] : List Int))).bind (fun y4=>(app? 1 y4.2 [IntKind.u8.wrap y4.1]).bind fun v5=>some (v5.map ofI))
noncomputable def F_spec_l02Four (x0 : Int) : Option (List UInt8) :=
 some ([IntKind.u8.wrap (shrv .u32 x0 24),IntKind.u8.wrap (shrv .u32 x0 16),IntKind.u8.wrap (shrv .u32 x0 8),IntKind.u8.wrap x0].map ofI)
noncomputable def S_spec_SumMore_2 (s4 : Int × Int) : Option ((Int × Int) ⊕ Int) :=
 (if decide (s4.2 < 8) then (if ((Int.tmod s4.1 2) == 1) then some (.inl (xorv .u32 (IntKind.u32.wrap (Int.tdiv s4.1 2)) 3558460437,w64 (s4.2 + 1))) else some (.inl (IntKind.u32.wrap (Int.tdiv s4.1 2),w64 (s4.2 + 1)))) else some (.inr s4.1))
noncomputable def S_spec_SumMore_1 (x1 : List UInt8) (s1 : Int × Int) : Option ((Int × Int) ⊕ Int) :=
 (if decide (s1.2 < (x1.length : Int)) then (bt? x1 s1.2).bind fun v3=>(iter (S_spec_SumMore_2) (xorv .u32 s1.1 (IntKind.u32.wrap (v3.toNat : Int)),0)).bind (fun y6=>some (.inl (y6,w64 (s1.2 + 1)))) else some (.inr s1.1))
noncomputable def F_spec_SumMore (x0 : Int) (x1 : List UInt8) : Option Int :=
 (iter (S_spec_SumMore_1 x1) (x0,0)).bind (fun y7=>some y7)
noncomputable def F_spec_SumOf (x0 : List UInt8) : Option Int :=
 (F_spec_SumMore 4294967295 x0).bind fun v1=>some v1
noncomputable def F_spec_Sealed (x0 : List UInt8) : Option ((List UInt8) × Bool) :=
 (if decide ((x0.length : Int) > 20000) then some ([],false) else (F_spec_SumOf x0).bind fun v1=>(F_spec_l02Four v1).bind fun v2=>(cat? x0 v2).bind fun v3=>some (v3,true))
noncomputable def F_spec_l06Short (x0 : List UInt8) : Option (List UInt8) :=
 (F_spec_l01Var (x0.length : Int)).bind fun v1=>(cat? v1 x0).bind fun v2=>some v2
noncomputable def S_spec_CheckText_1 (x0 : TCheck) (s11 : (List UInt8) × Int) : Option (((List UInt8) × Int) ⊕ (List UInt8)) :=
 (if decide (s11.2 < (x0.Refs.length : Int)) then (at? x0.Refs s11.2).bind fun v13=>(F_spec_l01Var v13.No).bind fun v14=>(cat? s11.1 v14).bind fun v15=>(at? x0.Refs s11.2).bind fun v16=>(F_spec_l01Var v16.Gen).bind fun v17=>(cat? v15 v17).bind fun v18=>some (.inl (v18,w64 (s11.2 + 1))) else some (.inr s11.1))
noncomputable def F_spec_CheckText (x0 : TCheck) : Option ((List UInt8) × Bool) :=
 (F_spec_CheckOk x0).bind fun v1=>(if v1 then (F_spec_l01Var x0.Stamp).bind fun v2=>(F_spec_l01Var x0.NextGen).bind fun v3=>(cat? v2 v3).bind fun v4=>(F_spec_l01Var x0.NextSeq).bind fun v5=>(cat? v4 v5).bind fun v6=>(F_spec_l01Var x0.NextValid).bind fun v7=>(cat? v6 v7).bind fun v8=>(F_spec_l01Var (x0.Refs.length : Int)).bind fun v9=>(cat? v8 v9).bind fun v10=>(iter (S_spec_CheckText_1 x0) (v10,0)).bind (fun y19=>(F_spec_Sealed y19).bind fun v20=>(F_spec_l06Short v20.1).bind fun v21=>((if !v20.2 then some true else (if decide ((v21.length : Int) > 128) then some true else some false)) : Option Bool).bind (fun y22=>(if y22 then some ([],false) else some (v21,true)))) else some ([],false))
noncomputable def F_spec_l03Copy (x0 : TDisk) : Option TDisk :=
 (app? 16 ([] : List (List UInt8)) x0.Sectors).bind fun v1=>(app? 24 ([] : List TWrite) x0.Cache).bind fun v2=>some ({ Sectors:=v1,Cache:=v2 } : TDisk)
noncomputable def S_spec_DiskOk_2 (x0 : TDisk) (s7 : Int) : Option (Int ⊕ (Bool ⊕ Unit)) :=
 (if decide (s7 < (x0.Cache.length : Int)) then ((at? x0.Cache s7).bind fun v10=>(F_spec_l01In v10.At 0 (w64 ((x0.Sectors.length : Int) - 1))).bind fun v11=>(if v11 then (at? x0.Cache s7).bind fun v12=>(if ((v12.Text.length : Int) != 32) then some true else some false) else some true) : Option Bool).bind (fun y9=>(if y9 then some (.inr (.inl false)) else some (.inl (w64 (s7 + 1))))) else some (.inr (.inr ())))
noncomputable def S_spec_DiskOk_1 (x0 : TDisk) (s3 : Int) : Option (Int ⊕ (Bool ⊕ Unit)) :=
 (if decide (s3 < (x0.Sectors.length : Int)) then (at? x0.Sectors s3).bind fun v5=>(if ((v5.length : Int) != 32) then some (.inr (.inl false)) else some (.inl (w64 (s3 + 1)))) else some (.inr (.inr ())))
noncomputable def F_spec_DiskOk (x0 : TDisk) : Option Bool :=
 ((F_spec_l01In (x0.Sectors.length : Int) 1 100).bind fun v2=>(if v2 then (if decide ((x0.Cache.length : Int) > 60) then some true else some false) else some true) : Option Bool).bind (fun y1=>(if y1 then some false else (iter (S_spec_DiskOk_1 x0) 0).bind (Sum.elim (fun r=>some r) (fun y4=>(iter (S_spec_DiskOk_2 x0) 0).bind (Sum.elim (fun r=>some r) (fun y8=>some true))))))
noncomputable def S_spec_ReadSector_1 (x0 : TDisk) (x1 : Int) (s2 : Int) : Option (Int ⊕ (((List UInt8) × Bool) ⊕ Unit)) :=
 (if decide (s2 ≥ 0) then (at? x0.Cache s2).bind fun v4=>(if (v4.At == x1) then (at? x0.Cache s2).bind fun v5=>some (.inr (.inl (v5.Text,true))) else some (.inl (w64 (s2 - 1)))) else some (.inr (.inr ())))
noncomputable def F_spec_ReadSector (x0 : TDisk) (x1 : Int) : Option ((List UInt8) × Bool) :=
 (F_spec_l01In x1 0 (w64 ((x0.Sectors.length : Int) - 1))).bind fun v1=>(if v1 then (iter (S_spec_ReadSector_1 x0 x1) (w64 ((x0.Cache.length : Int) - 1))).bind (Sum.elim (fun r=>some r) (fun y3=>(at? x0.Sectors x1).bind fun v7=>some (v7,true))) else some ([],false))
noncomputable def F_spec_WriteSector (x0 : TDisk) (x1 : Int) (x2 : List UInt8) : Option (TDisk × Bool) :=
 (F_spec_l03Copy x0).bind fun v1=>((F_spec_DiskOk x0).bind fun v3=>(if v3 then (F_spec_l01In x1 0 (w64 ((x0.Sectors.length : Int) - 1))).bind fun v4=>(if v4 then (if ((x2.length : Int) != 32) then some true else (if decide ((x0.Cache.length : Int) ≥ 60) then some true else some false)) else some true) else some true) : Option Bool).bind (fun y2=>(if y2 then some (({ Sectors:=v1.Sectors,Cache:=v1.Cache } : TDisk),false) else (app? 24 v1.Cache [({ At:=x1,Text:=x2 } : TWrite)]).bind fun v5=>some (({ Sectors:=v1.Sectors,Cache:=v5 } : TDisk),true)))
noncomputable def S_spec_WriteBytes_1 (x0 : TDisk) (x1 : Int) (x2 : Int) (x3 : List UInt8) (s6 : Int × (List (List UInt8)) × (List TWrite)) : Option ((Int × (List (List UInt8)) × (List TWrite)) ⊕ ((TDisk × Bool) ⊕ ((List (List UInt8)) × (List TWrite)))) :=
 (if decide (s6.1 < (x3.length : Int)) then (if decide ((w64 (32 - (Int.tmod (w64 (x2 + s6.1)) 32))) > (w64 ((x3.length : Int) - s6.1))) then (F_spec_ReadSector ({ Sectors:=s6.2.1,Cache:=s6.2.2 } : TDisk) (w64 (x1 + (w64 (Int.tdiv (w64 (x2 + s6.1)) 32))))).bind fun v18=>((if !v18.2 then some true else (if ((v18.1.length : Int) != 32) then some true else some false)) : Option Bool).bind (fun y19=>(if y19 then (F_spec_l03Copy x0).bind fun v27=>some (.inr (.inl (({ Sectors:=v27.Sectors,Cache:=v27.Cache } : TDisk),false))) else (sub? v18.1 0 (Int.tmod (w64 (x2 + s6.1)) 32)).bind fun v20=>(sub? x3 s6.1 (w64 (s6.1 + (w64 ((x3.length : Int) - s6.1))))).bind fun v21=>(cat? v20 v21).bind fun v22=>(sub? v18.1 (w64 ((Int.tmod (w64 (x2 + s6.1)) 32) + (w64 ((x3.length : Int) - s6.1)))) (v18.1.length : Int)).bind fun v23=>(cat? v22 v23).bind fun v24=>(F_spec_WriteSector ({ Sectors:=s6.2.1,Cache:=s6.2.2 } : TDisk) (w64 (x1 + (w64 (Int.tdiv (w64 (x2 + s6.1)) 32)))) v24).bind fun v25=>(if !v25.2 then (F_spec_l03Copy x0).bind fun v26=>some (.inr (.inl (({ Sectors:=v26.Sectors,Cache:=v26.Cache } : TDisk),false))) else some (.inl (w64 (s6.1 + (w64 ((x3.length : Int) - s6.1))),v25.1.Sectors,v25.1.Cache))))) else (F_spec_ReadSector ({ Sectors:=s6.2.1,Cache:=s6.2.2 } : TDisk) (w64 (x1 + (w64 (Int.tdiv (w64 (x2 + s6.1)) 32))))).bind fun v8=>((if !v8.2 then some true else (if ((v8.1.length : Int) != 32) then some true else some false)) : Option Bool).bind (fun y9=>(if y9 then (F_spec_l03Copy x0).bind fun v17=>some (.inr (.inl (({ Sectors:=v17.Sectors,Cache:=v17.Cache } : TDisk),false))) else (sub? v8.1 0 (Int.tmod (w64 (x2 + s6.1)) 32)).bind fun v10=>(sub? x3 s6.1 (w64 (s6.1 + (w64 (32 - (Int.tmod (w64 (x2 + s6.1)) 32)))))).bind fun v11=>(cat? v10 v11).bind fun v12=>(sub? v8.1 (w64 ((Int.tmod (w64 (x2 + s6.1)) 32) + (w64 (32 - (Int.tmod (w64 (x2 + s6.1)) 32))))) (v8.1.length : Int)).bind fun v13=>(cat? v12 v13).bind fun v14=>(F_spec_WriteSector ({ Sectors:=s6.2.1,Cache:=s6.2.2 } : TDisk) (w64 (x1 + (w64 (Int.tdiv (w64 (x2 + s6.1)) 32)))) v14).bind fun v15=>(if !v15.2 then (F_spec_l03Copy x0).bind fun v16=>some (.inr (.inl (({ Sectors:=v16.Sectors,Cache:=v16.Cache } : TDisk),false))) else some (.inl (w64 (s6.1 + (w64 (32 - (Int.tmod (w64 (x2 + s6.1)) 32)))),v15.1.Sectors,v15.1.Cache)))))) else some (.inr (.inr (s6.2.1,s6.2.2))))
noncomputable def F_spec_WriteBytes (x0 : TDisk) (x1 : Int) (x2 : Int) (x3 : List UInt8) : Option (TDisk × Bool) :=
 (F_spec_l03Copy x0).bind fun v1=>((F_spec_l01In x2 0 3200).bind fun v3=>(if v3 then (F_spec_l01In x1 0 (w64 ((x0.Sectors.length : Int) - 1))).bind fun v4=>(if v4 then (F_spec_DiskOk x0).bind fun v5=>(if v5 then some false else some true) else some true) else some true) : Option Bool).bind (fun y2=>(if y2 then some (({ Sectors:=v1.Sectors,Cache:=v1.Cache } : TDisk),false) else (iter (S_spec_WriteBytes_1 x0 x1 x2 x3) (0,v1.Sectors,v1.Cache)).bind (Sum.elim (fun r=>some r) (fun y7=>some (({ Sectors:=y7.1,Cache:=y7.2 } : TDisk),true)))))
noncomputable def S_spec_l01New_w_1 (x0 : List Int) (s1 : Int × Int) : Option ((Int × Int) ⊕ Int) :=
 ((if decide (s1.2 < (x0.length : Int)) then (if decide (s1.2 < 4000) then some true else some false) else some false) : Option Bool).bind (fun y3=>(if y3 then (at? x0 s1.2).bind fun v4=>some (.inl (andv .i64 (w64 ((w64 ((w64 (s1.1 * 131)) + (w64 v4))) + 7)) 1073741823,w64 (s1.2 + 1))) else some (.inr s1.1)))
noncomputable def F_spec_l01New_w (x0 : List Int) : Option TL01Cur :=
 (iter (S_spec_l01New_w_1 x0) (w64 (76001 + (x0.length : Int)),0)).bind (fun y5=>some ({ mB:=x0,mI:=0,mH:=y5 } : TL01Cur))
noncomputable def F_spec_l01Byte_w (x0 : TL01Cur) : Option (Int × TL01Cur) :=
 (if decide (x0.mI < (x0.mB.length : Int)) then (at? x0.mB x0.mI).bind fun v1=>some (andv .i64 (w64 ((andv .i64 (xorv .i64 (shrv .i64 (w64 ((w64 (x0.mH * 6364136223846793005)) + 1442695040888963407)) 33) (shrv .i64 (w64 ((w64 (x0.mH * 6364136223846793005)) + 1442695040888963407)) 45)) 255) + (w64 v1))) 255,({ mB:=x0.mB,mI:=w64 (x0.mI + 1),mH:=w64 ((w64 (x0.mH * 6364136223846793005)) + 1442695040888963407) } : TL01Cur)) else some (andv .i64 (xorv .i64 (shrv .i64 (w64 ((w64 (x0.mH * 6364136223846793005)) + 1442695040888963407)) 33) (shrv .i64 (w64 ((w64 (x0.mH * 6364136223846793005)) + 1442695040888963407)) 45)) 255,({ mB:=x0.mB,mI:=x0.mI,mH:=w64 ((w64 (x0.mH * 6364136223846793005)) + 1442695040888963407) } : TL01Cur)))
noncomputable def F_spec_l01Below_w (x0 : TL01Cur) (x1 : Int) : Option (Int × TL01Cur) :=
 (if decide (x1 ≤ 0) then some (0,({ mB:=x0.mB,mI:=x0.mI,mH:=x0.mH } : TL01Cur)) else (if decide (x1 ≤ 256) then (F_spec_l01Byte_w ({ mB:=x0.mB,mI:=x0.mI,mH:=x0.mH } : TL01Cur)).bind fun v6=>(rem? v6.1 x1).bind fun v7=>some (v7,({ mB:=x0.mB,mI:=v6.2.mI,mH:=v6.2.mH } : TL01Cur)) else (F_spec_l01Byte_w ({ mB:=x0.mB,mI:=x0.mI,mH:=x0.mH } : TL01Cur)).bind fun v1=>(F_spec_l01Byte_w ({ mB:=x0.mB,mI:=v1.2.mI,mH:=v1.2.mH } : TL01Cur)).bind fun v2=>(F_spec_l01Byte_w ({ mB:=x0.mB,mI:=v2.2.mI,mH:=v2.2.mH } : TL01Cur)).bind fun v3=>(F_spec_l01Byte_w ({ mB:=x0.mB,mI:=v3.2.mI,mH:=v3.2.mH } : TL01Cur)).bind fun v4=>(rem? (w64 ((w64 ((w64 ((w64 (v1.1 * 16777216)) + (w64 (v2.1 * 65536)))) + (w64 (v3.1 * 256)))) + v4.1)) x1).bind fun v5=>some (v5,({ mB:=x0.mB,mI:=v4.2.mI,mH:=v4.2.mH } : TL01Cur))))
noncomputable def S_spec_DrawPlaces_1 (x0 : List Int) (s4 : Int × Int × Int × (List Int)) : Option ((Int × Int × Int × (List Int)) ⊕ (List Int)) :=
 (if decide (s4.1 < 12) then (F_spec_l01Below_w ({ mB:=x0,mI:=s4.2.1,mH:=s4.2.2.1 } : TL01Cur) 10000).bind fun v6=>(app? 8 s4.2.2.2 [v6.1]).bind fun v7=>some (.inl (w64 (s4.1 + 1),v6.2.mI,v6.2.mH,v7)) else some (.inr s4.2.2.2))
noncomputable def F_spec_DrawPlaces (x0 : List Int) : Option (List Int) :=
 (F_spec_l01New_w x0).bind fun v2=>(F_spec_l01Byte_w ({ mB:=x0,mI:=v2.mI,mH:=v2.mH } : TL01Cur)).bind fun v3=>(iter (S_spec_DrawPlaces_1 x0) (0,v3.2.mI,v3.2.mH,([] : List Int))).bind (fun y8=>some y8)
noncomputable def F_impl_DiskOk_2_w (x0 : TWrite) (x1 : TDisk) : Option Bool :=
 (F_impl_in x0.At 0 (w64 ((x1.Sectors.length : Int) - 1))).bind fun v1=>(if v1 then some ((x0.Text.length : Int) != 32) else some true)
noncomputable def S_slices_IndexFunc_Write_DiskOk_2_1 (x0 : List TWrite) (x1 : TDisk) (s1 : Int) : Option (Int ⊕ (Int ⊕ Unit)) :=
 (if decide (s1 < (x0.length : Int)) then (at? x0 s1).bind fun v3=>(F_impl_DiskOk_2_w v3 x1).bind fun v4=>(if v4 then some (.inr (.inl s1)) else some (.inl (w64 (s1 + 1)))) else some (.inr (.inr ())))
noncomputable def F_slices_IndexFunc_Write_DiskOk_2 (x0 : List TWrite) (x1 : TDisk) : Option Int :=
 (iter (S_slices_IndexFunc_Write_DiskOk_2_1 x0 x1) 0).bind (Sum.elim (fun r=>some r) (fun y2=>some (-1)))
noncomputable def F_slices_ContainsFunc_Write_DiskOk_2 (x0 : List TWrite) (x1 : TDisk) : Option Bool :=
 (F_slices_IndexFunc_Write_DiskOk_2 x0 x1).bind fun v1=>some (decide (v1 ≥ 0))
noncomputable def F_impl_DiskOk_1 (x0 : List UInt8) : Option Bool :=
 some ((x0.length : Int) != 32)
noncomputable def S_slices_IndexFunc_string_DiskOk_1_1 (x0 : List (List UInt8)) (s1 : Int) : Option (Int ⊕ (Int ⊕ Unit)) :=
 (if decide (s1 < (x0.length : Int)) then (at? x0 s1).bind fun v3=>(F_impl_DiskOk_1 v3).bind fun v4=>(if v4 then some (.inr (.inl s1)) else some (.inl (w64 (s1 + 1)))) else some (.inr (.inr ())))
noncomputable def F_slices_IndexFunc_string_DiskOk_1 (x0 : List (List UInt8)) : Option Int :=
 (iter (S_slices_IndexFunc_string_DiskOk_1_1 x0) 0).bind (Sum.elim (fun r=>some r) (fun y2=>some (-1)))
noncomputable def F_slices_ContainsFunc_string_DiskOk_1 (x0 : List (List UInt8)) : Option Bool :=
 (F_slices_IndexFunc_string_DiskOk_1 x0).bind fun v1=>some (decide (v1 ≥ 0))
noncomputable def F_impl_DiskOk (x0 : TDisk) : Option Bool :=
 ((F_impl_in (x0.Sectors.length : Int) 1 100).bind fun v2=>(if v2 then (if decide ((x0.Cache.length : Int) > 60) then some true else some false) else some true) : Option Bool).bind (fun y1=>(if y1 then some false else (F_slices_ContainsFunc_string_DiskOk_1 x0.Sectors).bind fun v3=>(if v3 then some false else (F_slices_ContainsFunc_Write_DiskOk_2 x0.Cache x0).bind fun v4=>some (!v4))))
noncomputable def F_slices_Clone_string (x0 : List (List UInt8)) : Option (List (List UInt8)) :=
 app? 16 [] x0
noncomputable def F_slices_Clone_Write (x0 : List TWrite) : Option (List TWrite) :=
 app? 24 [] x0
noncomputable def F_impl_cloneDisk (x0 : TDisk) : Option TDisk :=
 (F_slices_Clone_string x0.Sectors).bind fun v1=>(F_slices_Clone_Write x0.Cache).bind fun v2=>some ({ Sectors:=v1,Cache:=v2 } : TDisk)
noncomputable def S_impl_CrashDisk_2 (x2 : Int) (y9 : (List TWrite)) (s10 : Int × (List (List UInt8))) : Option ((Int × (List (List UInt8))) ⊕ (List (List UInt8))) :=
 (if decide (s10.1 < (y9.length : Int)) then (at? y9 s10.1).bind fun v12=>(if (s10.1 == (w64 ((y9.length : Int) - 1))) then (sub? v12.Text 0 (Int.tmod (w64 ((w64 ((Int.tmod x2 33) + 32)) + 1)) 33)).bind fun v19=>(at? s10.2 v12.At).bind fun v20=>(sub? v20 (Int.tmod (w64 ((w64 ((Int.tmod x2 33) + 32)) + 1)) 33) (v20.length : Int)).bind fun v21=>(cat? v19 v21).bind fun v22=>(at? s10.2 v12.At).bind fun v23=>(some (set' s10.2 v12.At v22)).bind fun v24=>some (.inl (w64 (s10.1 + 1),v24)) else (sub? v12.Text 0 32).bind fun v13=>(at? s10.2 v12.At).bind fun v14=>(sub? v14 32 (v14.length : Int)).bind fun v15=>(cat? v13 v15).bind fun v16=>(at? s10.2 v12.At).bind fun v17=>(some (set' s10.2 v12.At v16)).bind fun v18=>some (.inl (w64 (s10.1 + 1),v18))) else some (.inr s10.2))
noncomputable def S_impl_CrashDisk_1 (x0 : TDisk) (x1 : List Int) (s3 : Int × (List TWrite)) : Option ((Int × (List TWrite)) ⊕ (List TWrite)) :=
 (if decide (s3.1 < (x0.Cache.length : Int)) then (at? x0.Cache s3.1).bind fun v5=>((if decide (s3.1 < (x1.length : Int)) then (at? x1 s3.1).bind fun v7=>(if ((Int.tmod v7 2) != 0) then some true else some false) else some false) : Option Bool).bind (fun y6=>(if y6 then (app? 24 s3.2 [v5]).bind fun v8=>some (.inl (w64 (s3.1 + 1),v8)) else some (.inl (w64 (s3.1 + 1),s3.2)))) else some (.inr s3.2))
noncomputable def F_impl_CrashDisk (x0 : TDisk) (x1 : List Int) (x2 : Int) : Option TDisk :=
 (F_impl_cloneDisk x0).bind fun v1=>(F_impl_DiskOk x0).bind fun v2=>(if v2 then (iter (S_impl_CrashDisk_1 x0 x1) (0,([] : List TWrite))).bind (fun y9=>(iter (S_impl_CrashDisk_2 x2 y9) (0,v1.Sectors)).bind (fun y25=>some ({ Sectors:=y25,Cache:=[] } : TDisk))) else some ({ Sectors:=v1.Sectors,Cache:=v1.Cache } : TDisk))
noncomputable def S_spec_l03Keep_w_1 (x0 : TL01Cur) (s1 : Int × Int × Int × (List Int)) : Option ((Int × Int × Int × (List Int)) ⊕ (Int × Int × (List Int))) :=
 (F_spec_l01Below_w ({ mB:=x0.mB,mI:=s1.2.1,mH:=s1.2.2.1 } : TL01Cur) 14).bind fun v3=>(if decide (s1.1 < v3.1) then (F_spec_l01Below_w ({ mB:=x0.mB,mI:=v3.2.mI,mH:=v3.2.mH } : TL01Cur) 3).bind fun v4=>(app? 8 s1.2.2.2 [w64 (v4.1 - 1)]).bind fun v5=>some (.inl (w64 (s1.1 + 1),v4.2.mI,v4.2.mH,v5)) else some (.inr (v3.2.mI,v3.2.mH,s1.2.2.2)))
noncomputable def F_spec_l03Keep_w (x0 : TL01Cur) : Option ((List Int) × TL01Cur) :=
 (iter (S_spec_l03Keep_w_1 x0) (0,x0.mI,x0.mH,([] : List Int))).bind (fun y6=>some (y6.2.2,({ mB:=x0.mB,mI:=y6.1,mH:=y6.2.1 } : TL01Cur)))
noncomputable def F_spec_DrawKeep (x0 : List Int) : Option (List Int) :=
 (F_spec_l01New_w x0).bind fun v2=>(F_spec_l03Keep_w ({ mB:=x0,mI:=v2.mI,mH:=v2.mH } : TL01Cur)).bind fun v3=>some v3.1
noncomputable def S_spec_SectorText_1 (x0 : TDisk) (x1 : Int) (x2 : Int) (s2 : (List UInt8) × Int) : Option (((List UInt8) × Int) ⊕ (((List UInt8) × Bool) ⊕ (List UInt8))) :=
 (if decide (s2.2 < x2) then ((if decide (x1 < 0) then some true else (if decide (x1 > (x0.Sectors.length : Int)) then some true else some false)) : Option Bool).bind (fun y4=>(if y4 then some (.inr (.inl ([],false))) else (F_spec_ReadSector x0 (w64 (x1 + s2.2))).bind fun v5=>(if !v5.2 then some (.inr (.inl ([],false))) else (cat? s2.1 v5.1).bind fun v6=>some (.inl (v6,w64 (s2.2 + 1)))))) else some (.inr (.inr s2.1)))
noncomputable def F_spec_SectorText (x0 : TDisk) (x1 : Int) (x2 : Int) : Option ((List UInt8) × Bool) :=
 (F_spec_l01In x2 0 100).bind fun v1=>(if v1 then (iter (S_spec_SectorText_1 x0 x1 x2) ([],0)).bind (Sum.elim (fun r=>some r) (fun y3=>some (y3,true))) else some ([],false))
noncomputable def S_spec_ReadVar_1 (x0 : List UInt8) (x1 : Int) (s2 : Int × Int × Int) : Option ((Int × Int × Int) ⊕ ((Int × Int × Bool) ⊕ Unit)) :=
 ((if decide (s2.2.2 < (x0.length : Int)) then (if decide (s2.2.2 < (w64 (x1 + 5))) then some true else some false) else some false) : Option Bool).bind (fun y4=>(if y4 then (bt? x0 s2.2.2).bind fun v5=>(bt? x0 s2.2.2).bind fun v6=>(if decide ((v6.toNat : Int) < 128) then ((if decide ((w64 (s2.1 + (w64 ((Int.tmod (w64 (v5.toNat : Int)) 128) * s2.2.1)))) > 1000000000) then some true else (F_spec_l01Var (w64 (s2.1 + (w64 ((Int.tmod (w64 (v5.toNat : Int)) 128) * s2.2.1))))).bind fun v8=>(sub? x0 x1 (w64 (s2.2.2 + 1))).bind fun v9=>(if (!(v8 == v9)) then some true else some false)) : Option Bool).bind (fun y7=>(if y7 then some (.inr (.inl (0,0,false))) else some (.inr (.inl (w64 (s2.1 + (w64 ((Int.tmod (w64 (v5.toNat : Int)) 128) * s2.2.1))),w64 (s2.2.2 + 1),true))))) else some (.inl (w64 (s2.1 + (w64 ((Int.tmod (w64 (v5.toNat : Int)) 128) * s2.2.1))),w64 (s2.2.1 * 128),w64 (s2.2.2 + 1)))) else some (.inr (.inr ()))))
noncomputable def F_spec_ReadVar (x0 : List UInt8) (x1 : Int) : Option (Int × Int × Bool) :=
 (F_spec_l01In x1 0 (x0.length : Int)).bind fun v1=>(if v1 then (iter (S_spec_ReadVar_1 x0 x1) (0,1,x1)).bind (Sum.elim (fun r=>some r) (fun y3=>some (0,0,false))) else some (0,0,false))
noncomputable def F_spec_ReadShort (x0 : List UInt8) (x1 : Int) : Option ((List UInt8) × Int × Bool) :=
 (F_spec_ReadVar x0 x1).bind fun v1=>((if !v1.2.2 then some true else (if decide (v1.1 > 20000) then some true else (if decide (v1.1 > (w64 ((x0.length : Int) - v1.2.1))) then some true else some false))) : Option Bool).bind (fun y2=>(if y2 then some ([],0,false) else (sub? x0 v1.2.1 (w64 (v1.2.1 + v1.1))).bind fun v3=>some (v3,w64 (v1.2.1 + v1.1),true)))
noncomputable def F_spec_Unsealed (x0 : List UInt8) : Option ((List UInt8) × Bool) :=
 ((if decide ((w64 ((x0.length : Int) - 4)) < 0) then some true else (if decide ((w64 ((x0.length : Int) - 4)) > 20000) then some true else (sub? x0 (w64 ((x0.length : Int) - 4)) (x0.length : Int)).bind fun v2=>(sub? x0 0 (w64 ((x0.length : Int) - 4))).bind fun v3=>(F_spec_SumOf v3).bind fun v4=>(F_spec_l02Four v4).bind fun v5=>(if (!(v2 == v5)) then some true else some false))) : Option Bool).bind (fun y1=>(if y1 then some ([],false) else (sub? x0 0 (w64 ((x0.length : Int) - 4))).bind fun v6=>some (v6,true)))
noncomputable def F_spec_l06Var_w (x0 : TL06Cur) : Option (Int × TL06Cur) :=
 (F_spec_ReadVar x0.mText x0.mAt).bind fun v1=>(if x0.mBad then some (0,({ mText:=x0.mText,mAt:=x0.mAt,mBad:=true } : TL06Cur)) else (if !v1.2.2 then some (0,({ mText:=x0.mText,mAt:=x0.mAt,mBad:=true } : TL06Cur)) else some (v1.1,({ mText:=x0.mText,mAt:=v1.2.1,mBad:=false } : TL06Cur))))
noncomputable def S_spec_ReadCheck_1 (v7 : Int × TL06Cur) (s8 : Int × (List UInt8) × Int × Bool × (List TRef)) : Option ((Int × (List UInt8) × Int × Bool × (List TRef)) ⊕ ((List UInt8) × Int × Bool × (List TRef))) :=
 ((if decide (s8.1 < v7.1) then (if decide (s8.1 < 20) then some (!s8.2.2.2.1) else some false) else some false) : Option Bool).bind (fun y10=>(if y10 then (F_spec_l06Var_w ({ mText:=s8.2.1,mAt:=s8.2.2.1,mBad:=s8.2.2.2.1 } : TL06Cur)).bind fun v11=>(F_spec_l06Var_w v11.2).bind fun v12=>(app? 16 s8.2.2.2.2 [({ No:=v11.1,Gen:=v12.1 } : TRef)]).bind fun v13=>some (.inl (w64 (s8.1 + 1),v12.2.mText,v12.2.mAt,v12.2.mBad,v13)) else some (.inr (s8.2.1,s8.2.2.1,s8.2.2.2.1,s8.2.2.2.2))))
noncomputable def F_spec_ReadCheck (x0 : List UInt8) : Option (TCheck × Bool) :=
 (F_spec_ReadShort x0 0).bind fun v1=>(F_spec_Unsealed v1.1).bind fun v2=>(if !v1.2.2 then some (({ Stamp:=0,NextGen:=0,NextSeq:=0,NextValid:=0,Refs:=[] } : TCheck),false) else (if !v2.2 then some (({ Stamp:=0,NextGen:=0,NextSeq:=0,NextValid:=0,Refs:=[] } : TCheck),false) else (F_spec_l06Var_w ({ mText:=v2.1,mAt:=0,mBad:=false } : TL06Cur)).bind fun v3=>(F_spec_l06Var_w v3.2).bind fun v4=>(F_spec_l06Var_w v4.2).bind fun v5=>(F_spec_l06Var_w v5.2).bind fun v6=>(F_spec_l06Var_w v6.2).bind fun v7=>(iter (S_spec_ReadCheck_1 v7) (0,v7.2.mText,v7.2.mAt,v7.2.mBad,([] : List TRef))).bind (fun y14=>(F_spec_CheckText ({ Stamp:=v3.1,NextGen:=v4.1,NextSeq:=v5.1,NextValid:=v6.1,Refs:=y14.2.2.2 } : TCheck)).bind fun v15=>((if y14.2.2.1 then some true else (if !v15.2 then some true else (sub? x0 0 v1.2.1).bind fun v17=>(if (!(v15.1 == v17)) then some true else some false))) : Option Bool).bind (fun y16=>(if y16 then some (({ Stamp:=0,NextGen:=0,NextSeq:=0,NextValid:=0,Refs:=[] } : TCheck),false) else some (({ Stamp:=v3.1,NextGen:=v4.1,NextSeq:=v5.1,NextValid:=v6.1,Refs:=y14.2.2.2 } : TCheck),true))))))
noncomputable def S_spec_NewestCheck_1 (x0 : TDisk) (s1 : Bool × Int × Int × Int × Int × Int × (List TRef)) : Option ((Bool × Int × Int × Int × Int × Int × (List TRef)) ⊕ (Bool × Int × Int × Int × Int × (List TRef))) :=
 (if decide (s1.2.1 < 2) then (F_spec_SectorText x0 (w64 (s1.2.1 * 4)) 4).bind fun v3=>(F_spec_ReadCheck v3.1).bind fun v4=>((if v3.2 then (if v4.2 then (if decide (v4.1.Stamp > s1.2.2.1) then some true else some false) else some false) else some false) : Option Bool).bind (fun y5=>(if y5 then some (.inl (true,w64 (s1.2.1 + 1),v4.1.Stamp,v4.1.NextGen,v4.1.NextSeq,v4.1.NextValid,v4.1.Refs)) else some (.inl (s1.1,w64 (s1.2.1 + 1),s1.2.2.1,s1.2.2.2.1,s1.2.2.2.2.1,s1.2.2.2.2.2.1,s1.2.2.2.2.2.2)))) else some (.inr (s1.1,s1.2.2.1,s1.2.2.2.1,s1.2.2.2.2.1,s1.2.2.2.2.2.1,s1.2.2.2.2.2.2)))
noncomputable def F_spec_NewestCheck (x0 : TDisk) : Option (TCheck × Bool) :=
 (iter (S_spec_NewestCheck_1 x0) (false,0,0,0,0,0,([] : List TRef))).bind (fun y6=>some (({ Stamp:=y6.2.1,NextGen:=y6.2.2.1,NextSeq:=y6.2.2.2.1,NextValid:=y6.2.2.2.2.1,Refs:=y6.2.2.2.2.2 } : TCheck),y6.1))
noncomputable def F_laws_big (x0 : List Int) : Option Bool :=
 some (decide ((x0.length : Int) > 1048576))
noncomputable def S_spec_l01Long_1 (x0 : Int) (x1 : Int) (s2 : Int × (List Int)) : Option ((Int × (List Int)) ⊕ (List Int)) :=
 (if decide (s2.1 < x0) then (at? s2.2 s2.1).bind fun v4=>(some (set' s2.2 s2.1 x1)).bind fun v5=>some (.inl (w64 (s2.1 + 1),v5)) else some (.inr s2.2))
noncomputable def F_spec_l01Long (x0 : Int) (x1 : Int) : Option (List UInt8) :=
 (mk? 1 (0 : Int) x0).bind fun v1=>(iter (S_spec_l01Long_1 x0 x1) (0,v1)).bind (fun y6=>some (y6.map ofI))
noncomputable def F_spec_l03Zero : Option (List UInt8) :=
 (F_spec_l01Long 32 0).bind fun v1=>some v1
noncomputable def S_spec_DiskNew_1 (x0 : Int) (s2 : Int × (List (List UInt8))) : Option ((Int × (List (List UInt8))) ⊕ (List (List UInt8))) :=
 (if decide (s2.1 < x0) then (F_spec_l03Zero).bind fun v4=>(app? 16 s2.2 [v4]).bind fun v5=>some (.inl (w64 (s2.1 + 1),v5)) else some (.inr s2.2))
noncomputable def F_spec_DiskNew (x0 : Int) : Option (TDisk × Bool) :=
 (F_spec_l01In x0 1 100).bind fun v1=>(if v1 then (iter (S_spec_DiskNew_1 x0) (0,([] : List (List UInt8)))).bind (fun y6=>some (({ Sectors:=y6,Cache:=[] } : TDisk),true)) else some (({ Sectors:=[],Cache:=[] } : TDisk),false))
noncomputable def F_spec_FrameOk (x0 : TFrame) : Option Bool :=
 ((F_spec_l01In x0.Gen 1 1000000000).bind fun v2=>(if v2 then (F_spec_l01In x0.Seq 1 1000000000).bind fun v3=>(if v3 then (F_spec_l01In (x0.Body.length : Int) 1 180).bind fun v4=>some v4 else some false) else some false) : Option Bool).bind (fun y1=>some y1)
noncomputable def F_spec_FrameText (x0 : TFrame) : Option ((List UInt8) × Bool) :=
 (F_spec_FrameOk x0).bind fun v1=>(if v1 then (F_spec_l01Var x0.Gen).bind fun v2=>(F_spec_l01Var x0.Seq).bind fun v3=>(cat? v2 v3).bind fun v4=>(F_spec_l01Var (x0.Body.length : Int)).bind fun v5=>(cat? v4 v5).bind fun v6=>(cat? v6 x0.Body).bind fun v7=>(F_spec_Sealed v7).bind fun v8=>some (v8.1,v8.2) else some ([],false))
noncomputable def F_spec_SegFirst (x0 : Int) : Option Int :=
 (F_spec_l01In x0 0 10).bind fun v1=>(if v1 then some (w64 (8 + (w64 (x0 * 8)))) else some 0)
noncomputable def F_spec_SegWrite (x0 : TDisk) (x1 : Int) (x2 : Int) (x3 : List UInt8) : Option (TDisk × Bool) :=
 ((F_spec_l01In x1 0 10).bind fun v2=>(if v2 then (F_spec_l01In x2 0 256).bind fun v3=>(if v3 then (if decide ((x3.length : Int) > (w64 (256 - x2))) then some true else some false) else some true) else some true) : Option Bool).bind (fun y1=>(if y1 then (F_spec_l03Copy x0).bind fun v6=>some (({ Sectors:=v6.Sectors,Cache:=v6.Cache } : TDisk),false) else (F_spec_SegFirst x1).bind fun v4=>(F_spec_WriteBytes x0 v4 x2 x3).bind fun v5=>some (({ Sectors:=v5.1.Sectors,Cache:=v5.1.Cache } : TDisk),v5.2)))
noncomputable def S_spec_FlushDisk_1 (x0 : TDisk) (s3 : Int × (List (List UInt8))) : Option ((Int × (List (List UInt8))) ⊕ (List (List UInt8))) :=
 (if decide (s3.1 < (x0.Cache.length : Int)) then (at? x0.Cache s3.1).bind fun v5=>(at? x0.Cache s3.1).bind fun v6=>(at? s3.2 v5.At).bind fun v7=>(some (set' s3.2 v5.At v6.Text)).bind fun v8=>some (.inl (w64 (s3.1 + 1),v8)) else some (.inr s3.2))
noncomputable def F_spec_FlushDisk (x0 : TDisk) : Option TDisk :=
 (F_spec_l03Copy x0).bind fun v1=>(F_spec_DiskOk x0).bind fun v2=>(if v2 then (iter (S_spec_FlushDisk_1 x0) (0,v1.Sectors)).bind (fun y9=>some ({ Sectors:=y9,Cache:=[] } : TDisk)) else some ({ Sectors:=v1.Sectors,Cache:=v1.Cache } : TDisk))
noncomputable def S_spec_FreeSegs_2 (x0 : TLog) (s1 : Int × (List Int)) (s4 : Bool × Int) : Option ((Bool × Int) ⊕ Bool) :=
 (if decide (s4.2 < (x0.Used.length : Int)) then (if s4.1 then some (.inl (true,w64 (s4.2 + 1))) else (at? x0.Used s4.2).bind fun v6=>(if (v6.No == s1.1) then some (.inl (true,w64 (s4.2 + 1))) else some (.inl (false,w64 (s4.2 + 1))))) else some (.inr s4.1))
noncomputable def S_spec_FreeSegs_1 (x0 : TLog) (s1 : Int × (List Int)) : Option ((Int × (List Int)) ⊕ (List Int)) :=
 ((if decide (s1.1 < x0.Segs) then (if decide (s1.1 < 11) then some true else some false) else some false) : Option Bool).bind (fun y3=>(if y3 then (iter (S_spec_FreeSegs_2 x0 s1) (false,0)).bind (fun y7=>(if !y7 then (app? 8 s1.2 [s1.1]).bind fun v8=>some (.inl (w64 (s1.1 + 1),v8)) else some (.inl (w64 (s1.1 + 1),s1.2)))) else some (.inr s1.2)))
noncomputable def F_spec_FreeSegs (x0 : TLog) : Option (List Int) :=
 (iter (S_spec_FreeSegs_1 x0) (0,([] : List Int))).bind (fun y9=>some y9)
noncomputable def F_spec_l09Open_w2 (x0 : TLog) (x1 : Int) : Option (Bool × TLog) :=
 (F_spec_FreeSegs ({ Disk:=({ Sectors:=x0.Disk.Sectors,Cache:=x0.Disk.Cache } : TDisk),Segs:=x0.Segs,Used:=[],NextGen:=x0.NextGen,NextSeq:=x0.NextSeq,Stamp:=x0.Stamp,NextValid:=x0.NextValid } : TLog)).bind fun v1=>((if decide (x1 < 0) then some true else (if decide ((v1.length : Int) ≤ x1) then some true else some false)) : Option Bool).bind (fun y2=>(if y2 then some (false,({ Disk:=({ Sectors:=x0.Disk.Sectors,Cache:=x0.Disk.Cache } : TDisk),Segs:=x0.Segs,Used:=([] : List TSeg),NextGen:=x0.NextGen,NextSeq:=x0.NextSeq,Stamp:=x0.Stamp,NextValid:=x0.NextValid } : TLog)) else (F_spec_FrameText ({ Gen:=x0.NextGen,Seq:=1,Body:=[115,101,103] } : TFrame)).bind fun v3=>(at? v1 0).bind fun v4=>(F_spec_SegWrite ({ Sectors:=x0.Disk.Sectors,Cache:=x0.Disk.Cache } : TDisk) v4 0 v3.1).bind fun v5=>((if !v3.2 then some true else (if !v5.2 then some true else (if decide (x0.NextGen ≥ 1000000000) then some true else some false))) : Option Bool).bind (fun y6=>(if y6 then some (false,({ Disk:=({ Sectors:=x0.Disk.Sectors,Cache:=x0.Disk.Cache } : TDisk),Segs:=x0.Segs,Used:=([] : List TSeg),NextGen:=x0.NextGen,NextSeq:=x0.NextSeq,Stamp:=x0.Stamp,NextValid:=x0.NextValid } : TLog)) else (F_spec_FlushDisk v5.1).bind fun v7=>(at? v1 0).bind fun v8=>(app? 48 ([] : List TSeg) [({ No:=v8,Gen:=x0.NextGen,End:=(v3.1.length : Int),Items:=[] } : TSeg)]).bind fun v9=>some (true,({ Disk:=({ Sectors:=v7.Sectors,Cache:=v7.Cache } : TDisk),Segs:=x0.Segs,Used:=v9,NextGen:=w64 (x0.NextGen + 1),NextSeq:=x0.NextSeq,Stamp:=x0.Stamp,NextValid:=x0.NextValid } : TLog))))))
noncomputable def F_spec_WriteCheck (x0 : TDisk) (x1 : TCheck) : Option (TDisk × Bool) :=
 (F_spec_CheckText x1).bind fun v1=>((if !v1.2 then some true else (F_spec_DiskOk x0).bind fun v3=>(if v3 then some false else some true)) : Option Bool).bind (fun y2=>(if y2 then (F_spec_l03Copy x0).bind fun v7=>some (({ Sectors:=v7.Sectors,Cache:=v7.Cache } : TDisk),false) else (F_spec_WriteBytes x0 (w64 (4 * (Int.tmod x1.Stamp 2))) 0 v1.1).bind fun v4=>(if !v4.2 then (F_spec_l03Copy x0).bind fun v6=>some (({ Sectors:=v6.Sectors,Cache:=v6.Cache } : TDisk),false) else (F_spec_FlushDisk v4.1).bind fun v5=>some (({ Sectors:=v5.Sectors,Cache:=v5.Cache } : TDisk),true))))
noncomputable def F_spec_FormatDisk (x0 : Int) : Option (TLog × Bool) :=
 (F_spec_l01In x0 5 11).bind fun v1=>(if v1 then (F_spec_DiskNew (w64 (8 + (w64 (x0 * 8))))).bind fun v2=>(F_spec_l09Open_w2 ({ Disk:=({ Sectors:=v2.1.Sectors,Cache:=v2.1.Cache } : TDisk),Segs:=x0,Used:=[],NextGen:=1,NextSeq:=1,Stamp:=0,NextValid:=1 } : TLog) 0).bind fun v3=>(if v3.1 then (F_spec_CheckOf ({ Disk:=({ Sectors:=v3.2.Disk.Sectors,Cache:=v3.2.Disk.Cache } : TDisk),Segs:=v3.2.Segs,Used:=v3.2.Used,NextGen:=v3.2.NextGen,NextSeq:=v3.2.NextSeq,Stamp:=v3.2.Stamp,NextValid:=v3.2.NextValid } : TLog)).bind fun v4=>(F_spec_WriteCheck ({ Sectors:=v3.2.Disk.Sectors,Cache:=v3.2.Disk.Cache } : TDisk) v4).bind fun v5=>(if !v5.2 then some (({ Disk:=({ Sectors:=[],Cache:=[] } : TDisk),Segs:=0,Used:=[],NextGen:=0,NextSeq:=0,Stamp:=0,NextValid:=0 } : TLog),false) else some (({ Disk:=({ Sectors:=v5.1.Sectors,Cache:=v5.1.Cache } : TDisk),Segs:=v3.2.Segs,Used:=v3.2.Used,NextGen:=v3.2.NextGen,NextSeq:=v3.2.NextSeq,Stamp:=1,NextValid:=v3.2.NextValid } : TLog),true)) else some (({ Disk:=({ Sectors:=[],Cache:=[] } : TDisk),Segs:=0,Used:=[],NextGen:=0,NextSeq:=0,Stamp:=0,NextValid:=0 } : TLog),false)) else some (({ Disk:=({ Sectors:=[],Cache:=[] } : TDisk),Segs:=0,Used:=[],NextGen:=0,NextSeq:=0,Stamp:=0,NextValid:=0 } : TLog),false))
noncomputable def F_spec_l01PickInt_w (x0 : TL01Cur) (x1 : List Int) : Option (Int × TL01Cur) :=
 (F_spec_l01Below_w ({ mB:=x0.mB,mI:=x0.mI,mH:=x0.mH } : TL01Cur) (x1.length : Int)).bind fun v1=>(at? x1 v1.1).bind fun v2=>some (v2,({ mB:=x0.mB,mI:=v1.2.mI,mH:=v1.2.mH } : TL01Cur))
noncomputable def F_spec_l01Pick_w (x0 : TL01Cur) (x1 : List (List UInt8)) : Option ((List UInt8) × TL01Cur) :=
 (F_spec_l01Below_w ({ mB:=x0.mB,mI:=x0.mI,mH:=x0.mH } : TL01Cur) (x1.length : Int)).bind fun v1=>(at? x1 v1.1).bind fun v2=>some (v2,({ mB:=x0.mB,mI:=v1.2.mI,mH:=v1.2.mH } : TL01Cur))
noncomputable def F_spec_l06Text_w (x0 : TL01Cur) : Option ((List UInt8) × TL01Cur) :=
 (F_spec_l01Pick_w ({ mB:=x0.mB,mI:=x0.mI,mH:=x0.mH } : TL01Cur) [[104,101,108,108,111],[102,114,111,109,58,32,97,110,110,10,10,104,105],[115,117,98,106,101,99,116,58,32,120,10,10,98,111,100,121,32,111,102,32,105,116,10,46,100,111,116,10],[],[120,10,46,46,10]]).bind fun v1=>some (v1.1,({ mB:=x0.mB,mI:=v1.2.mI,mH:=v1.2.mH } : TL01Cur))
noncomputable def F_spec_l06Rec_w (x0 : TL01Cur) : Option (TRec × TL01Cur) :=
 (F_spec_l01PickInt_w ({ mB:=x0.mB,mI:=x0.mI,mH:=x0.mH } : TL01Cur) ([1,1,2,3,3,3,3,4,4,5,5] : List Int)).bind fun v1=>(F_spec_l01Below_w ({ mB:=x0.mB,mI:=v1.2.mI,mH:=v1.2.mH } : TL01Cur) 3).bind fun v2=>(if (v1.1 == 1) then (F_spec_l01Pick_w ({ mB:=x0.mB,mI:=v2.2.mI,mH:=v2.2.mH } : TL01Cur) [[97,110,110],[98,111,98]]).bind fun v9=>(F_spec_l01Pick_w ({ mB:=x0.mB,mI:=v9.2.mI,mH:=v9.2.mH } : TL01Cur) [[105,110,98,111,120],[119,111,114,107]]).bind fun v10=>(F_spec_l01Below_w ({ mB:=x0.mB,mI:=v10.2.mI,mH:=v10.2.mH } : TL01Cur) 6).bind fun v11=>some (({ Kind:=v1.1,Valid:=w64 (1 + v2.1),Uid:=0,Next:=w64 (1 + v11.1),Flags:=0,User:=v9.1,Name:=v10.1,Text:=[] } : TRec),({ mB:=x0.mB,mI:=v11.2.mI,mH:=v11.2.mH } : TL01Cur)) else (if (v1.1 == 3) then (F_spec_l01Below_w ({ mB:=x0.mB,mI:=v2.2.mI,mH:=v2.2.mH } : TL01Cur) 5).bind fun v6=>(F_spec_l01Below_w ({ mB:=x0.mB,mI:=v6.2.mI,mH:=v6.2.mH } : TL01Cur) 8).bind fun v7=>(F_spec_l06Text_w ({ mB:=x0.mB,mI:=v7.2.mI,mH:=v7.2.mH } : TL01Cur)).bind fun v8=>some (({ Kind:=v1.1,Valid:=w64 (1 + v2.1),Uid:=w64 (1 + v6.1),Next:=0,Flags:=v7.1,User:=[],Name:=[],Text:=v8.1 } : TRec),({ mB:=x0.mB,mI:=v8.2.mI,mH:=v8.2.mH } : TL01Cur)) else (if (v1.1 == 4) then (F_spec_l01Below_w ({ mB:=x0.mB,mI:=v2.2.mI,mH:=v2.2.mH } : TL01Cur) 5).bind fun v4=>(F_spec_l01Below_w ({ mB:=x0.mB,mI:=v4.2.mI,mH:=v4.2.mH } : TL01Cur) 8).bind fun v5=>some (({ Kind:=v1.1,Valid:=w64 (1 + v2.1),Uid:=w64 (1 + v4.1),Next:=0,Flags:=v5.1,User:=[],Name:=[],Text:=[] } : TRec),({ mB:=x0.mB,mI:=v5.2.mI,mH:=v5.2.mH } : TL01Cur)) else (if (v1.1 == 5) then (F_spec_l01Below_w ({ mB:=x0.mB,mI:=v2.2.mI,mH:=v2.2.mH } : TL01Cur) 5).bind fun v3=>some (({ Kind:=v1.1,Valid:=w64 (1 + v2.1),Uid:=w64 (1 + v3.1),Next:=0,Flags:=0,User:=[],Name:=[],Text:=[] } : TRec),({ mB:=x0.mB,mI:=v3.2.mI,mH:=v3.2.mH } : TL01Cur)) else some (({ Kind:=v1.1,Valid:=w64 (1 + v2.1),Uid:=0,Next:=0,Flags:=0,User:=[],Name:=[],Text:=[] } : TRec),({ mB:=x0.mB,mI:=v2.2.mI,mH:=v2.2.mH } : TL01Cur))))))
noncomputable def S_spec_ItemsOf_1 (x0 : TLog) (s1 : Int × (List TItem)) : Option ((Int × (List TItem)) ⊕ (List TItem)) :=
 (if decide (s1.1 < (x0.Used.length : Int)) then (at? x0.Used s1.1).bind fun v3=>(app? 96 s1.2 v3.Items).bind fun v4=>some (.inl (w64 (s1.1 + 1),v4)) else some (.inr s1.2))
noncomputable def F_spec_ItemsOf (x0 : TLog) : Option (List TItem) :=
 (iter (S_spec_ItemsOf_1 x0) (0,([] : List TItem))).bind (fun y5=>some y5)
noncomputable def S_spec_l09Fits_1 (x1 : TItem) (v1 : List TItem) (s2 : Int) : Option (Int ⊕ (Bool ⊕ Unit)) :=
 (if decide (s2 < (v1.length : Int)) then ((at? v1 s2).bind fun v5=>(if (v5.Seq == x1.Seq) then (at? v1 s2).bind fun v6=>(if !(v6.Seq == x1.Seq && (v6.Rec.Kind == x1.Rec.Kind && (v6.Rec.Valid == x1.Rec.Valid && (v6.Rec.Uid == x1.Rec.Uid && (v6.Rec.Next == x1.Rec.Next && (v6.Rec.Flags == x1.Rec.Flags && (v6.Rec.User == x1.Rec.User && (v6.Rec.Name == x1.Rec.Name && (v6.Rec.Text == x1.Rec.Text && true))))))))) then some true else some false) else some false) : Option Bool).bind (fun y4=>(if y4 then some (.inr (.inl false)) else some (.inl (w64 (s2 + 1))))) else some (.inr (.inr ())))
noncomputable def F_spec_l09Fits (x0 : TLog) (x1 : TItem) : Option Bool :=
 (F_spec_ItemsOf x0).bind fun v1=>(iter (S_spec_l09Fits_1 x1 v1) 0).bind (Sum.elim (fun r=>some r) (fun y3=>some (decide ((v1.length : Int) < 200))))
noncomputable def F_spec_l09Open_w3 (x0 : TLog) (x1 : Int) : Option (Bool × TLog) :=
 (F_spec_FreeSegs ({ Disk:=({ Sectors:=x0.Disk.Sectors,Cache:=x0.Disk.Cache } : TDisk),Segs:=x0.Segs,Used:=x0.Used,NextGen:=x0.NextGen,NextSeq:=x0.NextSeq,Stamp:=x0.Stamp,NextValid:=x0.NextValid } : TLog)).bind fun v1=>((if decide (x1 < 0) then some true else (if decide ((v1.length : Int) ≤ x1) then some true else some false)) : Option Bool).bind (fun y2=>(if y2 then some (false,({ Disk:=({ Sectors:=x0.Disk.Sectors,Cache:=x0.Disk.Cache } : TDisk),Segs:=x0.Segs,Used:=x0.Used,NextGen:=x0.NextGen,NextSeq:=x0.NextSeq,Stamp:=x0.Stamp,NextValid:=x0.NextValid } : TLog)) else (F_spec_FrameText ({ Gen:=x0.NextGen,Seq:=1,Body:=[115,101,103] } : TFrame)).bind fun v3=>(at? v1 0).bind fun v4=>(F_spec_SegWrite ({ Sectors:=x0.Disk.Sectors,Cache:=x0.Disk.Cache } : TDisk) v4 0 v3.1).bind fun v5=>((if !v3.2 then some true else (if !v5.2 then some true else (if decide (x0.NextGen ≥ 1000000000) then some true else some false))) : Option Bool).bind (fun y6=>(if y6 then some (false,({ Disk:=({ Sectors:=x0.Disk.Sectors,Cache:=x0.Disk.Cache } : TDisk),Segs:=x0.Segs,Used:=x0.Used,NextGen:=x0.NextGen,NextSeq:=x0.NextSeq,Stamp:=x0.Stamp,NextValid:=x0.NextValid } : TLog)) else (F_spec_FlushDisk v5.1).bind fun v7=>(app? 48 ([] : List TSeg) x0.Used).bind fun v8=>(at? v1 0).bind fun v9=>(app? 48 v8 [({ No:=v9,Gen:=x0.NextGen,End:=(v3.1.length : Int),Items:=[] } : TSeg)]).bind fun v10=>some (true,({ Disk:=({ Sectors:=v7.Sectors,Cache:=v7.Cache } : TDisk),Segs:=x0.Segs,Used:=v10,NextGen:=w64 (x0.NextGen + 1),NextSeq:=x0.NextSeq,Stamp:=x0.Stamp,NextValid:=x0.NextValid } : TLog))))))
noncomputable def S_spec_WordOk_1 (x0 : List UInt8) (s1 : Int) : Option (Int ⊕ (Bool ⊕ Unit)) :=
 (if decide (s1 < (x0.length : Int)) then ((bt? x0 s1).bind fun v4=>(if decide ((v4.toNat : Int) < 97) then some true else (bt? x0 s1).bind fun v5=>(if decide ((v5.toNat : Int) > 122) then some true else some false)) : Option Bool).bind (fun y3=>(if y3 then some (.inr (.inl false)) else some (.inl (w64 (s1 + 1))))) else some (.inr (.inr ())))
noncomputable def F_spec_WordOk (x0 : List UInt8) : Option Bool :=
 (iter (S_spec_WordOk_1 x0) 0).bind (Sum.elim (fun r=>some r) (fun y2=>(F_spec_l01In (x0.length : Int) 1 8).bind fun v7=>some v7))
noncomputable def F_spec_RecOk (x0 : TRec) : Option Bool :=
 ((F_spec_l01In x0.Kind 1 5).bind fun v2=>(if v2 then (F_spec_l01In x0.Valid 1 9999).bind fun v3=>(if v3 then some false else some true) else some true) : Option Bool).bind (fun y1=>(if y1 then some false else (if (x0.Kind == 1) then ((if (x0.Kind == 3) then some true else (if (x0.Kind == 4) then some true else (if (x0.Kind == 5) then some true else some false))) : Option Bool).bind (fun y11=>((if (x0.Kind == 3) then some true else (if (x0.Kind == 4) then some true else some false)) : Option Bool).bind (fun y12=>((F_spec_WordOk x0.User).bind fun v14=>(if v14 then (F_spec_WordOk x0.Name).bind fun v15=>(if v15 then (F_spec_l01In x0.Next 1 10000).bind fun v16=>(if v16 then some false else some true) else some true) else some true) : Option Bool).bind (fun y13=>(if y13 then some false else ((if y11 then (F_spec_l01In x0.Uid 1 9999).bind fun v18=>(if v18 then some false else some true) else (if (x0.Uid != 0) then some true else some false)) : Option Bool).bind (fun y17=>(if y17 then some false else ((if y12 then (F_spec_l01In x0.Flags 0 7).bind fun v20=>(if v20 then some false else some true) else (if (x0.Flags != 0) then some true else some false)) : Option Bool).bind (fun y19=>(if y19 then some false else (if (x0.Kind == 3) then some (decide ((x0.Text.length : Int) ≤ 100)) else some (x0.Text == [])))))))))) else ((if (x0.Kind == 3) then some true else (if (x0.Kind == 4) then some true else (if (x0.Kind == 5) then some true else some false))) : Option Bool).bind (fun y4=>((if (x0.Kind == 3) then some true else (if (x0.Kind == 4) then some true else some false)) : Option Bool).bind (fun y5=>((if (!(x0.User == [])) then some true else (if (!(x0.Name == [])) then some true else (if (x0.Next != 0) then some true else some false))) : Option Bool).bind (fun y6=>(if y6 then some false else ((if y4 then (F_spec_l01In x0.Uid 1 9999).bind fun v8=>(if v8 then some false else some true) else (if (x0.Uid != 0) then some true else some false)) : Option Bool).bind (fun y7=>(if y7 then some false else ((if y5 then (F_spec_l01In x0.Flags 0 7).bind fun v10=>(if v10 then some false else some true) else (if (x0.Flags != 0) then some true else some false)) : Option Bool).bind (fun y9=>(if y9 then some false else (if (x0.Kind == 3) then some (decide ((x0.Text.length : Int) ≤ 100)) else some (x0.Text == [])))))))))))))
noncomputable def F_spec_RecText (x0 : TRec) : Option ((List UInt8) × Bool) :=
 (F_spec_RecOk x0).bind fun v1=>(if v1 then (F_spec_l01Var x0.Valid).bind fun v2=>(cat? ([IntKind.u8.wrap x0.Kind].map ofI) v2).bind fun v3=>(F_spec_l01Var x0.Uid).bind fun v4=>(cat? v3 v4).bind fun v5=>(F_spec_l01Var x0.Next).bind fun v6=>(cat? v5 v6).bind fun v7=>(F_spec_l01Var x0.Flags).bind fun v8=>(cat? v7 v8).bind fun v9=>(F_spec_l06Short x0.User).bind fun v10=>(cat? v9 v10).bind fun v11=>(F_spec_l06Short x0.Name).bind fun v12=>(cat? v11 v12).bind fun v13=>(F_spec_l06Short x0.Text).bind fun v14=>(cat? v13 v14).bind fun v15=>some (v15,true) else some ([],false))
noncomputable def F_spec_ItemFrame (x0 : TItem) (x1 : Int) : Option (TFrame × Bool) :=
 (F_spec_RecText x0.Rec).bind fun v1=>((if !v1.2 then some true else (F_spec_FrameOk ({ Gen:=x1,Seq:=x0.Seq,Body:=v1.1 } : TFrame)).bind fun v3=>(if v3 then some false else some true)) : Option Bool).bind (fun y2=>(if y2 then some (({ Gen:=0,Seq:=0,Body:=[] } : TFrame),false) else some (({ Gen:=x1,Seq:=x0.Seq,Body:=v1.1 } : TFrame),true)))
noncomputable def F_spec_l09Append_w2 (x0 : TLog) (x1 : TItem) (x2 : Int) : Option (Bool × TLog) :=
 (at? x0.Used (w64 ((x0.Used.length : Int) - 1))).bind fun v1=>(F_spec_ItemFrame x1 v1.Gen).bind fun v2=>(F_spec_FrameText v2.1).bind fun v3=>(if !v2.2 then some (false,({ Disk:=({ Sectors:=x0.Disk.Sectors,Cache:=x0.Disk.Cache } : TDisk),Segs:=x0.Segs,Used:=x0.Used,NextGen:=x0.NextGen,NextSeq:=x0.NextSeq,Stamp:=x0.Stamp,NextValid:=x0.NextValid } : TLog)) else (if !v3.2 then some (false,({ Disk:=({ Sectors:=x0.Disk.Sectors,Cache:=x0.Disk.Cache } : TDisk),Segs:=x0.Segs,Used:=x0.Used,NextGen:=x0.NextGen,NextSeq:=x0.NextSeq,Stamp:=x0.Stamp,NextValid:=x0.NextValid } : TLog)) else (if decide (x1.Seq ≥ 1000000000) then some (false,({ Disk:=({ Sectors:=x0.Disk.Sectors,Cache:=x0.Disk.Cache } : TDisk),Segs:=x0.Segs,Used:=x0.Used,NextGen:=x0.NextGen,NextSeq:=x0.NextSeq,Stamp:=x0.Stamp,NextValid:=x0.NextValid } : TLog)) else (if decide ((w64 (v1.End + (v3.1.length : Int))) > 256) then (F_spec_l09Open_w3 ({ Disk:=({ Sectors:=x0.Disk.Sectors,Cache:=x0.Disk.Cache } : TDisk),Segs:=x0.Segs,Used:=x0.Used,NextGen:=x0.NextGen,NextSeq:=x0.NextSeq,Stamp:=x0.Stamp,NextValid:=x0.NextValid } : TLog) x2).bind fun v10=>(if v10.1 then (at? v10.2.Used (w64 ((v10.2.Used.length : Int) - 1))).bind fun v11=>(F_spec_FrameText ({ Gen:=v11.Gen,Seq:=v2.1.Seq,Body:=v2.1.Body } : TFrame)).bind fun v12=>(if !v12.2 then some (false,({ Disk:=({ Sectors:=v10.2.Disk.Sectors,Cache:=v10.2.Disk.Cache } : TDisk),Segs:=v10.2.Segs,Used:=v10.2.Used,NextGen:=v10.2.NextGen,NextSeq:=v10.2.NextSeq,Stamp:=v10.2.Stamp,NextValid:=v10.2.NextValid } : TLog)) else (if decide ((w64 (v11.End + (v12.1.length : Int))) > 256) then some (false,({ Disk:=({ Sectors:=v10.2.Disk.Sectors,Cache:=v10.2.Disk.Cache } : TDisk),Segs:=v10.2.Segs,Used:=v10.2.Used,NextGen:=v10.2.NextGen,NextSeq:=v10.2.NextSeq,Stamp:=v10.2.Stamp,NextValid:=v10.2.NextValid } : TLog)) else (F_spec_SegWrite ({ Sectors:=v10.2.Disk.Sectors,Cache:=v10.2.Disk.Cache } : TDisk) v11.No v11.End v12.1).bind fun v13=>(if !v13.2 then some (false,({ Disk:=({ Sectors:=v10.2.Disk.Sectors,Cache:=v10.2.Disk.Cache } : TDisk),Segs:=v10.2.Segs,Used:=v10.2.Used,NextGen:=v10.2.NextGen,NextSeq:=v10.2.NextSeq,Stamp:=v10.2.Stamp,NextValid:=v10.2.NextValid } : TLog)) else (F_spec_FlushDisk v13.1).bind fun v14=>(app? 96 ([] : List TItem) v11.Items).bind fun v15=>(app? 96 v15 ([x1] : List TItem)).bind fun v16=>(at? v10.2.Used (w64 ((v10.2.Used.length : Int) - 1))).bind fun v17=>(some (set' v10.2.Used (w64 ((v10.2.Used.length : Int) - 1)) ({ No:=v11.No,Gen:=v11.Gen,End:=w64 (v11.End + (v12.1.length : Int)),Items:=v16 } : TSeg))).bind fun v18=>(if decide (x1.Seq ≥ v10.2.NextSeq) then (if decide (x1.Rec.Valid ≥ v10.2.NextValid) then some (true,({ Disk:=({ Sectors:=v14.Sectors,Cache:=v14.Cache } : TDisk),Segs:=v10.2.Segs,Used:=v18,NextGen:=v10.2.NextGen,NextSeq:=w64 (x1.Seq + 1),Stamp:=v10.2.Stamp,NextValid:=w64 (x1.Rec.Valid + 1) } : TLog)) else some (true,({ Disk:=({ Sectors:=v14.Sectors,Cache:=v14.Cache } : TDisk),Segs:=v10.2.Segs,Used:=v18,NextGen:=v10.2.NextGen,NextSeq:=w64 (x1.Seq + 1),Stamp:=v10.2.Stamp,NextValid:=v10.2.NextValid } : TLog))) else (if decide (x1.Rec.Valid ≥ v10.2.NextValid) then some (true,({ Disk:=({ Sectors:=v14.Sectors,Cache:=v14.Cache } : TDisk),Segs:=v10.2.Segs,Used:=v18,NextGen:=v10.2.NextGen,NextSeq:=v10.2.NextSeq,Stamp:=v10.2.Stamp,NextValid:=w64 (x1.Rec.Valid + 1) } : TLog)) else some (true,({ Disk:=({ Sectors:=v14.Sectors,Cache:=v14.Cache } : TDisk),Segs:=v10.2.Segs,Used:=v18,NextGen:=v10.2.NextGen,NextSeq:=v10.2.NextSeq,Stamp:=v10.2.Stamp,NextValid:=v10.2.NextValid } : TLog))))))) else some (false,({ Disk:=({ Sectors:=v10.2.Disk.Sectors,Cache:=v10.2.Disk.Cache } : TDisk),Segs:=v10.2.Segs,Used:=v10.2.Used,NextGen:=v10.2.NextGen,NextSeq:=v10.2.NextSeq,Stamp:=v10.2.Stamp,NextValid:=v10.2.NextValid } : TLog))) else (F_spec_SegWrite ({ Sectors:=x0.Disk.Sectors,Cache:=x0.Disk.Cache } : TDisk) v1.No v1.End v3.1).bind fun v4=>(if !v4.2 then some (false,({ Disk:=({ Sectors:=x0.Disk.Sectors,Cache:=x0.Disk.Cache } : TDisk),Segs:=x0.Segs,Used:=x0.Used,NextGen:=x0.NextGen,NextSeq:=x0.NextSeq,Stamp:=x0.Stamp,NextValid:=x0.NextValid } : TLog)) else (F_spec_FlushDisk v4.1).bind fun v5=>(app? 96 ([] : List TItem) v1.Items).bind fun v6=>(app? 96 v6 ([x1] : List TItem)).bind fun v7=>(at? x0.Used (w64 ((x0.Used.length : Int) - 1))).bind fun v8=>(some (set' x0.Used (w64 ((x0.Used.length : Int) - 1)) ({ No:=v1.No,Gen:=v1.Gen,End:=w64 (v1.End + (v3.1.length : Int)),Items:=v7 } : TSeg))).bind fun v9=>(if decide (x1.Seq ≥ x0.NextSeq) then (if decide (x1.Rec.Valid ≥ x0.NextValid) then some (true,({ Disk:=({ Sectors:=v5.Sectors,Cache:=v5.Cache } : TDisk),Segs:=x0.Segs,Used:=v9,NextGen:=x0.NextGen,NextSeq:=w64 (x1.Seq + 1),Stamp:=x0.Stamp,NextValid:=w64 (x1.Rec.Valid + 1) } : TLog)) else some (true,({ Disk:=({ Sectors:=v5.Sectors,Cache:=v5.Cache } : TDisk),Segs:=x0.Segs,Used:=v9,NextGen:=x0.NextGen,NextSeq:=w64 (x1.Seq + 1),Stamp:=x0.Stamp,NextValid:=x0.NextValid } : TLog))) else (if decide (x1.Rec.Valid ≥ x0.NextValid) then some (true,({ Disk:=({ Sectors:=v5.Sectors,Cache:=v5.Cache } : TDisk),Segs:=x0.Segs,Used:=v9,NextGen:=x0.NextGen,NextSeq:=x0.NextSeq,Stamp:=x0.Stamp,NextValid:=w64 (x1.Rec.Valid + 1) } : TLog)) else some (true,({ Disk:=({ Sectors:=v5.Sectors,Cache:=v5.Cache } : TDisk),Segs:=x0.Segs,Used:=v9,NextGen:=x0.NextGen,NextSeq:=x0.NextSeq,Stamp:=x0.Stamp,NextValid:=x0.NextValid } : TLog)))))))))
noncomputable def S_spec_l09Log_w_1 (x0 : TL01Cur) (s3 : Int × Int × Int × Int × Int × Int × Int × Int × (List (List UInt8)) × (List TWrite) × (List TSeg)) : Option ((Int × Int × Int × Int × Int × Int × Int × Int × (List (List UInt8)) × (List TWrite) × (List TSeg)) ⊕ (Int × Int × Int × Int × Int × Int × Int × (List (List UInt8)) × (List TWrite) × (List TSeg))) :=
 (F_spec_l01Below_w ({ mB:=x0.mB,mI:=s3.2.1,mH:=s3.2.2.1 } : TL01Cur) 34).bind fun v5=>(if decide (s3.1 < v5.1) then (F_spec_l06Rec_w ({ mB:=x0.mB,mI:=v5.2.mI,mH:=v5.2.mH } : TL01Cur)).bind fun v6=>(F_spec_l09Fits ({ Disk:=({ Sectors:=s3.2.2.2.2.2.2.2.2.1,Cache:=s3.2.2.2.2.2.2.2.2.2.1 } : TDisk),Segs:=s3.2.2.2.1,Used:=s3.2.2.2.2.2.2.2.2.2.2,NextGen:=s3.2.2.2.2.1,NextSeq:=s3.2.2.2.2.2.1,Stamp:=s3.2.2.2.2.2.2.1,NextValid:=s3.2.2.2.2.2.2.2.1 } : TLog) ({ Seq:=s3.2.2.2.2.2.1,Rec:=v6.1 } : TItem)).bind fun v7=>(if v7 then (F_spec_l09Append_w2 ({ Disk:=({ Sectors:=s3.2.2.2.2.2.2.2.2.1,Cache:=s3.2.2.2.2.2.2.2.2.2.1 } : TDisk),Segs:=s3.2.2.2.1,Used:=s3.2.2.2.2.2.2.2.2.2.2,NextGen:=s3.2.2.2.2.1,NextSeq:=s3.2.2.2.2.2.1,Stamp:=s3.2.2.2.2.2.2.1,NextValid:=s3.2.2.2.2.2.2.2.1 } : TLog) ({ Seq:=s3.2.2.2.2.2.1,Rec:=v6.1 } : TItem) 1).bind fun v8=>some (.inl (w64 (s3.1 + 1),v6.2.mI,v6.2.mH,v8.2.Segs,v8.2.NextGen,v8.2.NextSeq,v8.2.Stamp,v8.2.NextValid,v8.2.Disk.Sectors,v8.2.Disk.Cache,v8.2.Used)) else some (.inl (w64 (s3.1 + 1),v6.2.mI,v6.2.mH,s3.2.2.2.1,s3.2.2.2.2.1,s3.2.2.2.2.2.1,s3.2.2.2.2.2.2.1,s3.2.2.2.2.2.2.2.1,s3.2.2.2.2.2.2.2.2.1,s3.2.2.2.2.2.2.2.2.2.1,s3.2.2.2.2.2.2.2.2.2.2))) else some (.inr (v5.2.mI,v5.2.mH,s3.2.2.2.1,s3.2.2.2.2.1,s3.2.2.2.2.2.1,s3.2.2.2.2.2.2.1,s3.2.2.2.2.2.2.2.1,s3.2.2.2.2.2.2.2.2.1,s3.2.2.2.2.2.2.2.2.2.1,s3.2.2.2.2.2.2.2.2.2.2)))
noncomputable def F_spec_l09Log_w (x0 : TL01Cur) : Option (TLog × TL01Cur) :=
 (F_spec_l01Below_w ({ mB:=x0.mB,mI:=x0.mI,mH:=x0.mH } : TL01Cur) 4).bind fun v1=>(F_spec_FormatDisk (w64 (5 + v1.1))).bind fun v2=>(iter (S_spec_l09Log_w_1 x0) (0,v1.2.mI,v1.2.mH,v2.1.Segs,v2.1.NextGen,v2.1.NextSeq,v2.1.Stamp,v2.1.NextValid,v2.1.Disk.Sectors,v2.1.Disk.Cache,v2.1.Used)).bind (fun y9=>some (({ Disk:=({ Sectors:=y9.2.2.2.2.2.2.2.1,Cache:=y9.2.2.2.2.2.2.2.2.1 } : TDisk),Segs:=y9.2.2.1,Used:=y9.2.2.2.2.2.2.2.2.2,NextGen:=y9.2.2.2.1,NextSeq:=y9.2.2.2.2.1,Stamp:=y9.2.2.2.2.2.1,NextValid:=y9.2.2.2.2.2.2.1 } : TLog),({ mB:=x0.mB,mI:=y9.1,mH:=y9.2.1 } : TL01Cur)))
noncomputable def F_spec_DrawLog (x0 : List Int) : Option TLog :=
 (F_spec_l01New_w x0).bind fun v2=>(F_spec_l09Log_w ({ mB:=x0,mI:=v2.mI,mH:=v2.mH } : TL01Cur)).bind fun v3=>some ({ Disk:=({ Sectors:=v3.1.Disk.Sectors,Cache:=v3.1.Disk.Cache } : TDisk),Segs:=v3.1.Segs,Used:=v3.1.Used,NextGen:=v3.1.NextGen,NextSeq:=v3.1.NextSeq,Stamp:=v3.1.Stamp,NextValid:=v3.1.NextValid } : TLog)
noncomputable def F_laws_FnChecksTorn (x0 : List Int) : Option Bool :=
 (F_laws_big x0).bind fun v1=>(if v1 then some true else (F_spec_DrawLog x0).bind fun v2=>(F_spec_CheckOf v2).bind fun v3=>(F_spec_CheckText v3).bind fun v4=>(F_spec_WriteBytes v2.Disk (w64 (4 * (Int.tmod v3.Stamp 2))) 0 v4.1).bind fun v5=>(F_spec_DrawPlaces x0).bind fun v6=>(F_spec_DrawKeep x0).bind fun v7=>(at? v6 0).bind fun v8=>(F_impl_CrashDisk v5.1 v7 v8).bind fun v9=>(F_impl_NewestCheck v9).bind fun v10=>(F_spec_NewestCheck v2.Disk).bind fun v11=>(F_spec_CheckText v10.1).bind fun v12=>(F_spec_CheckText v11.1).bind fun v13=>(F_spec_SectorText v9 (w64 (4 * (Int.tmod v3.Stamp 2))) 4).bind fun v14=>(F_spec_ReadCheck v14.1).bind fun v15=>(F_spec_CheckText v15.1).bind fun v16=>((if v5.2 then (if v10.2 then (if (v12.1 == v4.1) then some true else (if (v12.1 == v13.1) then some true else (if v15.2 then some (v12.1 == v16.1) else some false))) else some false) else some false) : Option Bool).bind (fun y17=>some y17))
end Go.Proofs.Ytldndhdohlfpgaa.V
