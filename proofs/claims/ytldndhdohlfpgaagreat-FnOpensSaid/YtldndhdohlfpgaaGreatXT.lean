/- Records, and what the functions compute. -/
import Derived.Test.YtldndhdohlfpgaaGreatXE
/- Records, and how they lie in cells. -/
namespace Go.Proofs.YtldndhdohlfpgaaGreat.V
open Go Go.Proofs Go.RowKit
set_option maxRecDepth 100000
structure TWrite where
 At : Int
 Text : List UInt8
def A2 (_ : Bool) (x : TWrite) : List AV:=[.j x.At,.str x.Text]
theorem Acb (o : Bool) (x : TWrite) : ∀ v ∈ A2 o x,Scl v:=(fac .int (fac .str fan))
theorem Ef : FlatOk A2 2:=⟨⟨fun _ _=>rfl,by omega,fun _ _=>(fac .int (fac .str fan)),fun _=>(fac .int (fac .str fan)),fun _=>(.cons .refl (.cons .refl .nil))⟩,fun _=>rfl,fun _ _=>(fac rfl (fac rfl fan)),fun _ _=>(fac rfl (fac rfl fan))⟩
theorem A1 : EncOk A2 2:=Ef.toEncOk
abbrev Hz (l : List TWrite) : AV:=.lst false 2 (fl (A2 false) l) l.length
structure TDisk where
 Sectors : List (List UInt8)
 Cache : List TWrite
def A6 (o : Bool) (x : TDisk) : List AV:=[.lst o 1 (fl (encS o) x.Sectors) x.Sectors.length,.lst o 2 (fl (A2 o) x.Cache) x.Cache.length]
theorem C9 : EncOk A6 2:=⟨fun _ _=>rfl,by omega,fun _ _=>(fac (.lst (ekS.fdat _ _)) (fac (.lst (A1.fdat _ _)) fan)),fun _=>(fac (.lst (ekS.fown _)) (fac (.lst (A1.fown _)) fan)),fun _=>(.cons (ekS.fflag _).lst (.cons (A1.fflag _).lst .nil))⟩
abbrev L_TDisk (l : List TDisk) : AV:=.lst false 2 (fl (A6 false) l) l.length
structure TRec where
 Kind : Int
 Valid : Int
 Uid : Int
 Next : Int
 Flags : Int
 User : List UInt8
 Name : List UInt8
 Text : List UInt8
def F7 (_ : Bool) (x : TRec) : List AV:=[.j x.Kind,.j x.Valid,.j x.Uid,.j x.Next,.j x.Flags,.str x.User,.str x.Name,.str x.Text]
theorem Tx (o : Bool) (x : TRec) : ∀ v ∈ F7 o x,Scl v:=(fac .int (fac .int (fac .int (fac .int (fac .int (fac .str (fac .str (fac .str fan))))))))
theorem Ab9 : FlatOk F7 8:=⟨⟨fun _ _=>rfl,by omega,fun _ _=>(fac .int (fac .int (fac .int (fac .int (fac .int (fac .str (fac .str (fac .str fan)))))))),fun _=>(fac .int (fac .int (fac .int (fac .int (fac .int (fac .str (fac .str (fac .str fan)))))))),fun _=>(.cons .refl (.cons .refl (.cons .refl (.cons .refl (.cons .refl (.cons .refl (.cons .refl (.cons .refl .nil))))))))⟩,fun _=>rfl,fun _ _=>(fac rfl (fac rfl (fac rfl (fac rfl (fac rfl (fac rfl (fac rfl (fac rfl fan)))))))),fun _ _=>(fac rfl (fac rfl (fac rfl (fac rfl (fac rfl (fac rfl (fac rfl (fac rfl fan))))))))⟩
theorem ek_TRec : EncOk F7 8:=Ab9.toEncOk
abbrev L_TRec (l : List TRec) : AV:=.lst false 8 (fl (F7 false) l) l.length
structure TItem where
 Seq : Int
 Rec : TRec
def B2 (_ : Bool) (x : TItem) : List AV:=[.j x.Seq,.j x.Rec.Kind,.j x.Rec.Valid,.j x.Rec.Uid,.j x.Rec.Next,.j x.Rec.Flags,.str x.Rec.User,.str x.Rec.Name,.str x.Rec.Text]
theorem Acd (o : Bool) (x : TItem) : ∀ v ∈ B2 o x,Scl v:=(fac .int (fac .int (fac .int (fac .int (fac .int (fac .int (fac .str (fac .str (fac .str fan)))))))))
theorem Cl : FlatOk B2 9:=⟨⟨fun _ _=>rfl,by omega,fun _ _=>(fac .int (fac .int (fac .int (fac .int (fac .int (fac .int (fac .str (fac .str (fac .str fan))))))))),fun _=>(fac .int (fac .int (fac .int (fac .int (fac .int (fac .int (fac .str (fac .str (fac .str fan))))))))),fun _=>(.cons .refl (.cons .refl (.cons .refl (.cons .refl (.cons .refl (.cons .refl (.cons .refl (.cons .refl (.cons .refl .nil)))))))))⟩,fun _=>rfl,fun _ _=>(fac rfl (fac rfl (fac rfl (fac rfl (fac rfl (fac rfl (fac rfl (fac rfl (fac rfl fan))))))))),fun _ _=>(fac rfl (fac rfl (fac rfl (fac rfl (fac rfl (fac rfl (fac rfl (fac rfl (fac rfl fan)))))))))⟩
theorem B4 : EncOk B2 9:=Cl.toEncOk
abbrev J9 (l : List TItem) : AV:=.lst false 9 (fl (B2 false) l) l.length
structure TSeg where
 No : Int
 Gen : Int
 End : Int
 Items : List TItem
def A8 (o : Bool) (x : TSeg) : List AV:=[.j x.No,.j x.Gen,.j x.End,.lst o 9 (fl (B2 o) x.Items) x.Items.length]
theorem A9 : EncOk A8 4:=⟨fun _ _=>rfl,by omega,fun _ _=>(fac .int (fac .int (fac .int (fac (.lst (B4.fdat _ _)) fan)))),fun _=>(fac .int (fac .int (fac .int (fac (.lst (B4.fown _)) fan)))),fun _=>(.cons .refl (.cons .refl (.cons .refl (.cons (B4.fflag _).lst .nil))))⟩
abbrev Fa (l : List TSeg) : AV:=.lst false 4 (fl (A8 false) l) l.length
structure TLog where
 Disk : TDisk
 Segs : Int
 Used : List TSeg
 NextGen : Int
 NextSeq : Int
 Stamp : Int
 NextValid : Int
def B5 (o : Bool) (x : TLog) : List AV:=[.lst o 1 (fl (encS o) x.Disk.Sectors) x.Disk.Sectors.length,.lst o 2 (fl (A2 o) x.Disk.Cache) x.Disk.Cache.length,.j x.Segs,.lst o 4 (fl (A8 o) x.Used) x.Used.length,.j x.NextGen,.j x.NextSeq,.j x.Stamp,.j x.NextValid]
theorem Jq : EncOk B5 8:=⟨fun _ _=>rfl,by omega,fun _ _=>(fac (.lst (ekS.fdat _ _)) (fac (.lst (A1.fdat _ _)) (fac .int (fac (.lst (A9.fdat _ _)) (fac .int (fac .int (fac .int (fac .int fan)))))))),fun _=>(fac (.lst (ekS.fown _)) (fac (.lst (A1.fown _)) (fac .int (fac (.lst (A9.fown _)) (fac .int (fac .int (fac .int (fac .int fan)))))))),fun _=>(.cons (ekS.fflag _).lst (.cons (A1.fflag _).lst (.cons .refl (.cons (A9.fflag _).lst (.cons .refl (.cons .refl (.cons .refl (.cons .refl .nil))))))))⟩
abbrev L_TLog (l : List TLog) : AV:=.lst false 8 (fl (B5 false) l) l.length
structure TL01Cur where
 mB : List Int
 mI : Int
 mH : Int
def Wx (o : Bool) (x : TL01Cur) : List AV:=[.lst o 1 (fl (encB o) x.mB) x.mB.length,.j x.mI,.j x.mH]
theorem Aby : EncOk Wx 3:=⟨fun _ _=>rfl,by omega,fun _ _=>(fac (.lst (ekB.fdat _ _)) (fac .int (fac .int fan))),fun _=>(fac (.lst (ekB.fown _)) (fac .int (fac .int fan))),fun _=>(.cons (ekB.fflag _).lst (.cons .refl (.cons .refl .nil)))⟩
abbrev Aca (l : List TL01Cur) : AV:=.lst false 3 (fl (Wx false) l) l.length
structure TFrame where
 Gen : Int
 Seq : Int
 Body : List UInt8
def B9 (_ : Bool) (x : TFrame) : List AV:=[.j x.Gen,.j x.Seq,.str x.Body]
theorem Ac6 (o : Bool) (x : TFrame) : ∀ v ∈ B9 o x,Scl v:=(fac .int (fac .int (fac .str fan)))
theorem Ly : FlatOk B9 3:=⟨⟨fun _ _=>rfl,by omega,fun _ _=>(fac .int (fac .int (fac .str fan))),fun _=>(fac .int (fac .int (fac .str fan))),fun _=>(.cons .refl (.cons .refl (.cons .refl .nil)))⟩,fun _=>rfl,fun _ _=>(fac rfl (fac rfl (fac rfl fan))),fun _ _=>(fac rfl (fac rfl (fac rfl fan)))⟩
theorem K4 : EncOk B9 3:=Ly.toEncOk
abbrev Kv (l : List TFrame) : AV:=.lst false 3 (fl (B9 false) l) l.length
structure TRef where
 No : Int
 Gen : Int
def L6 (_ : Bool) (x : TRef) : List AV:=[.j x.No,.j x.Gen]
theorem sc_TRef (o : Bool) (x : TRef) : ∀ v ∈ L6 o x,Scl v:=(fac .int (fac .int fan))
theorem A52 : FlatOk L6 2:=⟨⟨fun _ _=>rfl,by omega,fun _ _=>(fac .int (fac .int fan)),fun _=>(fac .int (fac .int fan)),fun _=>(.cons .refl (.cons .refl .nil))⟩,fun _=>rfl,fun _ _=>(fac rfl (fac rfl fan)),fun _ _=>(fac rfl (fac rfl fan))⟩
theorem V3 : EncOk L6 2:=A52.toEncOk
abbrev L_TRef (l : List TRef) : AV:=.lst false 2 (fl (L6 false) l) l.length
structure TCheck where
 Stamp : Int
 NextGen : Int
 NextSeq : Int
 NextValid : Int
 Refs : List TRef
def G6 (o : Bool) (x : TCheck) : List AV:=[.j x.Stamp,.j x.NextGen,.j x.NextSeq,.j x.NextValid,.lst o 2 (fl (L6 o) x.Refs) x.Refs.length]
theorem A3y : EncOk G6 5:=⟨fun _ _=>rfl,by omega,fun _ _=>(fac .int (fac .int (fac .int (fac .int (fac (.lst (V3.fdat _ _)) fan))))),fun _=>(fac .int (fac .int (fac .int (fac .int (fac (.lst (V3.fown _)) fan))))),fun _=>(.cons .refl (.cons .refl (.cons .refl (.cons .refl (.cons (V3.fflag _).lst .nil)))))⟩
abbrev Ach (l : List TCheck) : AV:=.lst false 5 (fl (G6 false) l) l.length
structure TL06Cur where
 mText : List UInt8
 mAt : Int
 mBad : Bool
def Gw (_ : Bool) (x : TL06Cur) : List AV:=[.str x.mText,.j x.mAt,.bool x.mBad]
theorem Abz (o : Bool) (x : TL06Cur) : ∀ v ∈ Gw o x,Scl v:=(fac .str (fac .int (fac .bool fan)))
theorem A6w : FlatOk Gw 3:=⟨⟨fun _ _=>rfl,by omega,fun _ _=>(fac .str (fac .int (fac .bool fan))),fun _=>(fac .str (fac .int (fac .bool fan))),fun _=>(.cons .refl (.cons .refl (.cons .refl .nil)))⟩,fun _=>rfl,fun _ _=>(fac rfl (fac rfl (fac rfl fan))),fun _ _=>(fac rfl (fac rfl (fac rfl fan)))⟩
theorem Abu : EncOk Gw 3:=A6w.toEncOk
abbrev Ac8 (l : List TL06Cur) : AV:=.lst false 3 (fl (Gw false) l) l.length
def A88 (x : TWrite) : Prop:=((Lit.int .i64 x.At).wf = true) ∧ (x.Text.length ≤ maxLen) ∧ True
def Aab (x : TDisk) : Prop:=(x.Sectors.length ≤ maxLen ∧ ∀ a ∈ x.Sectors,a.length ≤ maxLen) ∧ (x.Cache.length ≤ maxLen ∧ ∀ a ∈ x.Cache,A88 a) ∧ True
def Ab0 (x : TRec) : Prop:=((Lit.int .i64 x.Kind).wf = true) ∧ ((Lit.int .i64 x.Valid).wf = true) ∧ ((Lit.int .i64 x.Uid).wf = true) ∧ ((Lit.int .i64 x.Next).wf = true) ∧ ((Lit.int .i64 x.Flags).wf = true) ∧ (x.User.length ≤ maxLen) ∧ (x.Name.length ≤ maxLen) ∧ (x.Text.length ≤ maxLen) ∧ True
def Aa7 (x : TItem) : Prop:=((Lit.int .i64 x.Seq).wf = true) ∧ (Ab0 x.Rec) ∧ True
def Abc (x : TSeg) : Prop:=((Lit.int .i64 x.No).wf = true) ∧ ((Lit.int .i64 x.Gen).wf = true) ∧ ((Lit.int .i64 x.End).wf = true) ∧ (x.Items.length ≤ maxLen ∧ ∀ a ∈ x.Items,Aa7 a) ∧ True
def wf_TLog (x : TLog) : Prop:=(Aab x.Disk) ∧ ((Lit.int .i64 x.Segs).wf = true) ∧ (x.Used.length ≤ maxLen ∧ ∀ a ∈ x.Used,Abc a) ∧ ((Lit.int .i64 x.NextGen).wf = true) ∧ ((Lit.int .i64 x.NextSeq).wf = true) ∧ ((Lit.int .i64 x.Stamp).wf = true) ∧ ((Lit.int .i64 x.NextValid).wf = true) ∧ True
def Abw (x : TL01Cur) : Prop:=(x.mB.length ≤ maxLen ∧ ∀ a ∈ x.mB,(Lit.int .u8 a).wf = true) ∧ ((Lit.int .i64 x.mI).wf = true) ∧ ((Lit.int .i64 x.mH).wf = true) ∧ True
def Ac7 (x : TFrame) : Prop:=((Lit.int .i64 x.Gen).wf = true) ∧ ((Lit.int .i64 x.Seq).wf = true) ∧ (x.Body.length ≤ maxLen) ∧ True
def Aba (x : TRef) : Prop:=((Lit.int .i64 x.No).wf = true) ∧ ((Lit.int .i64 x.Gen).wf = true) ∧ True
def Ac9 (x : TCheck) : Prop:=((Lit.int .i64 x.Stamp).wf = true) ∧ ((Lit.int .i64 x.NextGen).wf = true) ∧ ((Lit.int .i64 x.NextSeq).wf = true) ∧ ((Lit.int .i64 x.NextValid).wf = true) ∧ (x.Refs.length ≤ maxLen ∧ ∀ a ∈ x.Refs,Aba a) ∧ True
def Ac2 (x : TL06Cur) : Prop:=(x.mText.length ≤ maxLen) ∧ ((Lit.int .i64 x.mAt).wf = true) ∧ (True) ∧ True
end Go.Proofs.YtldndhdohlfpgaaGreat.V
/- What the functions compute. -/
namespace Go.Proofs.YtldndhdohlfpgaaGreat.V
open Go Go.Proofs Go.RowKit
set_option maxRecDepth 100000
noncomputable def Aj (x0 : List Int) (s1 : Int × Int) : Option ((Int × Int) ⊕ Int) :=
 ((if decide (s1.2 < (x0.length : Int)) then (if decide (s1.2 < 4000) then some true else some false) else some false) : Option Bool).bind (fun y3=>(if y3 then (at? x0 s1.2).bind fun v4=>some (.inl (andv .i64 (w64 ((w64 ((w64 (s1.1 * 131)) + (w64 v4))) + 7)) 1073741823,w64 (s1.2 + 1))) else some (.inr s1.1)))
noncomputable def T9 (x0 : List Int) : Option TL01Cur :=
 (iter (Aj x0) (w64 (76001 + (x0.length : Int)),0)).bind (fun y5=>some ({ mB:=x0,mI:=0,mH:=y5 } : TL01Cur))
noncomputable def J5 (x0 : TL01Cur) : Option (Int × TL01Cur) :=
 (if decide (x0.mI < (x0.mB.length : Int)) then (at? x0.mB x0.mI).bind fun v1=>some (andv .i64 (w64 ((andv .i64 (xorv .i64 (shrv .i64 (w64 ((w64 (x0.mH * 6364136223846793005)) + 1442695040888963407)) 33) (shrv .i64 (w64 ((w64 (x0.mH * 6364136223846793005)) + 1442695040888963407)) 45)) 255) + (w64 v1))) 255,({ mB:=x0.mB,mI:=w64 (x0.mI + 1),mH:=w64 ((w64 (x0.mH * 6364136223846793005)) + 1442695040888963407) } : TL01Cur)) else some (andv .i64 (xorv .i64 (shrv .i64 (w64 ((w64 (x0.mH * 6364136223846793005)) + 1442695040888963407)) 33) (shrv .i64 (w64 ((w64 (x0.mH * 6364136223846793005)) + 1442695040888963407)) 45)) 255,({ mB:=x0.mB,mI:=x0.mI,mH:=w64 ((w64 (x0.mH * 6364136223846793005)) + 1442695040888963407) } : TL01Cur)))
noncomputable def C6 (x0 : TL01Cur) (x1 : Int) : Option (Int × TL01Cur) :=
 (if decide (x1 ≤ 0) then some (0,({ mB:=x0.mB,mI:=x0.mI,mH:=x0.mH } : TL01Cur)) else (if decide (x1 ≤ 256) then (J5 ({ mB:=x0.mB,mI:=x0.mI,mH:=x0.mH } : TL01Cur)).bind fun v6=>(rem? v6.1 x1).bind fun v7=>some (v7,({ mB:=x0.mB,mI:=v6.2.mI,mH:=v6.2.mH } : TL01Cur)) else (J5 ({ mB:=x0.mB,mI:=x0.mI,mH:=x0.mH } : TL01Cur)).bind fun v1=>(J5 ({ mB:=x0.mB,mI:=v1.2.mI,mH:=v1.2.mH } : TL01Cur)).bind fun v2=>(J5 ({ mB:=x0.mB,mI:=v2.2.mI,mH:=v2.2.mH } : TL01Cur)).bind fun v3=>(J5 ({ mB:=x0.mB,mI:=v3.2.mI,mH:=v3.2.mH } : TL01Cur)).bind fun v4=>(rem? (w64 ((w64 ((w64 ((w64 (v1.1 * 16777216)) + (w64 (v2.1 * 65536)))) + (w64 (v3.1 * 256)))) + v4.1)) x1).bind fun v5=>some (v5,({ mB:=x0.mB,mI:=v4.2.mI,mH:=v4.2.mH } : TL01Cur))))
noncomputable def V4 (x0 : List Int) (s4 : Int × Int × Int × (List Int)) : Option ((Int × Int × Int × (List Int)) ⊕ (List Int)) :=
 (if decide (s4.1 < 12) then (C6 ({ mB:=x0,mI:=s4.2.1,mH:=s4.2.2.1 } : TL01Cur) 10000).bind fun v6=>(app? 8 s4.2.2.2 [v6.1]).bind fun v7=>some (.inl (w64 (s4.1 + 1),v6.2.mI,v6.2.mH,v7)) else some (.inr s4.2.2.2))
noncomputable def U6 (x0 : List Int) : Option (List Int) :=
 (T9 x0).bind fun v2=>(J5 ({ mB:=x0,mI:=v2.mI,mH:=v2.mH } : TL01Cur)).bind fun v3=>(iter (V4 x0) (0,v3.2.mI,v3.2.mH,([] : List Int))).bind (fun y8=>some y8)
noncomputable def Q5 (x0 : TSeg) (x1 : Int) : Option Bool :=
 some (x0.No == x1)
noncomputable def H9 (x0 : List TSeg) (x1 : Int) (s1 : Int) : Option (Int ⊕ (Int ⊕ Unit)) :=
 (if decide (s1 < (x0.length : Int)) then (at? x0 s1).bind fun v3=>(Q5 v3 x1).bind fun v4=>(if v4 then some (.inr (.inl s1)) else some (.inl (w64 (s1 + 1)))) else some (.inr (.inr ())))
noncomputable def F8 (x0 : List TSeg) (x1 : Int) : Option Int :=
 (iter (H9 x0 x1) 0).bind (Sum.elim (fun r=>some r) (fun y2=>some (-1)))
noncomputable def E9 (x0 : List TSeg) (x1 : Int) : Option Bool :=
 (F8 x0 x1).bind fun v1=>some (decide (v1 ≥ 0))
noncomputable def Ah (x0 : TLog) (s1 : Int × (List Int)) : Option ((Int × (List Int)) ⊕ (List Int)) :=
 (if decide (s1.1 < (if 11 < x0.Segs then 11 else x0.Segs)) then (E9 x0.Used s1.1).bind fun v3=>(if v3 then some (.inl (w64 (s1.1 + 1),s1.2)) else (app? 8 s1.2 [s1.1]).bind fun v4=>some (.inl (w64 (s1.1 + 1),v4))) else some (.inr s1.2))
noncomputable def Q2 (x0 : TLog) : Option (List Int) :=
 (iter (Ah x0) (0,([] : List Int))).bind (fun y5=>some y5)
noncomputable def Bs (x0 : TLog) (s1 : Int × (List TItem)) : Option ((Int × (List TItem)) ⊕ (List TItem)) :=
 (if decide (s1.1 < (x0.Used.length : Int)) then (at? x0.Used s1.1).bind fun v3=>(app? 96 s1.2 v3.Items).bind fun v4=>some (.inl (w64 (s1.1 + 1),v4)) else some (.inr s1.2))
noncomputable def Y3 (x0 : TLog) : Option (List TItem) :=
 (iter (Bs x0) (0,([] : List TItem))).bind (fun y5=>some y5)
noncomputable def W0 (x0 : TSeg) (x1 : TSeg) : Option Bool :=
 some (x0.No == x1.No)
noncomputable def J7 (x0 : List TSeg) (x1 : TSeg) (s1 : Int) : Option (Int ⊕ (Int ⊕ Unit)) :=
 (if decide (s1 < (x0.length : Int)) then (at? x0 s1).bind fun v3=>(W0 v3 x1).bind fun v4=>(if v4 then some (.inr (.inl s1)) else some (.inl (w64 (s1 + 1)))) else some (.inr (.inr ())))
noncomputable def H7 (x0 : List TSeg) (x1 : TSeg) : Option Int :=
 (iter (J7 x0 x1) 0).bind (Sum.elim (fun r=>some r) (fun y2=>some (-1)))
noncomputable def E3 (x0 : List TSeg) (x1 : TSeg) : Option Bool :=
 (H7 x0 x1).bind fun v1=>some (decide (v1 ≥ 0))
noncomputable def T8 (x0 : List UInt8) : Option Bool :=
 some ((x0.length : Int) != 32)
noncomputable def H4 (x0 : List (List UInt8)) (s1 : Int) : Option (Int ⊕ (Int ⊕ Unit)) :=
 (if decide (s1 < (x0.length : Int)) then (at? x0 s1).bind fun v3=>(T8 v3).bind fun v4=>(if v4 then some (.inr (.inl s1)) else some (.inl (w64 (s1 + 1)))) else some (.inr (.inr ())))
noncomputable def F1 (x0 : List (List UInt8)) : Option Int :=
 (iter (H4 x0) 0).bind (Sum.elim (fun r=>some r) (fun y2=>some (-1)))
noncomputable def E6 (x0 : List (List UInt8)) : Option Bool :=
 (F1 x0).bind fun v1=>some (decide (v1 ≥ 0))
noncomputable def D9 (x0 : Int) (x1 : Int) (x2 : Int) : Option Bool :=
 (if decide (x0 ≥ x1) then some (decide (x0 ≤ x2)) else some false)
noncomputable def P3 (x0 : TWrite) (x1 : TDisk) : Option Bool :=
 (D9 x0.At 0 (w64 ((x1.Sectors.length : Int) - 1))).bind fun v1=>(if v1 then some ((x0.Text.length : Int) != 32) else some true)
noncomputable def H8 (x0 : List TWrite) (x1 : TDisk) (s1 : Int) : Option (Int ⊕ (Int ⊕ Unit)) :=
 (if decide (s1 < (x0.length : Int)) then (at? x0 s1).bind fun v3=>(P3 v3 x1).bind fun v4=>(if v4 then some (.inr (.inl s1)) else some (.inl (w64 (s1 + 1)))) else some (.inr (.inr ())))
noncomputable def F6 (x0 : List TWrite) (x1 : TDisk) : Option Int :=
 (iter (H8 x0 x1) 0).bind (Sum.elim (fun r=>some r) (fun y2=>some (-1)))
noncomputable def E7 (x0 : List TWrite) (x1 : TDisk) : Option Bool :=
 (F6 x0 x1).bind fun v1=>some (decide (v1 ≥ 0))
noncomputable def R2 (x0 : TDisk) : Option Bool :=
 ((D9 (x0.Sectors.length : Int) 1 100).bind fun v2=>(if v2 then (if decide ((x0.Cache.length : Int) > 60) then some true else some false) else some true) : Option Bool).bind (fun y1=>(if y1 then some false else (E6 x0.Sectors).bind fun v3=>(if v3 then some false else (E7 x0.Cache x0).bind fun v4=>some (!v4))))
noncomputable def En (x0 : TDisk) : Option Int :=
 (D9 (w64 (Int.tdiv (w64 ((x0.Sectors.length : Int) - 8)) 8)) 5 11).bind fun v1=>(if v1 then some (w64 (Int.tdiv (w64 ((x0.Sectors.length : Int) - 8)) 8)) else some 0)
noncomputable def M8 (x0 : List UInt8) (x1 : Int) (s2 : Int × Int) : Option ((Int × Int) ⊕ ((Int × Int × Bool) ⊕ Unit)) :=
 ((if decide (s2.2 < 5) then (if decide ((w64 (x1 + s2.2)) < (x0.length : Int)) then some true else some false) else some false) : Option Bool).bind (fun y4=>(if y4 then (bt? x0 (w64 (x1 + s2.2))).bind fun v5=>(shl? .i64 (andv .i64 (w64 (v5.toNat : Int)) 127) (w64 (7 * s2.2))).bind fun v6=>(if decide ((w64 (v5.toNat : Int)) > 127) then some (.inl (orv .i64 s2.1 v6,w64 (s2.2 + 1))) else ((if ((w64 (v5.toNat : Int)) == 0) then (if decide (s2.2 > 0) then some true else (if decide ((orv .i64 s2.1 v6) > 1000000000) then some true else some false)) else (if decide ((orv .i64 s2.1 v6) > 1000000000) then some true else some false)) : Option Bool).bind (fun y7=>(if y7 then some (.inr (.inl (0,0,false))) else some (.inr (.inl (orv .i64 s2.1 v6,w64 ((w64 (x1 + s2.2)) + 1),true)))))) else some (.inr (.inr ()))))
noncomputable def J2 (x0 : List UInt8) (x1 : Int) : Option (Int × Int × Bool) :=
 (D9 x1 0 (x0.length : Int)).bind fun v1=>(if v1 then (iter (M8 x0 x1) (0,0)).bind (Sum.elim (fun r=>some r) (fun y3=>some (0,0,false))) else some (0,0,false))
noncomputable def K3 (x0 : List UInt8) (x1 : Int) : Option ((List UInt8) × Int × Bool) :=
 (J2 x0 x1).bind fun v1=>((if !v1.2.2 then some true else (if decide (v1.1 > 20000) then some true else (if decide (v1.1 > (w64 ((x0.length : Int) - v1.2.1))) then some true else some false))) : Option Bool).bind (fun y2=>(if y2 then some ([],0,false) else (sub? x0 v1.2.1 (w64 (v1.2.1 + v1.1))).bind fun v3=>some (v3,w64 (v1.2.1 + v1.1),true)))
noncomputable def T0 (x0 : TFrame) : Option Bool :=
 ((D9 x0.Gen 1 1000000000).bind fun v2=>(if v2 then (D9 x0.Seq 1 1000000000).bind fun v3=>(if v3 then (D9 (x0.Body.length : Int) 1 180).bind fun v4=>some v4 else some false) else some false) : Option Bool).bind (fun y1=>some y1)
noncomputable def X8 (s4 : Int × Int) : Option ((Int × Int) ⊕ Int) :=
 (if decide (s4.2 < 8) then (if ((andv .u32 s4.1 1) == 1) then some (.inl (xorv .u32 (shrv .u32 s4.1 1) 3558460437,w64 (s4.2 + 1))) else some (.inl (shrv .u32 s4.1 1,w64 (s4.2 + 1)))) else some (.inr s4.1))
noncomputable def X7 (x1 : List UInt8) (s1 : Int × Int) : Option ((Int × Int) ⊕ Int) :=
 (if decide (s1.2 < (x1.length : Int)) then (bt? x1 s1.2).bind fun v3=>(iter (X8) (xorv .u32 s1.1 (IntKind.u32.wrap (v3.toNat : Int)),0)).bind (fun y6=>some (.inl (y6,w64 (s1.2 + 1)))) else some (.inr s1.1))
noncomputable def Au (x0 : Int) (x1 : List UInt8) : Option Int :=
 (iter (X7 x1) (x0,0)).bind (fun y7=>some y7)
noncomputable def Dw (x0 : List UInt8) : Option Int :=
 (Au 4294967295 x0).bind fun v1=>some v1
noncomputable def Ev (x0 : List UInt8) : Option (List UInt8) :=
 (Dw x0).bind fun v1=>some ([IntKind.u8.wrap (shrv .u32 v1 24),IntKind.u8.wrap (shrv .u32 v1 16),IntKind.u8.wrap (shrv .u32 v1 8),IntKind.u8.wrap v1].map ofI)
noncomputable def Ci (x0 : List UInt8) : Option ((List UInt8) × Bool) :=
 (if decide ((x0.length : Int) > 20000) then some ([],false) else (Ev x0).bind fun v1=>(cat? x0 v1).bind fun v2=>some (v2,true))
noncomputable def R7 (s1 : Int × (List Int)) : Option ((Int × (List Int)) ⊕ (Int × (List Int))) :=
 (if decide (s1.1 > 127) then (app? 1 s1.2 [IntKind.u8.wrap (orv .i64 (andv .i64 s1.1 127) 128)]).bind fun v3=>some (.inl (shrv .i64 s1.1 7,v3)) else some (.inr (s1.1,s1.2)))
noncomputable def T1 (x0 : Int) : Option (List UInt8) :=
 (iter (R7) (x0,([] : List Int))).bind (fun y4=>(app? 1 y4.2 [IntKind.u8.wrap y4.1]).bind fun v5=>some (v5.map ofI))
noncomputable def M6 (x0 : TFrame) : Option ((List UInt8) × Bool) :=
 (T0 x0).bind fun v1=>(if v1 then (T1 x0.Gen).bind fun v2=>(T1 x0.Seq).bind fun v3=>(cat? v2 v3).bind fun v4=>(T1 (x0.Body.length : Int)).bind fun v5=>(cat? v4 v5).bind fun v6=>(cat? v6 x0.Body).bind fun v7=>(Ci v7).bind fun v8=>some (v8.1,v8.2) else some ([],false))
noncomputable def R6 (x0 : List UInt8) (x1 : Int) : Option (TFrame × Int × Bool) :=
 (J2 x0 x1).bind fun v1=>(J2 x0 v1.2.1).bind fun v2=>(K3 x0 v2.2.1).bind fun v3=>((if !v1.2.2 then some true else (if !v2.2.2 then some true else (if !v3.2.2 then some true else (T0 ({ Gen:=v1.1,Seq:=v2.1,Body:=v3.1 } : TFrame)).bind fun v5=>(if v5 then (if decide ((w64 ((x0.length : Int) - v3.2.1)) < 4) then some true else some false) else some true)))) : Option Bool).bind (fun y4=>(if y4 then some (({ Gen:=0,Seq:=0,Body:=[] } : TFrame),0,false) else (M6 ({ Gen:=v1.1,Seq:=v2.1,Body:=v3.1 } : TFrame)).bind fun v6=>(sub? x0 x1 (w64 (v3.2.1 + 4))).bind fun v7=>(if (!(v7 == v6.1)) then some (({ Gen:=0,Seq:=0,Body:=[] } : TFrame),0,false) else some (({ Gen:=v1.1,Seq:=v2.1,Body:=v3.1 } : TFrame),w64 (v3.2.1 + 4),true))))
noncomputable def Q6 (x0 : TDisk) (x1 : Int) (s3 : (List UInt8) × Int) : Option (((List UInt8) × Int) ⊕ (List UInt8)) :=
 (if decide (s3.2 < (x0.Cache.length : Int)) then (at? x0.Cache s3.2).bind fun v5=>(if (v5.At == x1) then some (.inl (v5.Text,w64 (s3.2 + 1))) else some (.inl (s3.1,w64 (s3.2 + 1)))) else some (.inr s3.1))
noncomputable def Q0 (x0 : TDisk) (x1 : Int) : Option ((List UInt8) × Bool) :=
 (D9 x1 0 (w64 ((x0.Sectors.length : Int) - 1))).bind fun v1=>(if v1 then (at? x0.Sectors x1).bind fun v2=>(iter (Q6 x0 x1) (v2,0)).bind (fun y6=>some (y6,true)) else some ([],false))
noncomputable def Q7 (x0 : TDisk) (x1 : Int) (x2 : Int) (s2 : (List UInt8) × Int) : Option (((List UInt8) × Int) ⊕ (((List UInt8) × Bool) ⊕ (List UInt8))) :=
 (if decide (s2.2 < x2) then (Q0 x0 (w64 (x1 + s2.2))).bind fun v4=>(if !v4.2 then some (.inr (.inl ([],false))) else (cat? s2.1 v4.1).bind fun v5=>some (.inl (v5,w64 (s2.2 + 1)))) else some (.inr (.inr s2.1)))
noncomputable def U8 (x0 : TDisk) (x1 : Int) (x2 : Int) : Option ((List UInt8) × Bool) :=
 (D9 x2 0 100).bind fun v1=>(if v1 then (iter (Q7 x0 x1 x2) ([],0)).bind (Sum.elim (fun r=>some r) (fun y3=>some (y3,true))) else some ([],false))
noncomputable def T5 (x0 : Int) : Option Int :=
 (D9 x0 0 10).bind fun v1=>(if v1 then some (w64 (8 + (w64 (x0 * 8)))) else some 0)
noncomputable def X2 (x0 : TDisk) (x1 : Int) : Option (List UInt8) :=
 (D9 x1 0 10).bind fun v1=>(if v1 then (T5 x1).bind fun v2=>(U8 x0 v2 8).bind fun v3=>some v3.1 else some [])
noncomputable def Z9 (x0 : TDisk) (x1 : Int) : Option Int :=
 (X2 x0 x1).bind fun v1=>(R6 v1 0).bind fun v2=>(if (!(v2.1.Body == [115,101,103])) then some 0 else some v2.1.Gen)
noncomputable def V7 (x0 : List UInt8) (x1 : Int) (s1 : Int × (List TFrame)) : Option ((Int × (List TFrame)) ⊕ (((List TFrame) × Int) ⊕ Empty)) :=
 (R6 x0 s1.1).bind fun v3=>((if !v3.2.2 then some true else (if (v3.1.Gen != x1) then some true else some false)) : Option Bool).bind (fun y4=>(if y4 then some (.inr (.inl (s1.2,s1.1))) else (app? 32 s1.2 [v3.1]).bind fun v5=>some (.inl (v3.2.1,v5))))
noncomputable def V1 (x0 : List UInt8) (x1 : Int) : Option ((List TFrame) × Int) :=
 (iter (V7 x0 x1) (0,([] : List TFrame))).bind (Sum.elim (fun r=>some r) (fun y=>y.elim))
noncomputable def W7 (x0 : TDisk) (x1 : Int) : Option ((List TFrame) × Int) :=
 (Z9 x0 x1).bind fun v1=>(if (v1 == 0) then some ([],0) else (X2 x0 x1).bind fun v2=>(V1 v2 v1).bind fun v3=>(sub? v3.1 1 (v3.1.length : Int)).bind fun v4=>some (v4,v3.2))
noncomputable def T7 (x0 : List UInt8) (s2 : Int) : Option (Int ⊕ (Bool ⊕ Unit)) :=
 (if decide (s2 < (x0.length : Int)) then ((bt? x0 s2).bind fun v5=>(if decide ((v5.toNat : Int) < 97) then some true else (bt? x0 s2).bind fun v6=>(if decide ((v6.toNat : Int) > 122) then some true else some false)) : Option Bool).bind (fun y4=>(if y4 then some (.inr (.inl false)) else some (.inl (w64 (s2 + 1))))) else some (.inr (.inr ())))
noncomputable def Ab (x0 : List UInt8) : Option Bool :=
 (D9 (x0.length : Int) 1 8).bind fun v1=>(if v1 then (iter (T7 x0) 0).bind (Sum.elim (fun r=>some r) (fun y3=>some true)) else some false)
noncomputable def Bv (x0 : TRec) : Option Bool :=
 (D9 x0.Valid 1 9999).bind fun v1=>(if v1 then ((if (x0.Kind == 3) then some true else (if (x0.Kind == 4) then some true else (if (x0.Kind == 5) then some true else some false))) : Option Bool).bind (fun y2=>((if y2 then (D9 x0.Uid 1 9999).bind fun v4=>(if v4 then some (true,0) else some (false,0)) else some (true,x0.Uid)) : Option (Bool × Int)).bind (fun y3=>((if (x0.Kind == 3) then some true else (if (x0.Kind == 4) then some true else some false)) : Option Bool).bind (fun y5=>((if y5 then ((if y3.1 then (D9 x0.Flags 0 7).bind fun v8=>(if v8 then some true else some false) else some false) : Option Bool).bind (fun y7=>some (y7,0)) else some (y3.1,x0.Flags)) : Option (Bool × Int)).bind (fun y6=>((if (x0.Kind == 1) then ((Ab x0.User).bind fun v12=>(if v12 then (Ab x0.Name).bind fun v13=>(if v13 then (D9 x0.Next 1 10000).bind fun v14=>(if v14 then some true else some false) else some false) else some false) : Option Bool).bind (fun y11=>some (.inr (y11,0,[],[],x0.Text))) else (if (x0.Kind == 3) then ((if y6.1 then (if decide ((x0.Text.length : Int) ≤ 100) then some true else some false) else some false) : Option Bool).bind (fun y10=>some (.inr (y10,x0.Next,x0.User,x0.Name,[]))) else (if (x0.Kind == 2) then some (.inr (y6.1,x0.Next,x0.User,x0.Name,x0.Text)) else (if (x0.Kind == 4) then some (.inr (y6.1,x0.Next,x0.User,x0.Name,x0.Text)) else (if (x0.Kind == 5) then some (.inr (y6.1,x0.Next,x0.User,x0.Name,x0.Text)) else some (.inl false)))))) : Option (Bool ⊕ (Bool × Int × (List UInt8) × (List UInt8) × (List UInt8)))).bind (Sum.elim (fun r=>some r) (fun y9_=>(if y9_.1 then some (0 == 0 && (0 == 0 && (y3.2 == 0 && (y9_.2.1 == 0 && (y6.2 == 0 && (y9_.2.2.1 == [] && (y9_.2.2.2.1 == [] && (y9_.2.2.2.2 == [] && true)))))))) else some false))))))) else some false)
noncomputable def P1 (x0 : List UInt8) : Option (TRec × Bool) :=
 (if (x0 == []) then some (({ Kind:=0,Valid:=0,Uid:=0,Next:=0,Flags:=0,User:=[],Name:=[],Text:=[] } : TRec),false) else (bt? x0 0).bind fun v1=>(J2 x0 1).bind fun v2=>(if !v2.2.2 then some (({ Kind:=0,Valid:=0,Uid:=0,Next:=0,Flags:=0,User:=[],Name:=[],Text:=[] } : TRec),false) else (J2 x0 v2.2.1).bind fun v3=>(if !v3.2.2 then some (({ Kind:=0,Valid:=0,Uid:=0,Next:=0,Flags:=0,User:=[],Name:=[],Text:=[] } : TRec),false) else (J2 x0 v3.2.1).bind fun v4=>(if !v4.2.2 then some (({ Kind:=0,Valid:=0,Uid:=0,Next:=0,Flags:=0,User:=[],Name:=[],Text:=[] } : TRec),false) else (J2 x0 v4.2.1).bind fun v5=>(if !v5.2.2 then some (({ Kind:=0,Valid:=0,Uid:=0,Next:=0,Flags:=0,User:=[],Name:=[],Text:=[] } : TRec),false) else (K3 x0 v5.2.1).bind fun v6=>(if !v6.2.2 then some (({ Kind:=0,Valid:=0,Uid:=0,Next:=0,Flags:=0,User:=[],Name:=[],Text:=[] } : TRec),false) else (K3 x0 v6.2.1).bind fun v7=>(if !v7.2.2 then some (({ Kind:=0,Valid:=0,Uid:=0,Next:=0,Flags:=0,User:=[],Name:=[],Text:=[] } : TRec),false) else (K3 x0 v7.2.1).bind fun v8=>(if !v8.2.2 then some (({ Kind:=0,Valid:=0,Uid:=0,Next:=0,Flags:=0,User:=[],Name:=[],Text:=[] } : TRec),false) else ((if (v8.2.1 != (x0.length : Int)) then some true else (Bv ({ Kind:=w64 (v1.toNat : Int),Valid:=v2.1,Uid:=v3.1,Next:=v4.1,Flags:=v5.1,User:=v6.1,Name:=v7.1,Text:=v8.1 } : TRec)).bind fun v10=>(if v10 then some false else some true)) : Option Bool).bind (fun y9=>(if y9 then some (({ Kind:=0,Valid:=0,Uid:=0,Next:=0,Flags:=0,User:=[],Name:=[],Text:=[] } : TRec),false) else some (({ Kind:=w64 (v1.toNat : Int),Valid:=v2.1,Uid:=v3.1,Next:=v4.1,Flags:=v5.1,User:=v6.1,Name:=v7.1,Text:=v8.1 } : TRec),true)))))))))))
noncomputable def X4 (x0 : TFrame) : Option (TItem × Bool) :=
 (P1 x0.Body).bind fun v1=>((if !v1.2 then some true else (T0 x0).bind fun v3=>(if v3 then some false else some true)) : Option Bool).bind (fun y2=>(if y2 then some (({ Seq:=0,Rec:=({ Kind:=0,Valid:=0,Uid:=0,Next:=0,Flags:=0,User:=[],Name:=[],Text:=[] } : TRec) } : TItem),false) else some (({ Seq:=x0.Seq,Rec:=v1.1 } : TItem),true)))
noncomputable def Ct (x1 : TSeg) (v1 : (List TFrame) × Int) (s4 : Int) : Option (Int ⊕ (Bool ⊕ Unit)) :=
 (if decide (s4 < (v1.1.length : Int)) then (at? v1.1 s4).bind fun v6=>(X4 v6).bind fun v7=>((if !v7.2 then some true else (at? x1.Items s4).bind fun v9=>(if !(v7.1.Seq == v9.Seq && (v7.1.Rec.Kind == v9.Rec.Kind && (v7.1.Rec.Valid == v9.Rec.Valid && (v7.1.Rec.Uid == v9.Rec.Uid && (v7.1.Rec.Next == v9.Rec.Next && (v7.1.Rec.Flags == v9.Rec.Flags && (v7.1.Rec.User == v9.Rec.User && (v7.1.Rec.Name == v9.Rec.Name && (v7.1.Rec.Text == v9.Rec.Text && true))))))))) then some true else some false)) : Option Bool).bind (fun y8=>(if y8 then some (.inr (.inl false)) else some (.inl (w64 (s4 + 1))))) else some (.inr (.inr ())))
noncomputable def Aa (x0 : TDisk) (x1 : TSeg) : Option Bool :=
 (W7 x0 x1.No).bind fun v1=>((Z9 x0 x1.No).bind fun v3=>(if (v3 != x1.Gen) then some true else (if (x1.Gen == 0) then some true else (if (v1.2 != x1.End) then some true else (if ((v1.1.length : Int) != (x1.Items.length : Int)) then some true else some false)))) : Option Bool).bind (fun y2=>(if y2 then some false else (iter (Ct x1 v1) 0).bind (Sum.elim (fun r=>some r) (fun y5=>some true))))
noncomputable def R3 (x0 : TItem) (x1 : TLog) : Option Bool :=
 (if decide (x0.Seq ≥ x1.NextSeq) then some true else some (decide (x0.Rec.Valid ≥ x1.NextValid)))
noncomputable def J3 (x0 : List TItem) (x1 : TLog) (s1 : Int) : Option (Int ⊕ (Int ⊕ Unit)) :=
 (if decide (s1 < (x0.length : Int)) then (at? x0 s1).bind fun v3=>(R3 v3 x1).bind fun v4=>(if v4 then some (.inr (.inl s1)) else some (.inl (w64 (s1 + 1)))) else some (.inr (.inr ())))
noncomputable def G8 (x0 : List TItem) (x1 : TLog) : Option Int :=
 (iter (J3 x0 x1) 0).bind (Sum.elim (fun r=>some r) (fun y2=>some (-1)))
noncomputable def D7 (x0 : List TItem) (x1 : TLog) : Option Bool :=
 (G8 x0 x1).bind fun v1=>some (decide (v1 ≥ 0))
noncomputable def T4 (x0 : TItem) (x1 : TItem) : Option Bool :=
 (if (x0.Seq == x1.Seq) then some (!(x0.Seq == x1.Seq && (x0.Rec.Kind == x1.Rec.Kind && (x0.Rec.Valid == x1.Rec.Valid && (x0.Rec.Uid == x1.Rec.Uid && (x0.Rec.Next == x1.Rec.Next && (x0.Rec.Flags == x1.Rec.Flags && (x0.Rec.User == x1.Rec.User && (x0.Rec.Name == x1.Rec.Name && (x0.Rec.Text == x1.Rec.Text && true)))))))))) else some false)
noncomputable def J0 (x0 : List TItem) (x1 : TItem) (s1 : Int) : Option (Int ⊕ (Int ⊕ Unit)) :=
 (if decide (s1 < (x0.length : Int)) then (at? x0 s1).bind fun v3=>(T4 v3 x1).bind fun v4=>(if v4 then some (.inr (.inl s1)) else some (.inl (w64 (s1 + 1)))) else some (.inr (.inr ())))
noncomputable def F5 (x0 : List TItem) (x1 : TItem) : Option Int :=
 (iter (J0 x0 x1) 0).bind (Sum.elim (fun r=>some r) (fun y2=>some (-1)))
noncomputable def E8 (x0 : List TItem) (x1 : TItem) : Option Bool :=
 (F5 x0 x1).bind fun v1=>some (decide (v1 ≥ 0))
noncomputable def X5 (x0 : List TItem) (s1 : Int) : Option (Int ⊕ (Bool ⊕ Unit)) :=
 (if decide (s1 < (x0.length : Int)) then (at? x0 s1).bind fun v3=>((D9 v3.Seq 1 1000000000).bind fun v5=>(if v5 then (Bv v3.Rec).bind fun v6=>(if v6 then some false else some true) else some true) : Option Bool).bind (fun y4=>(if y4 then some (.inr (.inl false)) else (sub? x0 0 s1).bind fun v7=>(E8 v7 v3).bind fun v8=>(if v8 then some (.inr (.inl false)) else some (.inl (w64 (s1 + 1)))))) else some (.inr (.inr ())))
noncomputable def Be (x0 : List TItem) : Option Bool :=
 (if decide ((x0.length : Int) > 200) then some false else (iter (X5 x0) 0).bind (Sum.elim (fun r=>some r) (fun y2=>some true)))
noncomputable def Dy (x0 : TLog) (s10 : Int) : Option (Int ⊕ (Bool ⊕ Unit)) :=
 (if decide (s10 < (x0.Used.length : Int)) then (at? x0.Used s10).bind fun v12=>((D9 v12.No 0 (w64 (x0.Segs - 1))).bind fun v14=>(if v14 then (if decide (v12.Gen ≥ x0.NextGen) then some true else (if decide (s10 > 0) then (at? x0.Used (w64 (s10 - 1))).bind fun v16=>(if decide (v16.Gen ≥ v12.Gen) then some true else (Aa x0.Disk v12).bind fun v17=>(if v17 then some false else some true)) else (Aa x0.Disk v12).bind fun v15=>(if v15 then some false else some true))) else some true) : Option Bool).bind (fun y13=>(if y13 then some (.inr (.inl false)) else (sub? x0.Used 0 s10).bind fun v18=>(E3 v18 v12).bind fun v19=>(if v19 then some (.inr (.inl false)) else (D7 v12.Items x0).bind fun v20=>(if v20 then some (.inr (.inl false)) else some (.inl (w64 (s10 + 1))))))) else some (.inr (.inr ())))
noncomputable def Bu (x0 : TLog) : Option Bool :=
 ((R2 x0.Disk).bind fun v2=>(if v2 then (if ((x0.Disk.Cache.length : Int) != 0) then some true else (if (x0.Segs == 0) then some true else (En x0.Disk).bind fun v3=>(if (x0.Segs != v3) then some true else (D9 (x0.Used.length : Int) 1 x0.Segs).bind fun v4=>(if v4 then some false else some true)))) else some true) : Option Bool).bind (fun y1=>(if y1 then some false else ((D9 x0.NextGen 1 1000000000).bind fun v6=>(if v6 then (D9 x0.NextSeq 1 1000000000).bind fun v7=>(if v7 then (D9 x0.NextValid 1 1000000000).bind fun v8=>(if v8 then (D9 x0.Stamp 1 1000000000).bind fun v9=>(if v9 then some false else some true) else some true) else some true) else some true) : Option Bool).bind (fun y5=>(if y5 then some false else (iter (Dy x0) 0).bind (Sum.elim (fun r=>some r) (fun y11=>(Y3 x0).bind fun v22=>(Be v22).bind fun v23=>some v23))))))
noncomputable def Cf (x0 : List TItem) : Option (List TItem) :=
 app? 96 [] x0
noncomputable def Ae (x0 : List (List UInt8)) : Option (List (List UInt8)) :=
 app? 16 [] x0
noncomputable def Ax (x0 : List TWrite) : Option (List TWrite) :=
 app? 24 [] x0
noncomputable def H6 (x0 : TDisk) : Option TDisk :=
 (Ae x0.Sectors).bind fun v1=>(Ax x0.Cache).bind fun v2=>some ({ Sectors:=v1,Cache:=v2 } : TDisk)
noncomputable def P9 (x0 : TLog) (s2 : Int × (List TSeg)) : Option ((Int × (List TSeg)) ⊕ (List TSeg)) :=
 (if decide (s2.1 < (x0.Used.length : Int)) then (at? x0.Used s2.1).bind fun v4=>(Cf v4.Items).bind fun v5=>(app? 48 s2.2 [({ No:=v4.No,Gen:=v4.Gen,End:=v4.End,Items:=v5 } : TSeg)]).bind fun v6=>some (.inl (w64 (s2.1 + 1),v6)) else some (.inr s2.2))
noncomputable def Q1 (x0 : TLog) : Option TLog :=
 (H6 x0.Disk).bind fun v1=>(iter (P9 x0) (0,([] : List TSeg))).bind (fun y7=>some ({ Disk:=({ Sectors:=v1.Sectors,Cache:=v1.Cache } : TDisk),Segs:=x0.Segs,Used:=y7,NextGen:=x0.NextGen,NextSeq:=x0.NextSeq,Stamp:=x0.Stamp,NextValid:=x0.NextValid } : TLog))
noncomputable def Y9 (x0 : TDisk) (s3 : Int × (List (List UInt8))) : Option ((Int × (List (List UInt8))) ⊕ (List (List UInt8))) :=
 (if decide (s3.1 < (x0.Cache.length : Int)) then (at? x0.Cache s3.1).bind fun v5=>(at? s3.2 v5.At).bind fun v6=>(some (set' s3.2 v5.At v5.Text)).bind fun v7=>some (.inl (w64 (s3.1 + 1),v7)) else some (.inr s3.2))
noncomputable def M9 (x0 : TDisk) : Option TDisk :=
 (H6 x0).bind fun v1=>(R2 x0).bind fun v2=>(if v2 then (iter (Y9 x0) (0,v1.Sectors)).bind (fun y8=>some ({ Sectors:=y8,Cache:=[] } : TDisk)) else some ({ Sectors:=v1.Sectors,Cache:=v1.Cache } : TDisk))
noncomputable def T2 (x0 : TDisk) (x1 : Int) (x2 : List UInt8) : Option (TDisk × Bool) :=
 (H6 x0).bind fun v1=>(app? 24 v1.Cache [({ At:=x1,Text:=x2 } : TWrite)]).bind fun v2=>((R2 x0).bind fun v4=>(if v4 then (R2 ({ Sectors:=v1.Sectors,Cache:=v2 } : TDisk)).bind fun v5=>(if v5 then some false else some true) else some true) : Option Bool).bind (fun y3=>(if y3 then (H6 x0).bind fun v6=>some (({ Sectors:=v6.Sectors,Cache:=v6.Cache } : TDisk),false) else some (({ Sectors:=v1.Sectors,Cache:=v2 } : TDisk),true)))
noncomputable def J6 (x1 : Int) (v1 : TDisk) (s6 : Int × (List UInt8) × (List (List UInt8)) × (List TWrite)) : Option ((Int × (List UInt8) × (List (List UInt8)) × (List TWrite)) ⊕ ((TDisk × Bool) ⊕ ((List (List UInt8)) × (List TWrite)))) :=
 (if (!(s6.2.1 == [])) then (Q0 ({ Sectors:=s6.2.2.1,Cache:=s6.2.2.2 } : TDisk) (w64 (x1 + (w64 (Int.tdiv s6.1 32))))).bind fun v8=>((if !v8.2 then some true else (if ((v8.1.length : Int) != 32) then some true else some false)) : Option Bool).bind (fun y9=>(if y9 then some (.inr (.inl (({ Sectors:=v1.Sectors,Cache:=v1.Cache } : TDisk),false))) else (sub? v8.1 0 (Int.tmod s6.1 32)).bind fun v10=>(sub? s6.2.1 0 (if w64 (32 - (Int.tmod s6.1 32)) < (s6.2.1.length : Int) then w64 (32 - (Int.tmod s6.1 32)) else (s6.2.1.length : Int))).bind fun v11=>(cat? v10 v11).bind fun v12=>(sub? v8.1 (w64 ((Int.tmod s6.1 32) + (if w64 (32 - (Int.tmod s6.1 32)) < (s6.2.1.length : Int) then w64 (32 - (Int.tmod s6.1 32)) else (s6.2.1.length : Int)))) (v8.1.length : Int)).bind fun v13=>(cat? v12 v13).bind fun v14=>(T2 ({ Sectors:=s6.2.2.1,Cache:=s6.2.2.2 } : TDisk) (w64 (x1 + (w64 (Int.tdiv s6.1 32)))) v14).bind fun v15=>(if !v15.2 then some (.inr (.inl (({ Sectors:=v1.Sectors,Cache:=v1.Cache } : TDisk),false))) else (sub? s6.2.1 (if w64 (32 - (Int.tmod s6.1 32)) < (s6.2.1.length : Int) then w64 (32 - (Int.tmod s6.1 32)) else (s6.2.1.length : Int)) (s6.2.1.length : Int)).bind fun v16=>some (.inl (w64 (s6.1 + (if w64 (32 - (Int.tmod s6.1 32)) < (s6.2.1.length : Int) then w64 (32 - (Int.tmod s6.1 32)) else (s6.2.1.length : Int))),v16,v15.1.Sectors,v15.1.Cache))))) else some (.inr (.inr (s6.2.2.1,s6.2.2.2))))
noncomputable def U5 (x0 : TDisk) (x1 : Int) (x2 : Int) (x3 : List UInt8) : Option (TDisk × Bool) :=
 (H6 x0).bind fun v1=>((D9 x2 0 3200).bind fun v3=>(if v3 then (D9 x1 0 (w64 ((x0.Sectors.length : Int) - 1))).bind fun v4=>(if v4 then some false else some true) else some true) : Option Bool).bind (fun y2=>(if y2 then some (({ Sectors:=v1.Sectors,Cache:=v1.Cache } : TDisk),false) else (H6 x0).bind fun v5=>(iter (J6 x1 v1) (x2,x3,v5.Sectors,v5.Cache)).bind (Sum.elim (fun r=>some r) (fun y7=>some (({ Sectors:=y7.1,Cache:=y7.2 } : TDisk),true)))))
noncomputable def U1 (x0 : TDisk) (x1 : Int) (x2 : Int) (x3 : List UInt8) : Option (TDisk × Bool) :=
 ((D9 x1 0 10).bind fun v2=>(if v2 then (D9 x2 0 256).bind fun v3=>(if v3 then (if decide ((x3.length : Int) > (w64 (256 - x2))) then some true else some false) else some true) else some true) : Option Bool).bind (fun y1=>(if y1 then (H6 x0).bind fun v6=>some (({ Sectors:=v6.Sectors,Cache:=v6.Cache } : TDisk),false) else (T5 x1).bind fun v4=>(U5 x0 v4 x2 x3).bind fun v5=>some (({ Sectors:=v5.1.Sectors,Cache:=v5.1.Cache } : TDisk),v5.2)))
noncomputable def Bi (x0 : TLog) (x1 : Int) : Option (TLog × Bool) :=
 (Q2 x0).bind fun v1=>((if decide (x1 < 0) then some true else (if decide ((v1.length : Int) ≤ x1) then some true else (if (x0.NextGen == 1000000000) then some true else some false))) : Option Bool).bind (fun y2=>(if y2 then some (({ Disk:=({ Sectors:=[],Cache:=[] } : TDisk),Segs:=0,Used:=[],NextGen:=0,NextSeq:=0,Stamp:=0,NextValid:=0 } : TLog),false) else (M6 ({ Gen:=x0.NextGen,Seq:=1,Body:=[115,101,103] } : TFrame)).bind fun v3=>(at? v1 0).bind fun v4=>(U1 x0.Disk v4 0 v3.1).bind fun v5=>(if !v5.2 then some (({ Disk:=({ Sectors:=[],Cache:=[] } : TDisk),Segs:=0,Used:=[],NextGen:=0,NextSeq:=0,Stamp:=0,NextValid:=0 } : TLog),false) else (Q1 x0).bind fun v6=>(M9 v5.1).bind fun v7=>(at? v1 0).bind fun v8=>(app? 48 v6.Used [({ No:=v8,Gen:=x0.NextGen,End:=(v3.1.length : Int),Items:=[] } : TSeg)]).bind fun v9=>some (({ Disk:=({ Sectors:=v7.Sectors,Cache:=v7.Cache } : TDisk),Segs:=v6.Segs,Used:=v9,NextGen:=w64 (v6.NextGen + 1),NextSeq:=v6.NextSeq,Stamp:=v6.Stamp,NextValid:=v6.NextValid } : TLog),true))))
noncomputable def Bc (x0 : TLog) (x1 : Int) : Option (TLog × Bool) :=
 (Bu x0).bind fun v1=>(if v1 then (Bi x0 x1).bind fun v3=>(if v3.2 then some (({ Disk:=({ Sectors:=v3.1.Disk.Sectors,Cache:=v3.1.Disk.Cache } : TDisk),Segs:=v3.1.Segs,Used:=v3.1.Used,NextGen:=v3.1.NextGen,NextSeq:=v3.1.NextSeq,Stamp:=v3.1.Stamp,NextValid:=v3.1.NextValid } : TLog),true) else (Q1 x0).bind fun v4=>some (({ Disk:=({ Sectors:=v4.Disk.Sectors,Cache:=v4.Disk.Cache } : TDisk),Segs:=v4.Segs,Used:=v4.Used,NextGen:=v4.NextGen,NextSeq:=v4.NextSeq,Stamp:=v4.Stamp,NextValid:=v4.NextValid } : TLog),false)) else (Q1 x0).bind fun v2=>some (({ Disk:=({ Sectors:=v2.Disk.Sectors,Cache:=v2.Disk.Cache } : TDisk),Segs:=v2.Segs,Used:=v2.Used,NextGen:=v2.NextGen,NextSeq:=v2.NextSeq,Stamp:=v2.Stamp,NextValid:=v2.NextValid } : TLog),false))
noncomputable def Bt (x0 : TSeg) (x1 : TSeg) (s2 : Int) : Option (Int ⊕ (Bool ⊕ Unit)) :=
 (if decide (s2 < (x0.Items.length : Int)) then (at? x0.Items s2).bind fun v4=>(at? x1.Items s2).bind fun v5=>(if !(v4.Seq == v5.Seq && (v4.Rec.Kind == v5.Rec.Kind && (v4.Rec.Valid == v5.Rec.Valid && (v4.Rec.Uid == v5.Rec.Uid && (v4.Rec.Next == v5.Rec.Next && (v4.Rec.Flags == v5.Rec.Flags && (v4.Rec.User == v5.Rec.User && (v4.Rec.Name == v5.Rec.Name && (v4.Rec.Text == v5.Rec.Text && true))))))))) then some (.inr (.inl false)) else some (.inl (w64 (s2 + 1)))) else some (.inr (.inr ())))
noncomputable def Bd (x0 : TSeg) (x1 : TSeg) : Option Bool :=
 ((if (x0.No != x1.No) then some true else (if (x0.Gen != x1.Gen) then some true else (if (x0.End != x1.End) then some true else (if ((x0.Items.length : Int) != (x1.Items.length : Int)) then some true else some false)))) : Option Bool).bind (fun y1=>(if y1 then some false else (iter (Bt x0 x1) 0).bind (Sum.elim (fun r=>some r) (fun y3=>some true))))
noncomputable def Bq (x0 : TLog) (x1 : TLog) (s2 : Int) : Option (Int ⊕ (Bool ⊕ Unit)) :=
 (if decide (s2 < (x0.Used.length : Int)) then (at? x0.Used s2).bind fun v4=>(at? x1.Used s2).bind fun v5=>(Bd v4 v5).bind fun v6=>(if v6 then some (.inl (w64 (s2 + 1))) else some (.inr (.inl false))) else some (.inr (.inr ())))
noncomputable def Ar (x0 : TLog) (x1 : TLog) : Option Bool :=
 ((if ((x0.Used.length : Int) != (x1.Used.length : Int)) then some true else (if (x0.NextGen != x1.NextGen) then some true else (if (x0.NextSeq != x1.NextSeq) then some true else (if (x0.NextValid != x1.NextValid) then some true else some false)))) : Option Bool).bind (fun y1=>(if y1 then some false else (iter (Bq x0 x1) 0).bind (Sum.elim (fun r=>some r) (fun y3=>some true))))
noncomputable def Z1 (x0 : List TItem) (x1 : List TItem) (s1 : Int) : Option (Int ⊕ (Bool ⊕ Unit)) :=
 (if decide (s1 < (x0.length : Int)) then (at? x0 s1).bind fun v3=>(at? x1 s1).bind fun v4=>(if !(v3.Seq == v4.Seq && (v3.Rec.Kind == v4.Rec.Kind && (v3.Rec.Valid == v4.Rec.Valid && (v3.Rec.Uid == v4.Rec.Uid && (v3.Rec.Next == v4.Rec.Next && (v3.Rec.Flags == v4.Rec.Flags && (v3.Rec.User == v4.Rec.User && (v3.Rec.Name == v4.Rec.Name && (v3.Rec.Text == v4.Rec.Text && true))))))))) then some (.inr (.inl false)) else some (.inl (w64 (s1 + 1)))) else some (.inr (.inr ())))
noncomputable def W3 (x0 : List TItem) (x1 : List TItem) : Option Bool :=
 (if ((x0.length : Int) != (x1.length : Int)) then some false else (iter (Z1 x0 x1) 0).bind (Sum.elim (fun r=>some r) (fun y2=>some true)))
noncomputable def Bk (x0 : TLog) (s1 : Int × (List TItem)) : Option ((Int × (List TItem)) ⊕ (List TItem)) :=
 (if decide (s1.1 < (x0.Used.length : Int)) then (at? x0.Used s1.1).bind fun v3=>(app? 96 s1.2 v3.Items).bind fun v4=>some (.inl (w64 (s1.1 + 1),v4)) else some (.inr s1.2))
noncomputable def Y0 (x0 : TLog) : Option (List TItem) :=
 (iter (Bk x0) (0,([] : List TItem))).bind (fun y5=>some y5)
noncomputable def Cu (x0 : List Int) : Option Bool :=
 some (decide ((x0.length : Int) > 1048576))
noncomputable def X3 (x0 : Int) (x1 : Int) (s2 : Int × (List Int)) : Option ((Int × (List Int)) ⊕ (List Int)) :=
 (if decide (s2.1 < x0) then (at? s2.2 s2.1).bind fun v4=>(some (set' s2.2 s2.1 x1)).bind fun v5=>some (.inl (w64 (s2.1 + 1),v5)) else some (.inr s2.2))
noncomputable def Dm (x0 : Int) (x1 : Int) : Option (List UInt8) :=
 (mk? 1 (0 : Int) x0).bind fun v1=>(iter (X3 x0 x1) (0,v1)).bind (fun y6=>some (y6.map ofI))
noncomputable def Az : Option (List UInt8) :=
 (Dm 32 0).bind fun v1=>some v1
noncomputable def B7 (x0 : Int) (x1 : Int) (x2 : Int) : Option Bool :=
 (if decide (x0 ≥ x1) then some (decide (x0 ≤ x2)) else some false)
noncomputable def Bz (x0 : Int) (s2 : Int × (List (List UInt8))) : Option ((Int × (List (List UInt8))) ⊕ (List (List UInt8))) :=
 (if decide (s2.1 < x0) then (Az).bind fun v4=>(app? 16 s2.2 [v4]).bind fun v5=>some (.inl (w64 (s2.1 + 1),v5)) else some (.inr s2.2))
noncomputable def Am (x0 : Int) : Option (TDisk × Bool) :=
 (B7 x0 1 100).bind fun v1=>(if v1 then (iter (Bz x0) (0,([] : List (List UInt8)))).bind (fun y6=>some (({ Sectors:=y6,Cache:=[] } : TDisk),true)) else some (({ Sectors:=[],Cache:=[] } : TDisk),false))
noncomputable def Br (x0 : TLog) (s1 : Int × (List TRef)) : Option ((Int × (List TRef)) ⊕ (List TRef)) :=
 (if decide (s1.1 < (x0.Used.length : Int)) then (at? x0.Used s1.1).bind fun v3=>(at? x0.Used s1.1).bind fun v4=>(app? 16 s1.2 [({ No:=v3.No,Gen:=v4.Gen } : TRef)]).bind fun v5=>some (.inl (w64 (s1.1 + 1),v5)) else some (.inr s1.2))
noncomputable def Y1 (x0 : TLog) : Option TCheck :=
 (iter (Br x0) (0,([] : List TRef))).bind (fun y6=>some ({ Stamp:=w64 (x0.Stamp + 1),NextGen:=x0.NextGen,NextSeq:=x0.NextSeq,NextValid:=x0.NextValid,Refs:=y6 } : TCheck))
noncomputable def D6 (x0 : TDisk) : Option TDisk :=
 (app? 16 ([] : List (List UInt8)) x0.Sectors).bind fun v1=>(app? 24 ([] : List TWrite) x0.Cache).bind fun v2=>some ({ Sectors:=v1,Cache:=v2 } : TDisk)
noncomputable def Z7 (x0 : TDisk) (s7 : Int) : Option (Int ⊕ (Bool ⊕ Unit)) :=
 (if decide (s7 < (x0.Cache.length : Int)) then ((at? x0.Cache s7).bind fun v10=>(B7 v10.At 0 (w64 ((x0.Sectors.length : Int) - 1))).bind fun v11=>(if v11 then (at? x0.Cache s7).bind fun v12=>(if ((v12.Text.length : Int) != 32) then some true else some false) else some true) : Option Bool).bind (fun y9=>(if y9 then some (.inr (.inl false)) else some (.inl (w64 (s7 + 1))))) else some (.inr (.inr ())))
noncomputable def Z2 (x0 : TDisk) (s3 : Int) : Option (Int ⊕ (Bool ⊕ Unit)) :=
 (if decide (s3 < (x0.Sectors.length : Int)) then (at? x0.Sectors s3).bind fun v5=>(if ((v5.length : Int) != 32) then some (.inr (.inl false)) else some (.inl (w64 (s3 + 1)))) else some (.inr (.inr ())))
noncomputable def R1 (x0 : TDisk) : Option Bool :=
 ((B7 (x0.Sectors.length : Int) 1 100).bind fun v2=>(if v2 then (if decide ((x0.Cache.length : Int) > 60) then some true else some false) else some true) : Option Bool).bind (fun y1=>(if y1 then some false else (iter (Z2 x0) 0).bind (Sum.elim (fun r=>some r) (fun y4=>(iter (Z7 x0) 0).bind (Sum.elim (fun r=>some r) (fun y8=>some true))))))
noncomputable def K0 (x0 : TDisk) (x1 : Int) (x2 : List UInt8) : Option (TDisk × Bool) :=
 (D6 x0).bind fun v1=>((R1 x0).bind fun v3=>(if v3 then (B7 x1 0 (w64 ((x0.Sectors.length : Int) - 1))).bind fun v4=>(if v4 then (if ((x2.length : Int) != 32) then some true else (if decide ((x0.Cache.length : Int) ≥ 60) then some true else some false)) else some true) else some true) : Option Bool).bind (fun y2=>(if y2 then some (({ Sectors:=v1.Sectors,Cache:=v1.Cache } : TDisk),false) else (app? 24 v1.Cache [({ At:=x1,Text:=x2 } : TWrite)]).bind fun v5=>some (({ Sectors:=v1.Sectors,Cache:=v5 } : TDisk),true)))
noncomputable def L9 (x0 : TDisk) (x1 : Int) (s2 : Int) : Option (Int ⊕ (((List UInt8) × Bool) ⊕ Unit)) :=
 (if decide (s2 ≥ 0) then (at? x0.Cache s2).bind fun v4=>(if (v4.At == x1) then (at? x0.Cache s2).bind fun v5=>some (.inr (.inl (v5.Text,true))) else some (.inl (w64 (s2 - 1)))) else some (.inr (.inr ())))
noncomputable def J8 (x0 : TDisk) (x1 : Int) : Option ((List UInt8) × Bool) :=
 (B7 x1 0 (w64 ((x0.Sectors.length : Int) - 1))).bind fun v1=>(if v1 then (iter (L9 x0 x1) (w64 ((x0.Cache.length : Int) - 1))).bind (Sum.elim (fun r=>some r) (fun y3=>(at? x0.Sectors x1).bind fun v7=>some (v7,true))) else some ([],false))
noncomputable def D2 (x0 : TDisk) (x1 : Int) (x2 : Int) (x3 : List UInt8) (s6 : Int × (List (List UInt8)) × (List TWrite)) : Option ((Int × (List (List UInt8)) × (List TWrite)) ⊕ ((TDisk × Bool) ⊕ ((List (List UInt8)) × (List TWrite)))) :=
 (if decide (s6.1 < (x3.length : Int)) then (if decide ((w64 (32 - (Int.tmod (w64 (x2 + s6.1)) 32))) > (w64 ((x3.length : Int) - s6.1))) then (J8 ({ Sectors:=s6.2.1,Cache:=s6.2.2 } : TDisk) (w64 (x1 + (w64 (Int.tdiv (w64 (x2 + s6.1)) 32))))).bind fun v18=>((if !v18.2 then some true else (if ((v18.1.length : Int) != 32) then some true else some false)) : Option Bool).bind (fun y19=>(if y19 then (D6 x0).bind fun v27=>some (.inr (.inl (({ Sectors:=v27.Sectors,Cache:=v27.Cache } : TDisk),false))) else (sub? v18.1 0 (Int.tmod (w64 (x2 + s6.1)) 32)).bind fun v20=>(sub? x3 s6.1 (w64 (s6.1 + (w64 ((x3.length : Int) - s6.1))))).bind fun v21=>(cat? v20 v21).bind fun v22=>(sub? v18.1 (w64 ((Int.tmod (w64 (x2 + s6.1)) 32) + (w64 ((x3.length : Int) - s6.1)))) (v18.1.length : Int)).bind fun v23=>(cat? v22 v23).bind fun v24=>(K0 ({ Sectors:=s6.2.1,Cache:=s6.2.2 } : TDisk) (w64 (x1 + (w64 (Int.tdiv (w64 (x2 + s6.1)) 32)))) v24).bind fun v25=>(if !v25.2 then (D6 x0).bind fun v26=>some (.inr (.inl (({ Sectors:=v26.Sectors,Cache:=v26.Cache } : TDisk),false))) else some (.inl (w64 (s6.1 + (w64 ((x3.length : Int) - s6.1))),v25.1.Sectors,v25.1.Cache))))) else (J8 ({ Sectors:=s6.2.1,Cache:=s6.2.2 } : TDisk) (w64 (x1 + (w64 (Int.tdiv (w64 (x2 + s6.1)) 32))))).bind fun v8=>((if !v8.2 then some true else (if ((v8.1.length : Int) != 32) then some true else some false)) : Option Bool).bind (fun y9=>(if y9 then (D6 x0).bind fun v17=>some (.inr (.inl (({ Sectors:=v17.Sectors,Cache:=v17.Cache } : TDisk),false))) else (sub? v8.1 0 (Int.tmod (w64 (x2 + s6.1)) 32)).bind fun v10=>(sub? x3 s6.1 (w64 (s6.1 + (w64 (32 - (Int.tmod (w64 (x2 + s6.1)) 32)))))).bind fun v11=>(cat? v10 v11).bind fun v12=>(sub? v8.1 (w64 ((Int.tmod (w64 (x2 + s6.1)) 32) + (w64 (32 - (Int.tmod (w64 (x2 + s6.1)) 32))))) (v8.1.length : Int)).bind fun v13=>(cat? v12 v13).bind fun v14=>(K0 ({ Sectors:=s6.2.1,Cache:=s6.2.2 } : TDisk) (w64 (x1 + (w64 (Int.tdiv (w64 (x2 + s6.1)) 32)))) v14).bind fun v15=>(if !v15.2 then (D6 x0).bind fun v16=>some (.inr (.inl (({ Sectors:=v16.Sectors,Cache:=v16.Cache } : TDisk),false))) else some (.inl (w64 (s6.1 + (w64 (32 - (Int.tmod (w64 (x2 + s6.1)) 32)))),v15.1.Sectors,v15.1.Cache)))))) else some (.inr (.inr (s6.2.1,s6.2.2))))
noncomputable def J1 (x0 : TDisk) (x1 : Int) (x2 : Int) (x3 : List UInt8) : Option (TDisk × Bool) :=
 (D6 x0).bind fun v1=>((B7 x2 0 3200).bind fun v3=>(if v3 then (B7 x1 0 (w64 ((x0.Sectors.length : Int) - 1))).bind fun v4=>(if v4 then (R1 x0).bind fun v5=>(if v5 then some false else some true) else some true) else some true) : Option Bool).bind (fun y2=>(if y2 then some (({ Sectors:=v1.Sectors,Cache:=v1.Cache } : TDisk),false) else (iter (D2 x0 x1 x2 x3) (0,v1.Sectors,v1.Cache)).bind (Sum.elim (fun r=>some r) (fun y7=>some (({ Sectors:=y7.1,Cache:=y7.2 } : TDisk),true)))))
noncomputable def Y8 (x0 : TDisk) (s3 : Int × (List (List UInt8))) : Option ((Int × (List (List UInt8))) ⊕ (List (List UInt8))) :=
 (if decide (s3.1 < (x0.Cache.length : Int)) then (at? x0.Cache s3.1).bind fun v5=>(at? x0.Cache s3.1).bind fun v6=>(at? s3.2 v5.At).bind fun v7=>(some (set' s3.2 v5.At v6.Text)).bind fun v8=>some (.inl (w64 (s3.1 + 1),v8)) else some (.inr s3.2))
noncomputable def G4 (x0 : TDisk) : Option TDisk :=
 (D6 x0).bind fun v1=>(R1 x0).bind fun v2=>(if v2 then (iter (Y8 x0) (0,v1.Sectors)).bind (fun y9=>some ({ Sectors:=y9,Cache:=[] } : TDisk)) else some ({ Sectors:=v1.Sectors,Cache:=v1.Cache } : TDisk))
noncomputable def W1 (x0 : TCheck) (s7 : Int) (v9 : TRef) (s14 : Int) : Option (Int ⊕ (Bool ⊕ Unit)) :=
 (if decide (s14 < s7) then (at? x0.Refs s14).bind fun v16=>(if (v16.No == v9.No) then some (.inr (.inl false)) else some (.inl (w64 (s14 + 1)))) else some (.inr (.inr ())))
noncomputable def Y4 (x0 : TCheck) (s7 : Int) : Option (Int ⊕ (Bool ⊕ Unit)) :=
 (if decide (s7 < (x0.Refs.length : Int)) then (at? x0.Refs s7).bind fun v9=>((B7 v9.No 0 10).bind fun v11=>(if v11 then (B7 v9.Gen 1 (w64 (x0.NextGen - 1))).bind fun v12=>(if v12 then (if decide (s7 > 0) then (at? x0.Refs (w64 (s7 - 1))).bind fun v13=>(if decide (v13.Gen ≥ v9.Gen) then some true else some false) else some false) else some true) else some true) : Option Bool).bind (fun y10=>(if y10 then some (.inr (.inl false)) else (iter (W1 x0 s7 v9) 0).bind (Sum.elim (fun r=>some (.inr (.inl r))) (fun y15=>some (.inl (w64 (s7 + 1))))))) else some (.inr (.inr ())))
noncomputable def Aw (x0 : TCheck) : Option Bool :=
 ((B7 x0.Stamp 1 1000000000).bind fun v2=>(if v2 then (B7 x0.NextGen 1 1000000000).bind fun v3=>(if v3 then (B7 x0.NextSeq 1 1000000000).bind fun v4=>(if v4 then (B7 x0.NextValid 1 1000000000).bind fun v5=>(if v5 then (B7 (x0.Refs.length : Int) 1 11).bind fun v6=>(if v6 then some false else some true) else some true) else some true) else some true) else some true) : Option Bool).bind (fun y1=>(if y1 then some false else (iter (Y4 x0) 0).bind (Sum.elim (fun r=>some r) (fun y8=>some true))))
noncomputable def U2 (s1 : Int × (List Int)) : Option ((Int × (List Int)) ⊕ (Int × (List Int))) :=
 (if decide (s1.1 > 127) then (app? 1 s1.2 [IntKind.u8.wrap (w64 ((Int.tmod s1.1 128) + 128))]).bind fun v3=>some (.inl (w64 (Int.tdiv s1.1 128),v3)) else some (.inr (s1.1,s1.2)))
noncomputable def D4 (x0 : Int) : Option (List UInt8) :=
 (iter (U2) (x0,([] : List Int))).bind (fun y4=>(app? 1 y4.2 [IntKind.u8.wrap y4.1]).bind fun v5=>some (v5.map ofI))
noncomputable def Dx (x0 : Int) : Option (List UInt8) :=
 some ([IntKind.u8.wrap (shrv .u32 x0 24),IntKind.u8.wrap (shrv .u32 x0 16),IntKind.u8.wrap (shrv .u32 x0 8),IntKind.u8.wrap x0].map ofI)
noncomputable def V8 (s4 : Int × Int) : Option ((Int × Int) ⊕ Int) :=
 (if decide (s4.2 < 8) then (if ((Int.tmod s4.1 2) == 1) then some (.inl (xorv .u32 (IntKind.u32.wrap (Int.tdiv s4.1 2)) 3558460437,w64 (s4.2 + 1))) else some (.inl (IntKind.u32.wrap (Int.tdiv s4.1 2),w64 (s4.2 + 1)))) else some (.inr s4.1))
noncomputable def W6 (x1 : List UInt8) (s1 : Int × Int) : Option ((Int × Int) ⊕ Int) :=
 (if decide (s1.2 < (x1.length : Int)) then (bt? x1 s1.2).bind fun v3=>(iter (V8) (xorv .u32 s1.1 (IntKind.u32.wrap (v3.toNat : Int)),0)).bind (fun y6=>some (.inl (y6,w64 (s1.2 + 1)))) else some (.inr s1.1))
noncomputable def Bb (x0 : Int) (x1 : List UInt8) : Option Int :=
 (iter (W6 x1) (x0,0)).bind (fun y7=>some y7)
noncomputable def Ds (x0 : List UInt8) : Option Int :=
 (Bb 4294967295 x0).bind fun v1=>some v1
noncomputable def Z8 (x0 : List UInt8) : Option ((List UInt8) × Bool) :=
 (if decide ((x0.length : Int) > 20000) then some ([],false) else (Ds x0).bind fun v1=>(Dx v1).bind fun v2=>(cat? x0 v2).bind fun v3=>some (v3,true))
noncomputable def M1 (x0 : List UInt8) : Option (List UInt8) :=
 (D4 (x0.length : Int)).bind fun v1=>(cat? v1 x0).bind fun v2=>some v2
noncomputable def R9 (x0 : TCheck) (s11 : (List UInt8) × Int) : Option (((List UInt8) × Int) ⊕ (List UInt8)) :=
 (if decide (s11.2 < (x0.Refs.length : Int)) then (at? x0.Refs s11.2).bind fun v13=>(D4 v13.No).bind fun v14=>(cat? s11.1 v14).bind fun v15=>(at? x0.Refs s11.2).bind fun v16=>(D4 v16.Gen).bind fun v17=>(cat? v15 v17).bind fun v18=>some (.inl (v18,w64 (s11.2 + 1))) else some (.inr s11.1))
noncomputable def W4 (x0 : TCheck) : Option ((List UInt8) × Bool) :=
 (Aw x0).bind fun v1=>(if v1 then (D4 x0.Stamp).bind fun v2=>(D4 x0.NextGen).bind fun v3=>(cat? v2 v3).bind fun v4=>(D4 x0.NextSeq).bind fun v5=>(cat? v4 v5).bind fun v6=>(D4 x0.NextValid).bind fun v7=>(cat? v6 v7).bind fun v8=>(D4 (x0.Refs.length : Int)).bind fun v9=>(cat? v8 v9).bind fun v10=>(iter (R9 x0) (v10,0)).bind (fun y19=>(Z8 y19).bind fun v20=>(M1 v20.1).bind fun v21=>((if !v20.2 then some true else (if decide ((v21.length : Int) > 128) then some true else some false)) : Option Bool).bind (fun y22=>(if y22 then some ([],false) else some (v21,true)))) else some ([],false))
noncomputable def P5 (x0 : TDisk) (x1 : TCheck) : Option (TDisk × Bool) :=
 (W4 x1).bind fun v1=>((if !v1.2 then some true else (R1 x0).bind fun v3=>(if v3 then some false else some true)) : Option Bool).bind (fun y2=>(if y2 then (D6 x0).bind fun v7=>some (({ Sectors:=v7.Sectors,Cache:=v7.Cache } : TDisk),false) else (J1 x0 (w64 (4 * (Int.tmod x1.Stamp 2))) 0 v1.1).bind fun v4=>(if !v4.2 then (D6 x0).bind fun v6=>some (({ Sectors:=v6.Sectors,Cache:=v6.Cache } : TDisk),false) else (G4 v4.1).bind fun v5=>some (({ Sectors:=v5.Sectors,Cache:=v5.Cache } : TDisk),true))))
noncomputable def W9 (x0 : TFrame) : Option Bool :=
 ((B7 x0.Gen 1 1000000000).bind fun v2=>(if v2 then (B7 x0.Seq 1 1000000000).bind fun v3=>(if v3 then (B7 (x0.Body.length : Int) 1 180).bind fun v4=>some v4 else some false) else some false) : Option Bool).bind (fun y1=>some y1)
noncomputable def H5 (x0 : TFrame) : Option ((List UInt8) × Bool) :=
 (W9 x0).bind fun v1=>(if v1 then (D4 x0.Gen).bind fun v2=>(D4 x0.Seq).bind fun v3=>(cat? v2 v3).bind fun v4=>(D4 (x0.Body.length : Int)).bind fun v5=>(cat? v4 v5).bind fun v6=>(cat? v6 x0.Body).bind fun v7=>(Z8 v7).bind fun v8=>some (v8.1,v8.2) else some ([],false))
noncomputable def Q4 (x0 : Int) : Option Int :=
 (B7 x0 0 10).bind fun v1=>(if v1 then some (w64 (8 + (w64 (x0 * 8)))) else some 0)
noncomputable def F0 (x0 : TDisk) (x1 : Int) (x2 : Int) (x3 : List UInt8) : Option (TDisk × Bool) :=
 ((B7 x1 0 10).bind fun v2=>(if v2 then (B7 x2 0 256).bind fun v3=>(if v3 then (if decide ((x3.length : Int) > (w64 (256 - x2))) then some true else some false) else some true) else some true) : Option Bool).bind (fun y1=>(if y1 then (D6 x0).bind fun v6=>some (({ Sectors:=v6.Sectors,Cache:=v6.Cache } : TDisk),false) else (Q4 x1).bind fun v4=>(J1 x0 v4 x2 x3).bind fun v5=>some (({ Sectors:=v5.1.Sectors,Cache:=v5.1.Cache } : TDisk),v5.2)))
noncomputable def P6 (x0 : TLog) (s1 : Int × (List Int)) (s4 : Bool × Int) : Option ((Bool × Int) ⊕ Bool) :=
 (if decide (s4.2 < (x0.Used.length : Int)) then (if s4.1 then some (.inl (true,w64 (s4.2 + 1))) else (at? x0.Used s4.2).bind fun v6=>(if (v6.No == s1.1) then some (.inl (true,w64 (s4.2 + 1))) else some (.inl (false,w64 (s4.2 + 1))))) else some (.inr s4.1))
noncomputable def Af (x0 : TLog) (s1 : Int × (List Int)) : Option ((Int × (List Int)) ⊕ (List Int)) :=
 ((if decide (s1.1 < x0.Segs) then (if decide (s1.1 < 11) then some true else some false) else some false) : Option Bool).bind (fun y3=>(if y3 then (iter (P6 x0 s1) (false,0)).bind (fun y7=>(if !y7 then (app? 8 s1.2 [s1.1]).bind fun v8=>some (.inl (w64 (s1.1 + 1),v8)) else some (.inl (w64 (s1.1 + 1),s1.2)))) else some (.inr s1.2)))
noncomputable def M2 (x0 : TLog) : Option (List Int) :=
 (iter (Af x0) (0,([] : List Int))).bind (fun y9=>some y9)
noncomputable def P4 (x0 : TLog) (x1 : Int) : Option (Bool × TLog) :=
 (M2 ({ Disk:=({ Sectors:=x0.Disk.Sectors,Cache:=x0.Disk.Cache } : TDisk),Segs:=x0.Segs,Used:=[],NextGen:=x0.NextGen,NextSeq:=x0.NextSeq,Stamp:=x0.Stamp,NextValid:=x0.NextValid } : TLog)).bind fun v1=>((if decide (x1 < 0) then some true else (if decide ((v1.length : Int) ≤ x1) then some true else some false)) : Option Bool).bind (fun y2=>(if y2 then some (false,({ Disk:=({ Sectors:=x0.Disk.Sectors,Cache:=x0.Disk.Cache } : TDisk),Segs:=x0.Segs,Used:=([] : List TSeg),NextGen:=x0.NextGen,NextSeq:=x0.NextSeq,Stamp:=x0.Stamp,NextValid:=x0.NextValid } : TLog)) else (H5 ({ Gen:=x0.NextGen,Seq:=1,Body:=[115,101,103] } : TFrame)).bind fun v3=>(at? v1 0).bind fun v4=>(F0 ({ Sectors:=x0.Disk.Sectors,Cache:=x0.Disk.Cache } : TDisk) v4 0 v3.1).bind fun v5=>((if !v3.2 then some true else (if !v5.2 then some true else (if decide (x0.NextGen ≥ 1000000000) then some true else some false))) : Option Bool).bind (fun y6=>(if y6 then some (false,({ Disk:=({ Sectors:=x0.Disk.Sectors,Cache:=x0.Disk.Cache } : TDisk),Segs:=x0.Segs,Used:=([] : List TSeg),NextGen:=x0.NextGen,NextSeq:=x0.NextSeq,Stamp:=x0.Stamp,NextValid:=x0.NextValid } : TLog)) else (G4 v5.1).bind fun v7=>(at? v1 0).bind fun v8=>(app? 48 ([] : List TSeg) [({ No:=v8,Gen:=x0.NextGen,End:=(v3.1.length : Int),Items:=[] } : TSeg)]).bind fun v9=>some (true,({ Disk:=({ Sectors:=v7.Sectors,Cache:=v7.Cache } : TDisk),Segs:=x0.Segs,Used:=v9,NextGen:=w64 (x0.NextGen + 1),NextSeq:=x0.NextSeq,Stamp:=x0.Stamp,NextValid:=x0.NextValid } : TLog))))))
noncomputable def U9 (x0 : Int) : Option (TLog × Bool) :=
 (B7 x0 5 11).bind fun v1=>(if v1 then (Am (w64 (8 + (w64 (x0 * 8))))).bind fun v2=>(P4 ({ Disk:=({ Sectors:=v2.1.Sectors,Cache:=v2.1.Cache } : TDisk),Segs:=x0,Used:=[],NextGen:=1,NextSeq:=1,Stamp:=0,NextValid:=1 } : TLog) 0).bind fun v3=>(if v3.1 then (Y1 ({ Disk:=({ Sectors:=v3.2.Disk.Sectors,Cache:=v3.2.Disk.Cache } : TDisk),Segs:=v3.2.Segs,Used:=v3.2.Used,NextGen:=v3.2.NextGen,NextSeq:=v3.2.NextSeq,Stamp:=v3.2.Stamp,NextValid:=v3.2.NextValid } : TLog)).bind fun v4=>(P5 ({ Sectors:=v3.2.Disk.Sectors,Cache:=v3.2.Disk.Cache } : TDisk) v4).bind fun v5=>(if !v5.2 then some (({ Disk:=({ Sectors:=[],Cache:=[] } : TDisk),Segs:=0,Used:=[],NextGen:=0,NextSeq:=0,Stamp:=0,NextValid:=0 } : TLog),false) else some (({ Disk:=({ Sectors:=v5.1.Sectors,Cache:=v5.1.Cache } : TDisk),Segs:=v3.2.Segs,Used:=v3.2.Used,NextGen:=v3.2.NextGen,NextSeq:=v3.2.NextSeq,Stamp:=1,NextValid:=v3.2.NextValid } : TLog),true)) else some (({ Disk:=({ Sectors:=[],Cache:=[] } : TDisk),Segs:=0,Used:=[],NextGen:=0,NextSeq:=0,Stamp:=0,NextValid:=0 } : TLog),false)) else some (({ Disk:=({ Sectors:=[],Cache:=[] } : TDisk),Segs:=0,Used:=[],NextGen:=0,NextSeq:=0,Stamp:=0,NextValid:=0 } : TLog),false))
noncomputable def M4 (x0 : TL01Cur) (x1 : List (List UInt8)) : Option ((List UInt8) × TL01Cur) :=
 (C6 ({ mB:=x0.mB,mI:=x0.mI,mH:=x0.mH } : TL01Cur) (x1.length : Int)).bind fun v1=>(at? x1 v1.1).bind fun v2=>some (v2,({ mB:=x0.mB,mI:=v1.2.mI,mH:=v1.2.mH } : TL01Cur))
noncomputable def X6 (x0 : TL01Cur) : Option ((List UInt8) × TL01Cur) :=
 (M4 ({ mB:=x0.mB,mI:=x0.mI,mH:=x0.mH } : TL01Cur) [[104,101,108,108,111],[102,114,111,109,58,32,97,110,110,10,10,104,105],[115,117,98,106,101,99,116,58,32,120,10,10,98,111,100,121,32,111,102,32,105,116,10,46,100,111,116,10],[],[120,10,46,46,10]]).bind fun v1=>some (v1.1,({ mB:=x0.mB,mI:=v1.2.mI,mH:=v1.2.mH } : TL01Cur))
noncomputable def Q8 (x0 : TL01Cur) (x1 : List Int) : Option (Int × TL01Cur) :=
 (C6 ({ mB:=x0.mB,mI:=x0.mI,mH:=x0.mH } : TL01Cur) (x1.length : Int)).bind fun v1=>(at? x1 v1.1).bind fun v2=>some (v2,({ mB:=x0.mB,mI:=v1.2.mI,mH:=v1.2.mH } : TL01Cur))
noncomputable def Z6 (x0 : TL01Cur) : Option (TRec × TL01Cur) :=
 (Q8 ({ mB:=x0.mB,mI:=x0.mI,mH:=x0.mH } : TL01Cur) ([1,1,2,3,3,3,3,4,4,5,5] : List Int)).bind fun v1=>(C6 ({ mB:=x0.mB,mI:=v1.2.mI,mH:=v1.2.mH } : TL01Cur) 3).bind fun v2=>(if (v1.1 == 1) then (M4 ({ mB:=x0.mB,mI:=v2.2.mI,mH:=v2.2.mH } : TL01Cur) [[97,110,110],[98,111,98]]).bind fun v9=>(M4 ({ mB:=x0.mB,mI:=v9.2.mI,mH:=v9.2.mH } : TL01Cur) [[105,110,98,111,120],[119,111,114,107]]).bind fun v10=>(C6 ({ mB:=x0.mB,mI:=v10.2.mI,mH:=v10.2.mH } : TL01Cur) 6).bind fun v11=>some (({ Kind:=v1.1,Valid:=w64 (1 + v2.1),Uid:=0,Next:=w64 (1 + v11.1),Flags:=0,User:=v9.1,Name:=v10.1,Text:=[] } : TRec),({ mB:=x0.mB,mI:=v11.2.mI,mH:=v11.2.mH } : TL01Cur)) else (if (v1.1 == 3) then (C6 ({ mB:=x0.mB,mI:=v2.2.mI,mH:=v2.2.mH } : TL01Cur) 5).bind fun v6=>(C6 ({ mB:=x0.mB,mI:=v6.2.mI,mH:=v6.2.mH } : TL01Cur) 8).bind fun v7=>(X6 ({ mB:=x0.mB,mI:=v7.2.mI,mH:=v7.2.mH } : TL01Cur)).bind fun v8=>some (({ Kind:=v1.1,Valid:=w64 (1 + v2.1),Uid:=w64 (1 + v6.1),Next:=0,Flags:=v7.1,User:=[],Name:=[],Text:=v8.1 } : TRec),({ mB:=x0.mB,mI:=v8.2.mI,mH:=v8.2.mH } : TL01Cur)) else (if (v1.1 == 4) then (C6 ({ mB:=x0.mB,mI:=v2.2.mI,mH:=v2.2.mH } : TL01Cur) 5).bind fun v4=>(C6 ({ mB:=x0.mB,mI:=v4.2.mI,mH:=v4.2.mH } : TL01Cur) 8).bind fun v5=>some (({ Kind:=v1.1,Valid:=w64 (1 + v2.1),Uid:=w64 (1 + v4.1),Next:=0,Flags:=v5.1,User:=[],Name:=[],Text:=[] } : TRec),({ mB:=x0.mB,mI:=v5.2.mI,mH:=v5.2.mH } : TL01Cur)) else (if (v1.1 == 5) then (C6 ({ mB:=x0.mB,mI:=v2.2.mI,mH:=v2.2.mH } : TL01Cur) 5).bind fun v3=>some (({ Kind:=v1.1,Valid:=w64 (1 + v2.1),Uid:=w64 (1 + v3.1),Next:=0,Flags:=0,User:=[],Name:=[],Text:=[] } : TRec),({ mB:=x0.mB,mI:=v3.2.mI,mH:=v3.2.mH } : TL01Cur)) else some (({ Kind:=v1.1,Valid:=w64 (1 + v2.1),Uid:=0,Next:=0,Flags:=0,User:=[],Name:=[],Text:=[] } : TRec),({ mB:=x0.mB,mI:=v2.2.mI,mH:=v2.2.mH } : TL01Cur))))))
noncomputable def W2 (x1 : TItem) (v1 : List TItem) (s2 : Int) : Option (Int ⊕ (Bool ⊕ Unit)) :=
 (if decide (s2 < (v1.length : Int)) then ((at? v1 s2).bind fun v5=>(if (v5.Seq == x1.Seq) then (at? v1 s2).bind fun v6=>(if !(v6.Seq == x1.Seq && (v6.Rec.Kind == x1.Rec.Kind && (v6.Rec.Valid == x1.Rec.Valid && (v6.Rec.Uid == x1.Rec.Uid && (v6.Rec.Next == x1.Rec.Next && (v6.Rec.Flags == x1.Rec.Flags && (v6.Rec.User == x1.Rec.User && (v6.Rec.Name == x1.Rec.Name && (v6.Rec.Text == x1.Rec.Text && true))))))))) then some true else some false) else some false) : Option Bool).bind (fun y4=>(if y4 then some (.inr (.inl false)) else some (.inl (w64 (s2 + 1))))) else some (.inr (.inr ())))
noncomputable def W8 (x0 : TLog) (x1 : TItem) : Option Bool :=
 (Y0 x0).bind fun v1=>(iter (W2 x1 v1) 0).bind (Sum.elim (fun r=>some r) (fun y3=>some (decide ((v1.length : Int) < 200))))
noncomputable def T6 (x0 : List UInt8) (s1 : Int) : Option (Int ⊕ (Bool ⊕ Unit)) :=
 (if decide (s1 < (x0.length : Int)) then ((bt? x0 s1).bind fun v4=>(if decide ((v4.toNat : Int) < 97) then some true else (bt? x0 s1).bind fun v5=>(if decide ((v5.toNat : Int) > 122) then some true else some false)) : Option Bool).bind (fun y3=>(if y3 then some (.inr (.inl false)) else some (.inl (w64 (s1 + 1))))) else some (.inr (.inr ())))
noncomputable def Ac (x0 : List UInt8) : Option Bool :=
 (iter (T6 x0) 0).bind (Sum.elim (fun r=>some r) (fun y2=>(B7 (x0.length : Int) 1 8).bind fun v7=>some v7))
noncomputable def Bo (x0 : TRec) : Option Bool :=
 ((B7 x0.Kind 1 5).bind fun v2=>(if v2 then (B7 x0.Valid 1 9999).bind fun v3=>(if v3 then some false else some true) else some true) : Option Bool).bind (fun y1=>(if y1 then some false else (if (x0.Kind == 1) then ((if (x0.Kind == 3) then some true else (if (x0.Kind == 4) then some true else (if (x0.Kind == 5) then some true else some false))) : Option Bool).bind (fun y11=>((if (x0.Kind == 3) then some true else (if (x0.Kind == 4) then some true else some false)) : Option Bool).bind (fun y12=>((Ac x0.User).bind fun v14=>(if v14 then (Ac x0.Name).bind fun v15=>(if v15 then (B7 x0.Next 1 10000).bind fun v16=>(if v16 then some false else some true) else some true) else some true) : Option Bool).bind (fun y13=>(if y13 then some false else ((if y11 then (B7 x0.Uid 1 9999).bind fun v18=>(if v18 then some false else some true) else (if (x0.Uid != 0) then some true else some false)) : Option Bool).bind (fun y17=>(if y17 then some false else ((if y12 then (B7 x0.Flags 0 7).bind fun v20=>(if v20 then some false else some true) else (if (x0.Flags != 0) then some true else some false)) : Option Bool).bind (fun y19=>(if y19 then some false else (if (x0.Kind == 3) then some (decide ((x0.Text.length : Int) ≤ 100)) else some (x0.Text == [])))))))))) else ((if (x0.Kind == 3) then some true else (if (x0.Kind == 4) then some true else (if (x0.Kind == 5) then some true else some false))) : Option Bool).bind (fun y4=>((if (x0.Kind == 3) then some true else (if (x0.Kind == 4) then some true else some false)) : Option Bool).bind (fun y5=>((if (!(x0.User == [])) then some true else (if (!(x0.Name == [])) then some true else (if (x0.Next != 0) then some true else some false))) : Option Bool).bind (fun y6=>(if y6 then some false else ((if y4 then (B7 x0.Uid 1 9999).bind fun v8=>(if v8 then some false else some true) else (if (x0.Uid != 0) then some true else some false)) : Option Bool).bind (fun y7=>(if y7 then some false else ((if y5 then (B7 x0.Flags 0 7).bind fun v10=>(if v10 then some false else some true) else (if (x0.Flags != 0) then some true else some false)) : Option Bool).bind (fun y9=>(if y9 then some false else (if (x0.Kind == 3) then some (decide ((x0.Text.length : Int) ≤ 100)) else some (x0.Text == [])))))))))))))
noncomputable def X9 (x0 : TRec) : Option ((List UInt8) × Bool) :=
 (Bo x0).bind fun v1=>(if v1 then (D4 x0.Valid).bind fun v2=>(cat? ([IntKind.u8.wrap x0.Kind].map ofI) v2).bind fun v3=>(D4 x0.Uid).bind fun v4=>(cat? v3 v4).bind fun v5=>(D4 x0.Next).bind fun v6=>(cat? v5 v6).bind fun v7=>(D4 x0.Flags).bind fun v8=>(cat? v7 v8).bind fun v9=>(M1 x0.User).bind fun v10=>(cat? v9 v10).bind fun v11=>(M1 x0.Name).bind fun v12=>(cat? v11 v12).bind fun v13=>(M1 x0.Text).bind fun v14=>(cat? v13 v14).bind fun v15=>some (v15,true) else some ([],false))
noncomputable def X1 (x0 : TItem) (x1 : Int) : Option (TFrame × Bool) :=
 (X9 x0.Rec).bind fun v1=>((if !v1.2 then some true else (W9 ({ Gen:=x1,Seq:=x0.Seq,Body:=v1.1 } : TFrame)).bind fun v3=>(if v3 then some false else some true)) : Option Bool).bind (fun y2=>(if y2 then some (({ Gen:=0,Seq:=0,Body:=[] } : TFrame),false) else some (({ Gen:=x1,Seq:=x0.Seq,Body:=v1.1 } : TFrame),true)))
noncomputable def P7 (x0 : TLog) (x1 : Int) : Option (Bool × TLog) :=
 (M2 ({ Disk:=({ Sectors:=x0.Disk.Sectors,Cache:=x0.Disk.Cache } : TDisk),Segs:=x0.Segs,Used:=x0.Used,NextGen:=x0.NextGen,NextSeq:=x0.NextSeq,Stamp:=x0.Stamp,NextValid:=x0.NextValid } : TLog)).bind fun v1=>((if decide (x1 < 0) then some true else (if decide ((v1.length : Int) ≤ x1) then some true else some false)) : Option Bool).bind (fun y2=>(if y2 then some (false,({ Disk:=({ Sectors:=x0.Disk.Sectors,Cache:=x0.Disk.Cache } : TDisk),Segs:=x0.Segs,Used:=x0.Used,NextGen:=x0.NextGen,NextSeq:=x0.NextSeq,Stamp:=x0.Stamp,NextValid:=x0.NextValid } : TLog)) else (H5 ({ Gen:=x0.NextGen,Seq:=1,Body:=[115,101,103] } : TFrame)).bind fun v3=>(at? v1 0).bind fun v4=>(F0 ({ Sectors:=x0.Disk.Sectors,Cache:=x0.Disk.Cache } : TDisk) v4 0 v3.1).bind fun v5=>((if !v3.2 then some true else (if !v5.2 then some true else (if decide (x0.NextGen ≥ 1000000000) then some true else some false))) : Option Bool).bind (fun y6=>(if y6 then some (false,({ Disk:=({ Sectors:=x0.Disk.Sectors,Cache:=x0.Disk.Cache } : TDisk),Segs:=x0.Segs,Used:=x0.Used,NextGen:=x0.NextGen,NextSeq:=x0.NextSeq,Stamp:=x0.Stamp,NextValid:=x0.NextValid } : TLog)) else (G4 v5.1).bind fun v7=>(app? 48 ([] : List TSeg) x0.Used).bind fun v8=>(at? v1 0).bind fun v9=>(app? 48 v8 [({ No:=v9,Gen:=x0.NextGen,End:=(v3.1.length : Int),Items:=[] } : TSeg)]).bind fun v10=>some (true,({ Disk:=({ Sectors:=v7.Sectors,Cache:=v7.Cache } : TDisk),Segs:=x0.Segs,Used:=v10,NextGen:=w64 (x0.NextGen + 1),NextSeq:=x0.NextSeq,Stamp:=x0.Stamp,NextValid:=x0.NextValid } : TLog))))))
noncomputable def M0 (x0 : TLog) (x1 : TItem) (x2 : Int) : Option (Bool × TLog) :=
 (at? x0.Used (w64 ((x0.Used.length : Int) - 1))).bind fun v1=>(X1 x1 v1.Gen).bind fun v2=>(H5 v2.1).bind fun v3=>(if !v2.2 then some (false,({ Disk:=({ Sectors:=x0.Disk.Sectors,Cache:=x0.Disk.Cache } : TDisk),Segs:=x0.Segs,Used:=x0.Used,NextGen:=x0.NextGen,NextSeq:=x0.NextSeq,Stamp:=x0.Stamp,NextValid:=x0.NextValid } : TLog)) else (if !v3.2 then some (false,({ Disk:=({ Sectors:=x0.Disk.Sectors,Cache:=x0.Disk.Cache } : TDisk),Segs:=x0.Segs,Used:=x0.Used,NextGen:=x0.NextGen,NextSeq:=x0.NextSeq,Stamp:=x0.Stamp,NextValid:=x0.NextValid } : TLog)) else (if decide (x1.Seq ≥ 1000000000) then some (false,({ Disk:=({ Sectors:=x0.Disk.Sectors,Cache:=x0.Disk.Cache } : TDisk),Segs:=x0.Segs,Used:=x0.Used,NextGen:=x0.NextGen,NextSeq:=x0.NextSeq,Stamp:=x0.Stamp,NextValid:=x0.NextValid } : TLog)) else (if decide ((w64 (v1.End + (v3.1.length : Int))) > 256) then (P7 ({ Disk:=({ Sectors:=x0.Disk.Sectors,Cache:=x0.Disk.Cache } : TDisk),Segs:=x0.Segs,Used:=x0.Used,NextGen:=x0.NextGen,NextSeq:=x0.NextSeq,Stamp:=x0.Stamp,NextValid:=x0.NextValid } : TLog) x2).bind fun v10=>(if v10.1 then (at? v10.2.Used (w64 ((v10.2.Used.length : Int) - 1))).bind fun v11=>(H5 ({ Gen:=v11.Gen,Seq:=v2.1.Seq,Body:=v2.1.Body } : TFrame)).bind fun v12=>(if !v12.2 then some (false,({ Disk:=({ Sectors:=v10.2.Disk.Sectors,Cache:=v10.2.Disk.Cache } : TDisk),Segs:=v10.2.Segs,Used:=v10.2.Used,NextGen:=v10.2.NextGen,NextSeq:=v10.2.NextSeq,Stamp:=v10.2.Stamp,NextValid:=v10.2.NextValid } : TLog)) else (if decide ((w64 (v11.End + (v12.1.length : Int))) > 256) then some (false,({ Disk:=({ Sectors:=v10.2.Disk.Sectors,Cache:=v10.2.Disk.Cache } : TDisk),Segs:=v10.2.Segs,Used:=v10.2.Used,NextGen:=v10.2.NextGen,NextSeq:=v10.2.NextSeq,Stamp:=v10.2.Stamp,NextValid:=v10.2.NextValid } : TLog)) else (F0 ({ Sectors:=v10.2.Disk.Sectors,Cache:=v10.2.Disk.Cache } : TDisk) v11.No v11.End v12.1).bind fun v13=>(if !v13.2 then some (false,({ Disk:=({ Sectors:=v10.2.Disk.Sectors,Cache:=v10.2.Disk.Cache } : TDisk),Segs:=v10.2.Segs,Used:=v10.2.Used,NextGen:=v10.2.NextGen,NextSeq:=v10.2.NextSeq,Stamp:=v10.2.Stamp,NextValid:=v10.2.NextValid } : TLog)) else (G4 v13.1).bind fun v14=>(app? 96 ([] : List TItem) v11.Items).bind fun v15=>(app? 96 v15 ([x1] : List TItem)).bind fun v16=>(at? v10.2.Used (w64 ((v10.2.Used.length : Int) - 1))).bind fun v17=>(some (set' v10.2.Used (w64 ((v10.2.Used.length : Int) - 1)) ({ No:=v11.No,Gen:=v11.Gen,End:=w64 (v11.End + (v12.1.length : Int)),Items:=v16 } : TSeg))).bind fun v18=>(if decide (x1.Seq ≥ v10.2.NextSeq) then (if decide (x1.Rec.Valid ≥ v10.2.NextValid) then some (true,({ Disk:=({ Sectors:=v14.Sectors,Cache:=v14.Cache } : TDisk),Segs:=v10.2.Segs,Used:=v18,NextGen:=v10.2.NextGen,NextSeq:=w64 (x1.Seq + 1),Stamp:=v10.2.Stamp,NextValid:=w64 (x1.Rec.Valid + 1) } : TLog)) else some (true,({ Disk:=({ Sectors:=v14.Sectors,Cache:=v14.Cache } : TDisk),Segs:=v10.2.Segs,Used:=v18,NextGen:=v10.2.NextGen,NextSeq:=w64 (x1.Seq + 1),Stamp:=v10.2.Stamp,NextValid:=v10.2.NextValid } : TLog))) else (if decide (x1.Rec.Valid ≥ v10.2.NextValid) then some (true,({ Disk:=({ Sectors:=v14.Sectors,Cache:=v14.Cache } : TDisk),Segs:=v10.2.Segs,Used:=v18,NextGen:=v10.2.NextGen,NextSeq:=v10.2.NextSeq,Stamp:=v10.2.Stamp,NextValid:=w64 (x1.Rec.Valid + 1) } : TLog)) else some (true,({ Disk:=({ Sectors:=v14.Sectors,Cache:=v14.Cache } : TDisk),Segs:=v10.2.Segs,Used:=v18,NextGen:=v10.2.NextGen,NextSeq:=v10.2.NextSeq,Stamp:=v10.2.Stamp,NextValid:=v10.2.NextValid } : TLog))))))) else some (false,({ Disk:=({ Sectors:=v10.2.Disk.Sectors,Cache:=v10.2.Disk.Cache } : TDisk),Segs:=v10.2.Segs,Used:=v10.2.Used,NextGen:=v10.2.NextGen,NextSeq:=v10.2.NextSeq,Stamp:=v10.2.Stamp,NextValid:=v10.2.NextValid } : TLog))) else (F0 ({ Sectors:=x0.Disk.Sectors,Cache:=x0.Disk.Cache } : TDisk) v1.No v1.End v3.1).bind fun v4=>(if !v4.2 then some (false,({ Disk:=({ Sectors:=x0.Disk.Sectors,Cache:=x0.Disk.Cache } : TDisk),Segs:=x0.Segs,Used:=x0.Used,NextGen:=x0.NextGen,NextSeq:=x0.NextSeq,Stamp:=x0.Stamp,NextValid:=x0.NextValid } : TLog)) else (G4 v4.1).bind fun v5=>(app? 96 ([] : List TItem) v1.Items).bind fun v6=>(app? 96 v6 ([x1] : List TItem)).bind fun v7=>(at? x0.Used (w64 ((x0.Used.length : Int) - 1))).bind fun v8=>(some (set' x0.Used (w64 ((x0.Used.length : Int) - 1)) ({ No:=v1.No,Gen:=v1.Gen,End:=w64 (v1.End + (v3.1.length : Int)),Items:=v7 } : TSeg))).bind fun v9=>(if decide (x1.Seq ≥ x0.NextSeq) then (if decide (x1.Rec.Valid ≥ x0.NextValid) then some (true,({ Disk:=({ Sectors:=v5.Sectors,Cache:=v5.Cache } : TDisk),Segs:=x0.Segs,Used:=v9,NextGen:=x0.NextGen,NextSeq:=w64 (x1.Seq + 1),Stamp:=x0.Stamp,NextValid:=w64 (x1.Rec.Valid + 1) } : TLog)) else some (true,({ Disk:=({ Sectors:=v5.Sectors,Cache:=v5.Cache } : TDisk),Segs:=x0.Segs,Used:=v9,NextGen:=x0.NextGen,NextSeq:=w64 (x1.Seq + 1),Stamp:=x0.Stamp,NextValid:=x0.NextValid } : TLog))) else (if decide (x1.Rec.Valid ≥ x0.NextValid) then some (true,({ Disk:=({ Sectors:=v5.Sectors,Cache:=v5.Cache } : TDisk),Segs:=x0.Segs,Used:=v9,NextGen:=x0.NextGen,NextSeq:=x0.NextSeq,Stamp:=x0.Stamp,NextValid:=w64 (x1.Rec.Valid + 1) } : TLog)) else some (true,({ Disk:=({ Sectors:=v5.Sectors,Cache:=v5.Cache } : TDisk),Segs:=x0.Segs,Used:=v9,NextGen:=x0.NextGen,NextSeq:=x0.NextSeq,Stamp:=x0.Stamp,NextValid:=x0.NextValid } : TLog)))))))))
noncomputable def V0 (x0 : TL01Cur) (s3 : Int × Int × Int × Int × Int × Int × Int × Int × (List (List UInt8)) × (List TWrite) × (List TSeg)) : Option ((Int × Int × Int × Int × Int × Int × Int × Int × (List (List UInt8)) × (List TWrite) × (List TSeg)) ⊕ (Int × Int × Int × Int × Int × Int × Int × (List (List UInt8)) × (List TWrite) × (List TSeg))) :=
 (C6 ({ mB:=x0.mB,mI:=s3.2.1,mH:=s3.2.2.1 } : TL01Cur) 34).bind fun v5=>(if decide (s3.1 < v5.1) then (Z6 ({ mB:=x0.mB,mI:=v5.2.mI,mH:=v5.2.mH } : TL01Cur)).bind fun v6=>(W8 ({ Disk:=({ Sectors:=s3.2.2.2.2.2.2.2.2.1,Cache:=s3.2.2.2.2.2.2.2.2.2.1 } : TDisk),Segs:=s3.2.2.2.1,Used:=s3.2.2.2.2.2.2.2.2.2.2,NextGen:=s3.2.2.2.2.1,NextSeq:=s3.2.2.2.2.2.1,Stamp:=s3.2.2.2.2.2.2.1,NextValid:=s3.2.2.2.2.2.2.2.1 } : TLog) ({ Seq:=s3.2.2.2.2.2.1,Rec:=v6.1 } : TItem)).bind fun v7=>(if v7 then (M0 ({ Disk:=({ Sectors:=s3.2.2.2.2.2.2.2.2.1,Cache:=s3.2.2.2.2.2.2.2.2.2.1 } : TDisk),Segs:=s3.2.2.2.1,Used:=s3.2.2.2.2.2.2.2.2.2.2,NextGen:=s3.2.2.2.2.1,NextSeq:=s3.2.2.2.2.2.1,Stamp:=s3.2.2.2.2.2.2.1,NextValid:=s3.2.2.2.2.2.2.2.1 } : TLog) ({ Seq:=s3.2.2.2.2.2.1,Rec:=v6.1 } : TItem) 1).bind fun v8=>some (.inl (w64 (s3.1 + 1),v6.2.mI,v6.2.mH,v8.2.Segs,v8.2.NextGen,v8.2.NextSeq,v8.2.Stamp,v8.2.NextValid,v8.2.Disk.Sectors,v8.2.Disk.Cache,v8.2.Used)) else some (.inl (w64 (s3.1 + 1),v6.2.mI,v6.2.mH,s3.2.2.2.1,s3.2.2.2.2.1,s3.2.2.2.2.2.1,s3.2.2.2.2.2.2.1,s3.2.2.2.2.2.2.2.1,s3.2.2.2.2.2.2.2.2.1,s3.2.2.2.2.2.2.2.2.2.1,s3.2.2.2.2.2.2.2.2.2.2))) else some (.inr (v5.2.mI,v5.2.mH,s3.2.2.2.1,s3.2.2.2.2.1,s3.2.2.2.2.2.1,s3.2.2.2.2.2.2.1,s3.2.2.2.2.2.2.2.1,s3.2.2.2.2.2.2.2.2.1,s3.2.2.2.2.2.2.2.2.2.1,s3.2.2.2.2.2.2.2.2.2.2)))
noncomputable def Z5 (x0 : TL01Cur) : Option (TLog × TL01Cur) :=
 (C6 ({ mB:=x0.mB,mI:=x0.mI,mH:=x0.mH } : TL01Cur) 4).bind fun v1=>(U9 (w64 (5 + v1.1))).bind fun v2=>(iter (V0 x0) (0,v1.2.mI,v1.2.mH,v2.1.Segs,v2.1.NextGen,v2.1.NextSeq,v2.1.Stamp,v2.1.NextValid,v2.1.Disk.Sectors,v2.1.Disk.Cache,v2.1.Used)).bind (fun y9=>some (({ Disk:=({ Sectors:=y9.2.2.2.2.2.2.2.1,Cache:=y9.2.2.2.2.2.2.2.2.1 } : TDisk),Segs:=y9.2.2.1,Used:=y9.2.2.2.2.2.2.2.2.2,NextGen:=y9.2.2.2.1,NextSeq:=y9.2.2.2.2.1,Stamp:=y9.2.2.2.2.2.1,NextValid:=y9.2.2.2.2.2.2.1 } : TLog),({ mB:=x0.mB,mI:=y9.1,mH:=y9.2.1 } : TL01Cur)))
noncomputable def Bj (x0 : List Int) : Option TLog :=
 (T9 x0).bind fun v2=>(Z5 ({ mB:=x0,mI:=v2.mI,mH:=v2.mH } : TL01Cur)).bind fun v3=>some ({ Disk:=({ Sectors:=v3.1.Disk.Sectors,Cache:=v3.1.Disk.Cache } : TDisk),Segs:=v3.1.Segs,Used:=v3.1.Used,NextGen:=v3.1.NextGen,NextSeq:=v3.1.NextSeq,Stamp:=v3.1.Stamp,NextValid:=v3.1.NextValid } : TLog)
noncomputable def Dv (x0 : List Int) : Option Bool :=
 (Cu x0).bind fun v1=>(if v1 then some true else (Bj x0).bind fun v2=>(U6 x0).bind fun v3=>(at? v3 0).bind fun v4=>(Q2 v2).bind fun v5=>(Bc v2 (Int.tmod v4 4)).bind fun v6=>((if !(v6.2 == (decide ((v5.length : Int) > (Int.tmod v4 4)))) then some true else (if ((w64 ((v5.length : Int) + (v2.Used.length : Int))) != v2.Segs) then some true else some false)) : Option Bool).bind (fun y7=>(if y7 then some false else (if !v6.2 then (Ar v6.1 v2).bind fun v16=>some v16 else (at? v6.1.Used (w64 ((v6.1.Used.length : Int) - 1))).bind fun v8=>((Bu v6.1).bind fun v10=>(if v10 then (at? v5 0).bind fun v11=>(if (v8.No == v11) then (if (v8.Gen == v2.NextGen) then (Q2 v6.1).bind fun v12=>(if ((v12.length : Int) == (w64 ((v5.length : Int) - 1))) then (Y3 v6.1).bind fun v13=>(Y0 v2).bind fun v14=>(W3 v13 v14).bind fun v15=>some v15 else some false) else some false) else some false) else some false) : Option Bool).bind (fun y9=>some y9)))))
noncomputable def Bp (x0 : List TItem) (s1 : Int) (s8 : Int) : Option (Int ⊕ (Bool ⊕ Unit)) :=
 (if decide (s8 < s1) then ((at? x0 s8).bind fun v11=>(at? x0 s1).bind fun v12=>(if (v11.Seq == v12.Seq) then (at? x0 s8).bind fun v13=>(at? x0 s1).bind fun v14=>(if !(v13.Seq == v14.Seq && (v13.Rec.Kind == v14.Rec.Kind && (v13.Rec.Valid == v14.Rec.Valid && (v13.Rec.Uid == v14.Rec.Uid && (v13.Rec.Next == v14.Rec.Next && (v13.Rec.Flags == v14.Rec.Flags && (v13.Rec.User == v14.Rec.User && (v13.Rec.Name == v14.Rec.Name && (v13.Rec.Text == v14.Rec.Text && true))))))))) then some true else some false) else some false) : Option Bool).bind (fun y10=>(if y10 then some (.inr (.inl false)) else some (.inl (w64 (s8 + 1))))) else some (.inr (.inr ())))
noncomputable def Bw (x0 : List TItem) (s1 : Int) : Option (Int ⊕ (Bool ⊕ Unit)) :=
 (if decide (s1 < (x0.length : Int)) then ((at? x0 s1).bind fun v4=>(B7 v4.Seq 1 1000000000).bind fun v5=>(if v5 then (at? x0 s1).bind fun v6=>(Bo v6.Rec).bind fun v7=>(if v7 then some false else some true) else some true) : Option Bool).bind (fun y3=>(if y3 then some (.inr (.inl false)) else (iter (Bp x0 s1) 0).bind (Sum.elim (fun r=>some (.inr (.inl r))) (fun y9=>some (.inl (w64 (s1 + 1))))))) else some (.inr (.inr ())))
noncomputable def Lm (x0 : List TItem) : Option Bool :=
 (iter (Bw x0) 0).bind (Sum.elim (fun r=>some r) (fun y2=>some (decide ((x0.length : Int) ≤ 200))))
noncomputable def R4 (x0 : List UInt8) (x1 : Int) (s2 : Int × Int × Int) : Option ((Int × Int × Int) ⊕ ((Int × Int × Bool) ⊕ Unit)) :=
 ((if decide (s2.2.2 < (x0.length : Int)) then (if decide (s2.2.2 < (w64 (x1 + 5))) then some true else some false) else some false) : Option Bool).bind (fun y4=>(if y4 then (bt? x0 s2.2.2).bind fun v5=>(bt? x0 s2.2.2).bind fun v6=>(if decide ((v6.toNat : Int) < 128) then ((if decide ((w64 (s2.1 + (w64 ((Int.tmod (w64 (v5.toNat : Int)) 128) * s2.2.1)))) > 1000000000) then some true else (D4 (w64 (s2.1 + (w64 ((Int.tmod (w64 (v5.toNat : Int)) 128) * s2.2.1))))).bind fun v8=>(sub? x0 x1 (w64 (s2.2.2 + 1))).bind fun v9=>(if (!(v8 == v9)) then some true else some false)) : Option Bool).bind (fun y7=>(if y7 then some (.inr (.inl (0,0,false))) else some (.inr (.inl (w64 (s2.1 + (w64 ((Int.tmod (w64 (v5.toNat : Int)) 128) * s2.2.1))),w64 (s2.2.2 + 1),true))))) else some (.inl (w64 (s2.1 + (w64 ((Int.tmod (w64 (v5.toNat : Int)) 128) * s2.2.1))),w64 (s2.2.1 * 128),w64 (s2.2.2 + 1)))) else some (.inr (.inr ()))))
noncomputable def X0 (x0 : List UInt8) (x1 : Int) : Option (Int × Int × Bool) :=
 (B7 x1 0 (x0.length : Int)).bind fun v1=>(if v1 then (iter (R4 x0 x1) (0,1,x1)).bind (Sum.elim (fun r=>some r) (fun y3=>some (0,0,false))) else some (0,0,false))
noncomputable def Bx (x0 : List UInt8) (x1 : Int) : Option ((List UInt8) × Int × Bool) :=
 (X0 x0 x1).bind fun v1=>((if !v1.2.2 then some true else (if decide (v1.1 > 20000) then some true else (if decide (v1.1 > (w64 ((x0.length : Int) - v1.2.1))) then some true else some false))) : Option Bool).bind (fun y2=>(if y2 then some ([],0,false) else (sub? x0 v1.2.1 (w64 (v1.2.1 + v1.1))).bind fun v3=>some (v3,w64 (v1.2.1 + v1.1),true)))
noncomputable def Eg (x0 : List UInt8) (x1 : Int) : Option (TFrame × Int × Bool) :=
 (X0 x0 x1).bind fun v1=>(X0 x0 v1.2.1).bind fun v2=>(Bx x0 v2.2.1).bind fun v3=>((if !v1.2.2 then some true else (if !v2.2.2 then some true else (if !v3.2.2 then some true else (if decide (v3.2.1 > (w64 ((x0.length : Int) - 4))) then some true else (if decide (x1 < 0) then some true else some false))))) : Option Bool).bind (fun y4=>(if y4 then some (({ Gen:=0,Seq:=0,Body:=[] } : TFrame),0,false) else (H5 ({ Gen:=v1.1,Seq:=v2.1,Body:=v3.1 } : TFrame)).bind fun v5=>((if !v5.2 then some true else (sub? x0 x1 (w64 (v3.2.1 + 4))).bind fun v7=>(if (!(v5.1 == v7)) then some true else some false)) : Option Bool).bind (fun y6=>(if y6 then some (({ Gen:=0,Seq:=0,Body:=[] } : TFrame),0,false) else some (({ Gen:=v1.1,Seq:=v2.1,Body:=v3.1 } : TFrame),w64 (v3.2.1 + 4),true)))))
noncomputable def L0 (x0 : TL06Cur) : Option (Int × TL06Cur) :=
 (X0 x0.mText x0.mAt).bind fun v1=>(if x0.mBad then some (0,({ mText:=x0.mText,mAt:=x0.mAt,mBad:=true } : TL06Cur)) else (if !v1.2.2 then some (0,({ mText:=x0.mText,mAt:=x0.mAt,mBad:=true } : TL06Cur)) else some (v1.1,({ mText:=x0.mText,mAt:=v1.2.1,mBad:=false } : TL06Cur))))
noncomputable def G9 (x0 : TL06Cur) : Option ((List UInt8) × TL06Cur) :=
 (Bx x0.mText x0.mAt).bind fun v1=>(if x0.mBad then some ([],({ mText:=x0.mText,mAt:=x0.mAt,mBad:=true } : TL06Cur)) else (if !v1.2.2 then some ([],({ mText:=x0.mText,mAt:=x0.mAt,mBad:=true } : TL06Cur)) else some (v1.1,({ mText:=x0.mText,mAt:=v1.2.1,mBad:=false } : TL06Cur))))
noncomputable def Y2 (x0 : List UInt8) : Option (TRec × Bool) :=
 (if (x0 == []) then some (({ Kind:=0,Valid:=0,Uid:=0,Next:=0,Flags:=0,User:=[],Name:=[],Text:=[] } : TRec),false) else (bt? x0 0).bind fun v1=>(L0 ({ mText:=x0,mAt:=1,mBad:=false } : TL06Cur)).bind fun v2=>(L0 v2.2).bind fun v3=>(L0 v3.2).bind fun v4=>(L0 v4.2).bind fun v5=>(G9 v5.2).bind fun v6=>(G9 v6.2).bind fun v7=>(G9 v7.2).bind fun v8=>(X9 ({ Kind:=w64 (v1.toNat : Int),Valid:=v2.1,Uid:=v3.1,Next:=v4.1,Flags:=v5.1,User:=v6.1,Name:=v7.1,Text:=v8.1 } : TRec)).bind fun v9=>((if v8.2.mBad then some true else (if !v9.2 then some true else (if (!(v9.1 == x0)) then some true else some false))) : Option Bool).bind (fun y10=>(if y10 then some (({ Kind:=0,Valid:=0,Uid:=0,Next:=0,Flags:=0,User:=[],Name:=[],Text:=[] } : TRec),false) else some (({ Kind:=w64 (v1.toNat : Int),Valid:=v2.1,Uid:=v3.1,Next:=v4.1,Flags:=v5.1,User:=v6.1,Name:=v7.1,Text:=v8.1 } : TRec),true))))
noncomputable def Ce (x0 : List UInt8) (x1 : Int) (s1 : Int × (List TFrame)) : Option ((Int × (List TFrame)) ⊕ (((List TFrame) × Int) ⊕ Empty)) :=
 (Eg x0 s1.1).bind fun v3=>((if !v3.2.2 then some true else (if (v3.1.Gen != x1) then some true else some false)) : Option Bool).bind (fun y4=>(if y4 then some (.inr (.inl (s1.2,s1.1))) else (app? 32 s1.2 [v3.1]).bind fun v5=>some (.inl (v3.2.1,v5))))
noncomputable def Gv (x0 : List UInt8) (x1 : Int) : Option ((List TFrame) × Int) :=
 (iter (Ce x0 x1) (0,([] : List TFrame))).bind (Sum.elim (fun r=>some r) (fun y=>y.elim))
noncomputable def V6 (x0 : TDisk) (x1 : Int) (x2 : Int) (s2 : (List UInt8) × Int) : Option (((List UInt8) × Int) ⊕ (((List UInt8) × Bool) ⊕ (List UInt8))) :=
 (if decide (s2.2 < x2) then ((if decide (x1 < 0) then some true else (if decide (x1 > (x0.Sectors.length : Int)) then some true else some false)) : Option Bool).bind (fun y4=>(if y4 then some (.inr (.inl ([],false))) else (J8 x0 (w64 (x1 + s2.2))).bind fun v5=>(if !v5.2 then some (.inr (.inl ([],false))) else (cat? s2.1 v5.1).bind fun v6=>some (.inl (v6,w64 (s2.2 + 1)))))) else some (.inr (.inr s2.1)))
noncomputable def Dp (x0 : TDisk) (x1 : Int) (x2 : Int) : Option ((List UInt8) × Bool) :=
 (B7 x2 0 100).bind fun v1=>(if v1 then (iter (V6 x0 x1 x2) ([],0)).bind (Sum.elim (fun r=>some r) (fun y3=>some (y3,true))) else some ([],false))
noncomputable def Lk (x0 : TDisk) (x1 : Int) : Option (List UInt8) :=
 (B7 x1 0 10).bind fun v1=>(if v1 then (Q4 x1).bind fun v2=>(Dp x0 v2 8).bind fun v3=>some v3.1 else some [])
end Go.Proofs.YtldndhdohlfpgaaGreat.V
