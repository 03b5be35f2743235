/- Records, and what the functions compute. -/
import Derived.Test.YtldndhdohlfpgaaXE
/- Records, and how they lie in cells. -/
namespace Go.Proofs.Ytldndhdohlfpgaa.V
open Go Go.Proofs Go.RowKit
set_option maxRecDepth 100000
structure TWrite where
 At:Int
 Text:List UInt8
def Ap (_:Bool) (x:TWrite):List AV:=[.j x.At,.str x.Text]
theorem Qk (o:Bool) (x:TWrite):∀ v∈Ap o x,Scl v:=(fac .int (fac .str fan))
theorem Wc:FlatOk Ap 2:=⟨⟨fun _ _=>rfl,by omega,fun _ _=>(fac .int (fac .str fan)),fun _=>(fac .int (fac .str fan)),fun _=>(.cons .refl (.cons .refl .nil))⟩,fun _=>rfl,fun _ _=>(fac rfl (fac rfl fan)),fun _ _=>(fac rfl (fac rfl fan))⟩
theorem Ao:EncOk Ap 2:=Wc.toEncOk
abbrev A0a (l:List TWrite):AV:=.lst false 2 (fl (Ap false) l) l.length
structure TDisk where
 Sectors:List (List UInt8)
 Cache:List TWrite
def Pz (o:Bool) (x:TDisk):List AV:=[.lst o 1 (fl (encS o) x.Sectors) x.Sectors.length,.lst o 2 (fl (Ap o) x.Cache) x.Cache.length]
theorem Yr:EncOk Pz 2:=⟨fun _ _=>rfl,by omega,fun _ _=>(fac (.lst (ekS.fdat _ _)) (fac (.lst (Ao.fdat _ _)) fan)),fun _=>(fac (.lst (ekS.fown _)) (fac (.lst (Ao.fown _)) fan)),fun _=>(.cons (ekS.fflag _).lst (.cons (Ao.fflag _).lst .nil))⟩
abbrev L_TDisk (l:List TDisk):AV:=.lst false 2 (fl (Pz false) l) l.length
structure TRec where
 Kind:Int
 Valid:Int
 Uid:Int
 Next:Int
 Flags:Int
 User:List UInt8
 Name:List UInt8
 Text:List UInt8
def A7 (_:Bool) (x:TRec):List AV:=[.j x.Kind,.j x.Valid,.j x.Uid,.j x.Next,.j x.Flags,.str x.User,.str x.Name,.str x.Text]
theorem Vn (o:Bool) (x:TRec):∀ v∈A7 o x,Scl v:=(fac .int (fac .int (fac .int (fac .int (fac .int (fac .str (fac .str (fac .str fan))))))))
theorem Gr:FlatOk A7 8:=⟨⟨fun _ _=>rfl,by omega,fun _ _=>(fac .int (fac .int (fac .int (fac .int (fac .int (fac .str (fac .str (fac .str fan)))))))),fun _=>(fac .int (fac .int (fac .int (fac .int (fac .int (fac .str (fac .str (fac .str fan)))))))),fun _=>(.cons .refl (.cons .refl (.cons .refl (.cons .refl (.cons .refl (.cons .refl (.cons .refl (.cons .refl .nil))))))))⟩,fun _=>rfl,fun _ _=>(fac rfl (fac rfl (fac rfl (fac rfl (fac rfl (fac rfl (fac rfl (fac rfl fan)))))))),fun _ _=>(fac rfl (fac rfl (fac rfl (fac rfl (fac rfl (fac rfl (fac rfl (fac rfl fan))))))))⟩
theorem Gp:EncOk A7 8:=Gr.toEncOk
abbrev Cb (l:List TRec):AV:=.lst false 8 (fl (A7 false) l) l.length
structure TItem where
 Seq:Int
 Rec:TRec
def A1 (_:Bool) (x:TItem):List AV:=[.j x.Seq,.j x.Rec.Kind,.j x.Rec.Valid,.j x.Rec.Uid,.j x.Rec.Next,.j x.Rec.Flags,.str x.Rec.User,.str x.Rec.Name,.str x.Rec.Text]
theorem Ts (o:Bool) (x:TItem):∀ v∈A1 o x,Scl v:=(fac .int (fac .int (fac .int (fac .int (fac .int (fac .int (fac .str (fac .str (fac .str fan)))))))))
theorem F5:FlatOk A1 9:=⟨⟨fun _ _=>rfl,by omega,fun _ _=>(fac .int (fac .int (fac .int (fac .int (fac .int (fac .int (fac .str (fac .str (fac .str fan))))))))),fun _=>(fac .int (fac .int (fac .int (fac .int (fac .int (fac .int (fac .str (fac .str (fac .str fan))))))))),fun _=>(.cons .refl (.cons .refl (.cons .refl (.cons .refl (.cons .refl (.cons .refl (.cons .refl (.cons .refl (.cons .refl .nil)))))))))⟩,fun _=>rfl,fun _ _=>(fac rfl (fac rfl (fac rfl (fac rfl (fac rfl (fac rfl (fac rfl (fac rfl (fac rfl fan))))))))),fun _ _=>(fac rfl (fac rfl (fac rfl (fac rfl (fac rfl (fac rfl (fac rfl (fac rfl (fac rfl fan)))))))))⟩
theorem B3:EncOk A1 9:=F5.toEncOk
abbrev A5 (l:List TItem):AV:=.lst false 9 (fl (A1 false) l) l.length
structure TSeg where
 No:Int
 Gen:Int
 End:Int
 Items:List TItem
def Lh (o:Bool) (x:TSeg):List AV:=[.j x.No,.j x.Gen,.j x.End,.lst o 9 (fl (A1 o) x.Items) x.Items.length]
theorem Kq:EncOk Lh 4:=⟨fun _ _=>rfl,by omega,fun _ _=>(fac .int (fac .int (fac .int (fac (.lst (B3.fdat _ _)) fan)))),fun _=>(fac .int (fac .int (fac .int (fac (.lst (B3.fown _)) fan)))),fun _=>(.cons .refl (.cons .refl (.cons .refl (.cons (B3.fflag _).lst .nil))))⟩
abbrev L_TSeg (l:List TSeg):AV:=.lst false 4 (fl (Lh false) l) l.length
structure TLog where
 Disk:TDisk
 Segs:Int
 Used:List TSeg
 NextGen:Int
 NextSeq:Int
 Stamp:Int
 NextValid:Int
def Tn (o:Bool) (x:TLog):List AV:=[.lst o 1 (fl (encS o) x.Disk.Sectors) x.Disk.Sectors.length,.lst o 2 (fl (Ap o) x.Disk.Cache) x.Disk.Cache.length,.j x.Segs,.lst o 4 (fl (Lh o) x.Used) x.Used.length,.j x.NextGen,.j x.NextSeq,.j x.Stamp,.j x.NextValid]
theorem Zk:EncOk Tn 8:=⟨fun _ _=>rfl,by omega,fun _ _=>(fac (.lst (ekS.fdat _ _)) (fac (.lst (Ao.fdat _ _)) (fac .int (fac (.lst (Kq.fdat _ _)) (fac .int (fac .int (fac .int (fac .int fan)))))))),fun _=>(fac (.lst (ekS.fown _)) (fac (.lst (Ao.fown _)) (fac .int (fac (.lst (Kq.fown _)) (fac .int (fac .int (fac .int (fac .int fan)))))))),fun _=>(.cons (ekS.fflag _).lst (.cons (Ao.fflag _).lst (.cons .refl (.cons (Kq.fflag _).lst (.cons .refl (.cons .refl (.cons .refl (.cons .refl .nil))))))))⟩
abbrev L_TLog (l:List TLog):AV:=.lst false 8 (fl (Tn false) l) l.length
structure TL01Cur where
 mB:List Int
 mI:Int
 mH:Int
def Jo (o:Bool) (x:TL01Cur):List AV:=[.lst o 1 (fl (encB o) x.mB) x.mB.length,.j x.mI,.j x.mH]
theorem Uf:EncOk Jo 3:=⟨fun _ _=>rfl,by omega,fun _ _=>(fac (.lst (ekB.fdat _ _)) (fac .int (fac .int fan))),fun _=>(fac (.lst (ekB.fown _)) (fac .int (fac .int fan))),fun _=>(.cons (ekB.fflag _).lst (.cons .refl (.cons .refl .nil)))⟩
abbrev A05 (l:List TL01Cur):AV:=.lst false 3 (fl (Jo false) l) l.length
structure TFrame where
 Gen:Int
 Seq:Int
 Body:List UInt8
def Cu (_:Bool) (x:TFrame):List AV:=[.j x.Gen,.j x.Seq,.str x.Body]
theorem Pt (o:Bool) (x:TFrame):∀ v∈Cu o x,Scl v:=(fac .int (fac .int (fac .str fan)))
theorem Wp:FlatOk Cu 3:=⟨⟨fun _ _=>rfl,by omega,fun _ _=>(fac .int (fac .int (fac .str fan))),fun _=>(fac .int (fac .int (fac .str fan))),fun _=>(.cons .refl (.cons .refl (.cons .refl .nil)))⟩,fun _=>rfl,fun _ _=>(fac rfl (fac rfl (fac rfl fan))),fun _ _=>(fac rfl (fac rfl (fac rfl fan)))⟩
theorem Wk:EncOk Cu 3:=Wp.toEncOk
abbrev A0e (l:List TFrame):AV:=.lst false 3 (fl (Cu false) l) l.length
structure TRef where
 No:Int
 Gen:Int
def Du (_:Bool) (x:TRef):List AV:=[.j x.No,.j x.Gen]
theorem Vb (o:Bool) (x:TRef):∀ v∈Du o x,Scl v:=(fac .int (fac .int fan))
theorem Zg:FlatOk Du 2:=⟨⟨fun _ _=>rfl,by omega,fun _ _=>(fac .int (fac .int fan)),fun _=>(fac .int (fac .int fan)),fun _=>(.cons .refl (.cons .refl .nil))⟩,fun _=>rfl,fun _ _=>(fac rfl (fac rfl fan)),fun _ _=>(fac rfl (fac rfl fan))⟩
theorem Ks:EncOk Du 2:=Zg.toEncOk
abbrev L_TRef (l:List TRef):AV:=.lst false 2 (fl (Du false) l) l.length
structure TCheck where
 Stamp:Int
 NextGen:Int
 NextSeq:Int
 NextValid:Int
 Refs:List TRef
def Ln (o:Bool) (x:TCheck):List AV:=[.j x.Stamp,.j x.NextGen,.j x.NextSeq,.j x.NextValid,.lst o 2 (fl (Du o) x.Refs) x.Refs.length]
theorem Vu:EncOk Ln 5:=⟨fun _ _=>rfl,by omega,fun _ _=>(fac .int (fac .int (fac .int (fac .int (fac (.lst (Ks.fdat _ _)) fan))))),fun _=>(fac .int (fac .int (fac .int (fac .int (fac (.lst (Ks.fown _)) fan))))),fun _=>(.cons .refl (.cons .refl (.cons .refl (.cons .refl (.cons (Ks.fflag _).lst .nil)))))⟩
abbrev A0b (l:List TCheck):AV:=.lst false 5 (fl (Ln false) l) l.length
structure TL06Cur where
 mText:List UInt8
 mAt:Int
 mBad:Bool
def Cd (_:Bool) (x:TL06Cur):List AV:=[.str x.mText,.j x.mAt,.bool x.mBad]
theorem Mm (o:Bool) (x:TL06Cur):∀ v∈Cd o x,Scl v:=(fac .str (fac .int (fac .bool fan)))
theorem Uy:FlatOk Cd 3:=⟨⟨fun _ _=>rfl,by omega,fun _ _=>(fac .str (fac .int (fac .bool fan))),fun _=>(fac .str (fac .int (fac .bool fan))),fun _=>(.cons .refl (.cons .refl (.cons .refl .nil)))⟩,fun _=>rfl,fun _ _=>(fac rfl (fac rfl (fac rfl fan))),fun _ _=>(fac rfl (fac rfl (fac rfl fan)))⟩
theorem Tx:EncOk Cd 3:=Uy.toEncOk
abbrev A07 (l:List TL06Cur):AV:=.lst false 3 (fl (Cd false) l) l.length
structure TMail where
 Uid:Int
 Flags:Int
 Text:List UInt8
def J3 (_:Bool) (x:TMail):List AV:=[.j x.Uid,.j x.Flags,.str x.Text]
theorem Ro (o:Bool) (x:TMail):∀ v∈J3 o x,Scl v:=(fac .int (fac .int (fac .str fan)))
theorem Ei:FlatOk J3 3:=⟨⟨fun _ _=>rfl,by omega,fun _ _=>(fac .int (fac .int (fac .str fan))),fun _=>(fac .int (fac .int (fac .str fan))),fun _=>(.cons .refl (.cons .refl (.cons .refl .nil)))⟩,fun _=>rfl,fun _ _=>(fac rfl (fac rfl (fac rfl fan))),fun _ _=>(fac rfl (fac rfl (fac rfl fan)))⟩
theorem Y2:EncOk J3 3:=Ei.toEncOk
abbrev L_TMail (l:List TMail):AV:=.lst false 3 (fl (J3 false) l) l.length
structure TBox where
 Valid:Int
 User:List UInt8
 Name:List UInt8
 Next:Int
 Mails:List TMail
def C4 (o:Bool) (x:TBox):List AV:=[.j x.Valid,.str x.User,.str x.Name,.j x.Next,.lst o 3 (fl (J3 o) x.Mails) x.Mails.length]
theorem Y4:EncOk C4 5:=⟨fun _ _=>rfl,by omega,fun _ _=>(fac .int (fac .str (fac .str (fac .int (fac (.lst (Y2.fdat _ _)) fan))))),fun _=>(fac .int (fac .str (fac .str (fac .int (fac (.lst (Y2.fown _)) fan))))),fun _=>(.cons .refl (.cons .refl (.cons .refl (.cons .refl (.cons (Y2.fflag _).lst .nil)))))⟩
abbrev Bd (l:List TBox):AV:=.lst false 5 (fl (C4 false) l) l.length
structure TState where
 Boxes:List TBox
def W1 (o:Bool) (x:TState):List AV:=[.lst o 5 (fl (C4 o) x.Boxes) x.Boxes.length]
theorem Wv:EncOk W1 1:=⟨fun _ _=>rfl,by omega,fun _ _=>(fac (.lst (Y4.fdat _ _)) fan),fun _=>(fac (.lst (Y4.fown _)) fan),fun _=>(.cons (Y4.fflag _).lst .nil)⟩
abbrev A0d (l:List TState):AV:=.lst false 1 (fl (W1 false) l) l.length
def Wx (x:TWrite):Prop:=((Lit.int .i64 x.At).wf=true)∧(x.Text.length≤maxLen)∧True
def Xl (x:TDisk):Prop:=(x.Sectors.length≤maxLen∧∀ a∈x.Sectors,a.length≤maxLen)∧(x.Cache.length≤maxLen∧∀ a∈x.Cache,Wx a)∧True
def Zl (x:TRec):Prop:=((Lit.int .i64 x.Kind).wf=true)∧((Lit.int .i64 x.Valid).wf=true)∧((Lit.int .i64 x.Uid).wf=true)∧((Lit.int .i64 x.Next).wf=true)∧((Lit.int .i64 x.Flags).wf=true)∧(x.User.length≤maxLen)∧(x.Name.length≤maxLen)∧(x.Text.length≤maxLen)∧True
def Yq (x:TItem):Prop:=((Lit.int .i64 x.Seq).wf=true)∧(Zl x.Rec)∧True
def Zn (x:TSeg):Prop:=((Lit.int .i64 x.No).wf=true)∧((Lit.int .i64 x.Gen).wf=true)∧((Lit.int .i64 x.End).wf=true)∧(x.Items.length≤maxLen∧∀ a∈x.Items,Yq a)∧True
def wf_TLog (x:TLog):Prop:=(Xl x.Disk)∧((Lit.int .i64 x.Segs).wf=true)∧(x.Used.length≤maxLen∧∀ a∈x.Used,Zn a)∧((Lit.int .i64 x.NextGen).wf=true)∧((Lit.int .i64 x.NextSeq).wf=true)∧((Lit.int .i64 x.Stamp).wf=true)∧((Lit.int .i64 x.NextValid).wf=true)∧True
def A04 (x:TL01Cur):Prop:=(x.mB.length≤maxLen∧∀ a∈x.mB,(Lit.int .u8 a).wf=true)∧((Lit.int .i64 x.mI).wf=true)∧((Lit.int .i64 x.mH).wf=true)∧True
def A08 (x:TFrame):Prop:=((Lit.int .i64 x.Gen).wf=true)∧((Lit.int .i64 x.Seq).wf=true)∧(x.Body.length≤maxLen)∧True
def Ze (x:TRef):Prop:=((Lit.int .i64 x.No).wf=true)∧((Lit.int .i64 x.Gen).wf=true)∧True
def A06 (x:TCheck):Prop:=((Lit.int .i64 x.Stamp).wf=true)∧((Lit.int .i64 x.NextGen).wf=true)∧((Lit.int .i64 x.NextSeq).wf=true)∧((Lit.int .i64 x.NextValid).wf=true)∧(x.Refs.length≤maxLen∧∀ a∈x.Refs,Ze a)∧True
def A01 (x:TL06Cur):Prop:=(x.mText.length≤maxLen)∧((Lit.int .i64 x.mAt).wf=true)∧(True)∧True
def Xv (x:TMail):Prop:=((Lit.int .i64 x.Uid).wf=true)∧((Lit.int .i64 x.Flags).wf=true)∧(x.Text.length≤maxLen)∧True
def Zr (x:TBox):Prop:=((Lit.int .i64 x.Valid).wf=true)∧(x.User.length≤maxLen)∧(x.Name.length≤maxLen)∧((Lit.int .i64 x.Next).wf=true)∧(x.Mails.length≤maxLen∧∀ a∈x.Mails,Xv a)∧True
def A09 (x:TState):Prop:=(x.Boxes.length≤maxLen∧∀ a∈x.Boxes,Zr a)∧True
theorem eo {α:Type} {enc:Bool→α→List AV} {es:Nat} (h:EncOk enc es:=by first | exact ekS | exact ekI | exact ekB | exact ekW | exact ekO | exact Ao | exact Yr | exact Gp | exact B3 | exact Kq | exact Zk | exact Uf | exact Wk | exact Ks | exact Vu | exact Tx | exact Y2 | exact Y4 | exact Wv):EncOk enc es:=h
section
variable {P:Program} {N nw n:Nat} {f:FuncId} {args ds args':List AV} {a a' a1:Asg} {H0 H H' H1 Hc:AH} {r r' r0 v v0:AV} {K:AV→AH→Prop} {rr:List RR}
theorem Gh.y0 (ns:List Nat) (hb:RnBs ns H ns H':=by repeat' first | exact .nil | refine .keep .int ?_ | refine .keep .str ?_ | refine .slq rfl rfl ?_ | refine .keep .nils ?_ | refine .ptr rfl ?_ | refine .keep .bool ?_ | refine .same rfl (EncOk.fref eo _ _) ?_ | refine .keep (EncOk.rlst eo) ?_ | refine .sl rfl ?_ | refine .dead rfl ?_ | refine .cells rfl rfl ?_ ?_ | refine .keep .und ?_ | refine RnC.fl eo ?_ | exact RnC.flz eo | refine .keep (.lst fan) ?_ | refine .keep (.pv ekB.rlst) ?_ | refine .fn ?_ ?_ | exact .dat .int | exact .ptr rfl | exact .dat .str | exact .slq rfl rfl | exact .sl rfl | exact .dat .bool | exact .dat (EncOk.rlst eo) | exact .dat (EncOk.rrec eo) | exact .und | exact .dat .nils | refine .cons ?_ ?_ | refine RnL.agg ?_ | refine RnL.tup ?_ | refine RnL.fn ?_ | exact .dat (.pv ekB.rlst) | refine .dat (.el ?_) | exact fan | refine fac ?_ ?_ | exact .int | exact .str | exact .bool | exact EncOk.rlst eo) (hn:nodupB ns=true:=by rfl) (hs:SubL ns a a':=by repeat' first | exact .nil | refine .cons rfl ?_ ?_ | exact .dat .int | exact .ptr rfl | exact .dat .str | exact .slq rfl rfl | exact .sl rfl | exact .dat .bool | exact .dat (EncOk.rlst eo) | exact .dat (EncOk.rrec eo) | exact .und | exact .dat .nils | refine .cons ?_ ?_ | refine RnL.agg ?_ | refine RnL.tup ?_ | refine RnL.fn ?_ | exact .dat (.pv ekB.rlst) | refine .dat (.el ?_) | exact fan | refine fac ?_ ?_ | exact .int | exact .str | exact .bool | exact EncOk.rlst eo):Gh 0 N [] a H a' H':=Gh.ren0 ns hb hn hs
theorem Gh.rN (ns:List Nat) (hb:RnBs ns H ns H':=by repeat' first | exact .nil | refine .keep .int ?_ | refine .keep .str ?_ | refine .slq rfl rfl ?_ | refine .keep .nils ?_ | refine .ptr rfl ?_ | refine .keep .bool ?_ | refine .same rfl (EncOk.fref eo _ _) ?_ | refine .keep (EncOk.rlst eo) ?_ | refine .sl rfl ?_ | refine .dead rfl ?_ | refine .cells rfl rfl ?_ ?_ | refine .keep .und ?_ | refine RnC.fl eo ?_ | exact RnC.flz eo | refine .keep (.lst fan) ?_ | refine .keep (.pv ekB.rlst) ?_ | refine .fn ?_ ?_ | exact .dat .int | exact .ptr rfl | exact .dat .str | exact .slq rfl rfl | exact .sl rfl | exact .dat .bool | exact .dat (EncOk.rlst eo) | exact .dat (EncOk.rrec eo) | exact .und | exact .dat .nils | refine .cons ?_ ?_ | refine RnL.agg ?_ | refine RnL.tup ?_ | refine RnL.fn ?_ | exact .dat (.pv ekB.rlst) | refine .dat (.el ?_) | exact fan | refine fac ?_ ?_ | exact .int | exact .str | exact .bool | exact EncOk.rlst eo) (hn:nodupB ns=true:=by rfl) (hl:Nat.ble H0.length ns.length=true:=by rfl) (hid:(List.range H0.length).all (fun i=>Nat.beq (ns.getD i (i+1)) i)=true:=by rfl) (hs:SubL ns a a':=by repeat' first | exact .nil | refine .cons rfl ?_ ?_ | exact .dat .int | exact .ptr rfl | exact .dat .str | exact .slq rfl rfl | exact .sl rfl | exact .dat .bool | exact .dat (EncOk.rlst eo) | exact .dat (EncOk.rrec eo) | exact .und | exact .dat .nils | refine .cons ?_ ?_ | refine RnL.agg ?_ | refine RnL.tup ?_ | refine RnL.fn ?_ | exact .dat (.pv ekB.rlst) | refine .dat (.el ?_) | exact fan | refine fac ?_ ?_ | exact .int | exact .str | exact .bool | exact EncOk.rlst eo):Gh nw N H0 a H a' H':=Gh.renN ns hb hn hl hid hs
theorem RRetM.m (ns:List Nat) (g:Gh nw N H0 a H a1 H1) (hv:rares a1 H1 rr=some v0:=by rfl) (hb:RnBs ns H1 ns H':=by repeat' first | exact .nil | refine .keep .int ?_ | refine .keep .str ?_ | refine .slq rfl rfl ?_ | refine .keep .nils ?_ | refine .ptr rfl ?_ | refine .keep .bool ?_ | refine .same rfl (EncOk.fref eo _ _) ?_ | refine .keep (EncOk.rlst eo) ?_ | refine .sl rfl ?_ | refine .dead rfl ?_ | refine .cells rfl rfl ?_ ?_ | refine .keep .und ?_ | refine RnC.fl eo ?_ | exact RnC.flz eo | refine .keep (.lst fan) ?_ | refine .keep (.pv ekB.rlst) ?_ | refine .fn ?_ ?_ | exact .dat .int | exact .ptr rfl | exact .dat .str | exact .slq rfl rfl | exact .sl rfl | exact .dat .bool | exact .dat (EncOk.rlst eo) | exact .dat (EncOk.rrec eo) | exact .und | exact .dat .nils | refine .cons ?_ ?_ | refine RnL.agg ?_ | refine RnL.tup ?_ | refine RnL.fn ?_ | exact .dat (.pv ekB.rlst) | refine .dat (.el ?_) | exact fan | refine fac ?_ ?_ | exact .int | exact .str | exact .bool | exact EncOk.rlst eo) (hn:nodupB ns=true:=by rfl) (hl:Nat.ble H0.length ns.length=true:=by rfl) (hid:(List.range H0.length).all (fun i=>Nat.beq (ns.getD i (i+1)) i)=true:=by rfl) (hr:Rn ns v0 v:=by repeat' first | exact .nil | refine .cons rfl ?_ ?_ | exact .dat .int | exact .ptr rfl | exact .dat .str | exact .slq rfl rfl | exact .sl rfl | exact .dat .bool | exact .dat (EncOk.rlst eo) | exact .dat (EncOk.rrec eo) | exact .und | exact .dat .nils | refine .cons ?_ ?_ | refine RnL.agg ?_ | refine RnL.tup ?_ | refine RnL.fn ?_ | exact .dat (.pv ekB.rlst) | refine .dat (.el ?_) | exact fan | refine fac ?_ ?_ | exact .int | exact .str | exact .bool | exact EncOk.rlst eo):RRetM N nw H0 rr v H' .ret a H:=RRetM.mk ns g hv hb hn hl hid hr
theorem RRetS.m (g:Gh nw N H0 a H [] H') (hv:rares a H rr=some v:=by rfl) (hs:Scl v:=by repeat' first | exact .int | exact .str | exact .bool | exact .agg (Qk _ _) | exact .agg (Vn _ _) | exact .agg (Ts _ _) | exact .agg (Pt _ _) | exact .agg (Vb _ _) | exact .agg (Mm _ _) | exact .agg (Ro _ _) | refine .tup ?_ | exact fan | refine fac ?_ ?_):RRetS N nw H0 rr v H' .ret a H:=RRetS.mk hv hs g
theorem RRet.y {ids:List Nat} (hv:rares a H rr=some v:=by rfl) (ho:OutR H v r ids:=by repeat' first | exact .und | exact .int | exact .str | exact .bool | exact .nil | apply OutT.cons | apply OutL.cons | rfl | exact OutR.ownq eo rfl rfl | exact .nils | apply OutL.agg | apply OutT.tup) (hn:ids.Nodup:=by first | decide | simp):RRet rr r .ret a H:=RRet.mk hv ho hn
theorem A6.y (h:A8 P f ds r) (hk:K r' H) (hok:okF P f=true:=by kernel_rfl) (hd:DFL H args ds:=by repeat' first | exact .nil | refine .cons ?_ ?_ | exact .int | exact .str | exact .bool | exact .slq eo rfl rfl | exact .lst eo | exact .nils | exact .fn | exact .dat (.agg (EncOk.dat eo false _)) | refine DFL.agg ?_) (hf:Fl r r':=by repeat' first | exact .refl | exact (EncOk.fflag eo _).lst | exact (EncOk.flag eo _).agg | exact .nil | refine .cons ?_ ?_ | refine FlL.tup ?_ | refine FlL.agg ?_):A6 P nw f args H K:=A6.val hok h hd hf hk
theorem A6.yS (h:A8 P f ds r) (hk:K r' H) (hok:okF P f=true:=by kernel_rfl) (hd:DSL H args ds:=by repeat' first | exact .nil | refine .cons ?_ ?_ | refine DS.ptr rfl ?_ | refine DS.el ?_ | refine DS.fn ?_ | refine .of ?_ | exact fan | refine fac ?_ ?_ | exact .int | exact .str | exact .bool | exact .slq eo rfl rfl | exact .lst eo | exact .nils | exact .fn | exact .dat (.agg (EncOk.dat eo false _)) | refine DFL.agg ?_ | exact .lst (EncOk.fdat eo _ _)) (hf:Fl r r':=by repeat' first | exact .refl | exact (EncOk.fflag eo _).lst | exact (EncOk.flag eo _).agg | exact .nil | refine .cons ?_ ?_ | refine FlL.tup ?_ | refine FlL.agg ?_):A6 P nw f args H K:=A6.valS hok h hd hf hk
theorem A6.z (h:A8 P f ds r) (hk:K r' H') (hok:okF P f=true:=by kernel_rfl) (hd:DFL H args ds:=by repeat' first | exact .nil | refine .cons ?_ ?_ | exact .int | exact .str | exact .bool | exact .slq eo rfl rfl | exact .lst eo | exact .nils | exact .fn | exact .dat (.agg (EncOk.dat eo false _)) | refine DFL.agg ?_) (ho:impOk r:=by repeat' first | exact fan | refine fac ?_ ?_ | exact .int | exact .str | exact .bool | exact .lst (EncOk.fown eo _) | exact EncOk.own eo _) (hi:imp H r=(r',H'):=by rfl):A6 P nw f args H K:=A6.own hok h hd ho hi hk
theorem A6.eR (ns:List Nat) (h:B2 P n f args' Hc r Hc) (hk:K r H) (hok:okF P f=true:=by kernel_rfl) (hb:RnBs ns H ns Hc:=by repeat' first | exact .nil | refine .keep .int ?_ | refine .keep .str ?_ | refine .slq rfl rfl ?_ | refine .keep .nils ?_ | refine .ptr rfl ?_ | refine .keep .bool ?_ | refine .same rfl (EncOk.fref eo _ _) ?_ | refine .keep (EncOk.rlst eo) ?_ | refine .sl rfl ?_ | refine .dead rfl ?_ | refine .cells rfl rfl ?_ ?_ | refine .keep .und ?_ | refine RnC.fl eo ?_ | exact RnC.flz eo | refine .keep (.lst fan) ?_ | refine .keep (.pv ekB.rlst) ?_ | refine .fn ?_ ?_ | exact .dat .int | exact .ptr rfl | exact .dat .str | exact .slq rfl rfl | exact .sl rfl | exact .dat .bool | exact .dat (EncOk.rlst eo) | exact .dat (EncOk.rrec eo) | exact .und | exact .dat .nils | refine .cons ?_ ?_ | refine RnL.agg ?_ | refine RnL.tup ?_ | refine RnL.fn ?_ | exact .dat (.pv ekB.rlst) | refine .dat (.el ?_) | exact fan | refine fac ?_ ?_ | exact .int | exact .str | exact .bool | exact EncOk.rlst eo) (hn:nodupB ns=true:=by rfl) (hl:Nat.ble Hc.length n=true:=by rfl) (hargs:RnL ns args args':=by repeat' first | exact .nil | refine .cons rfl ?_ ?_ | exact .dat .int | exact .ptr rfl | exact .dat .str | exact .slq rfl rfl | exact .sl rfl | exact .dat .bool | exact .dat (EncOk.rlst eo) | exact .dat (EncOk.rrec eo) | exact .und | exact .dat .nils | refine .cons ?_ ?_ | refine RnL.agg ?_ | refine RnL.tup ?_ | refine RnL.fn ?_ | exact .dat (.pv ekB.rlst) | refine .dat (.el ?_) | exact fan | refine fac ?_ ?_ | exact .int | exact .str | exact .bool | exact EncOk.rlst eo) (hr:Scl r:=by repeat' first | exact .int | exact .str | exact .bool | exact .agg (Qk _ _) | exact .agg (Vn _ _) | exact .agg (Ts _ _) | exact .agg (Pt _ _) | exact .agg (Vb _ _) | exact .agg (Mm _ _) | exact .agg (Ro _ _) | refine .tup ?_ | exact fan | refine fac ?_ ?_):A6 P nw f args H K:=A6.embR ns hok h hb hn hl hargs hr hk
theorem A6.eN (ks ks' news:List ABlk) (ns:List Nat) (pins:List AV) (h:B2 P 0 f args' (ks.map some) r ((ks'++news).map some)) (hk:K r0 H') (hok:okF P f=true:=by kernel_rfl) (hb:EmN H pins ns ks ks':=by repeat' first | exact .nil | refine .own rfl (EncOk.fref eo _ _) (EncOk.fown eo _) ?_ | refine .cons rfl ?_ ?_ ?_ | exact fan | refine fac ?_ ?_ | exact .int | exact .str | exact .bool | exact .nils | exact .pv ekB.rlst | exact .inl .int | exact .inl .str | exact .inl .bool | exact .inl .nils | exact .inr (.head _) | exact .inr (.tail _ (.head _)) | exact .inl (.lst (EncOk.fown eo _)) | exact EncOk.rlst eo) (hw:NwB pins news:=by repeat' first | exact .nil | refine .own (EncOk.fown eo _) ?_ | refine .cons ?_ ?_ | exact fan | refine fac ?_ ?_ | exact .inl .int | exact .inl .str | exact .inl .bool | exact .inl .nils | exact .inr (.head _) | exact .inr (.tail _ (.head _)) | exact .inl (.lst (EncOk.fown eo _))) (hp:PinL ks ns args pins:=by repeat' first | exact .nil | refine .blk 0 _ _ 0 0 rfl rfl rfl rfl scalB ?_ | refine .blk 0 _ _ 0 1 rfl rfl rfl rfl scalB ?_ | refine .blk 0 _ _ 0 2 rfl rfl rfl rfl scalB ?_ | refine .blk 0 _ _ 0 3 rfl rfl rfl rfl scalB ?_ | refine .blk 1 _ _ 0 0 rfl rfl rfl rfl scalB ?_ | refine .blk 1 _ _ 0 1 rfl rfl rfl rfl scalB ?_ | refine .blk 1 _ _ 0 2 rfl rfl rfl rfl scalB ?_ | refine .blk 1 _ _ 0 3 rfl rfl rfl rfl scalB ?_ | refine .arg 0 rfl scalB ?_ | refine .arg 1 rfl scalB ?_ | refine .arg 2 rfl scalB ?_) (hn:nodupB ns=true:=by rfl) (hargs:RnL ns args args':=by repeat' first | exact .nil | refine .cons rfl ?_ ?_ | exact .dat .int | exact .ptr rfl | exact .dat .str | exact .slq rfl rfl | exact .sl rfl | exact .dat .bool | exact .dat (EncOk.rlst eo) | exact .dat (EncOk.rrec eo) | exact .und | exact .dat .nils | refine .cons ?_ ?_ | refine RnL.agg ?_ | refine RnL.tup ?_ | refine RnL.fn ?_ | exact .dat (.pv ekB.rlst) | refine .dat (.el ?_) | exact fan | refine fac ?_ ?_ | exact .int | exact .str | exact .bool | exact EncOk.rlst eo) (hr:Rt (ns++(List.range news.length).map (H.length+·)) (·∈pins) r0 r:=by repeat' first | exact .nil | refine .cons ?_ ?_ | exact .int | exact .str | exact .bool | exact .sl rfl | exact .ptr rfl | exact .nils | refine RtL.agg ?_ | refine RtL.tup ?_) (hH:putKs H ns (ks'.map some)++news.map some=H':=by rfl):A6 P 0 f args H K:=A6.embN ks ks' news ns pins hok h hb hw hp hn hargs hr hH hk
end
end Go.Proofs.Ytldndhdohlfpgaa.V
/- What the functions compute. -/
namespace Go.Proofs.Ytldndhdohlfpgaa.V
open Go Go.Proofs Go.RowKit
set_option maxRecDepth 100000
noncomputable def Q9 (x0:Int) (x1:Int) (x2:Int):Option Bool :=
 (if decide (x0≥x1) then some (decide (x0≤x2)) else some false)
noncomputable def L0 (x0:List UInt8) (s2:Int):Option (Int ⊕ (Bool ⊕ Unit)) :=
 (if decide (s2<(x0.length:Int)) then ((bt? x0 s2).bind fun v5=>(if decide ((v5.toNat:Int)<97) then some true else (bt? x0 s2).bind fun v6=>(if decide ((v6.toNat:Int)>122) then some true else some false)):Option Bool).bind (fun y4=>(if y4 then some (.inr (.inl false)) else some (.inl (w64 (s2+1))))) else some (.inr (.inr ())))
noncomputable def U6 (x0:List UInt8):Option Bool :=
 (Q9 (x0.length:Int) 1 8).bind fun v1=>(if v1 then (iter (L0 x0) 0).bind (Sum.elim (fun r=>some r) (fun y3=>some true)) else some false)
noncomputable def Z9 (x0:TRec):Option Bool :=
 (Q9 x0.Valid 1 9999).bind fun v1=>(if v1 then ((if (x0.Kind==3) then some true else (if (x0.Kind==4) then some true else (if (x0.Kind==5) then some true else some false))):Option Bool).bind (fun y2=>((if y2 then (Q9 x0.Uid 1 9999).bind fun v4=>(if v4 then some (true,0) else some (false,0)) else some (true,x0.Uid)):Option (Bool×Int)).bind (fun y3=>((if (x0.Kind==3) then some true else (if (x0.Kind==4) then some true else some false)):Option Bool).bind (fun y5=>((if y5 then ((if y3.1 then (Q9 x0.Flags 0 7).bind fun v8=>(if v8 then some true else some false) else some false):Option Bool).bind (fun y7=>some (y7,0)) else some (y3.1,x0.Flags)):Option (Bool×Int)).bind (fun y6=>((if (x0.Kind==1) then ((U6 x0.User).bind fun v12=>(if v12 then (U6 x0.Name).bind fun v13=>(if v13 then (Q9 x0.Next 1 10000).bind fun v14=>(if v14 then some true else some false) else some false) else some false):Option Bool).bind (fun y11=>some (.inr (y11,0,[],[],x0.Text))) else (if (x0.Kind==3) then ((if y6.1 then (if decide ((x0.Text.length:Int)≤100) then some true else some false) else some false):Option Bool).bind (fun y10=>some (.inr (y10,x0.Next,x0.User,x0.Name,[]))) else (if (x0.Kind==2) then some (.inr (y6.1,x0.Next,x0.User,x0.Name,x0.Text)) else (if (x0.Kind==4) then some (.inr (y6.1,x0.Next,x0.User,x0.Name,x0.Text)) else (if (x0.Kind==5) then some (.inr (y6.1,x0.Next,x0.User,x0.Name,x0.Text)) else some (.inl false)))))):Option (Bool ⊕ (Bool×Int×(List UInt8)×(List UInt8)×(List UInt8)))).bind (Sum.elim (fun r=>some r) (fun y9_=>(if y9_.1 then some (0==0&&(0==0&&(y3.2==0&&(y9_.2.1==0&&(y6.2==0&&(y9_.2.2.1==[]&&(y9_.2.2.2.1==[]&&(y9_.2.2.2.2==[]&&true)))))))) else some false))))))) else some false)
noncomputable def K5 (x0:TItem) (x1:TItem):Option Bool :=
 (if (x0.Seq==x1.Seq) then some (!(x0.Seq==x1.Seq&&(x0.Rec.Kind==x1.Rec.Kind&&(x0.Rec.Valid==x1.Rec.Valid&&(x0.Rec.Uid==x1.Rec.Uid&&(x0.Rec.Next==x1.Rec.Next&&(x0.Rec.Flags==x1.Rec.Flags&&(x0.Rec.User==x1.Rec.User&&(x0.Rec.Name==x1.Rec.Name&&(x0.Rec.Text==x1.Rec.Text&&true)))))))))) else some false)
noncomputable def D6 (x0:List TItem) (x1:TItem) (s1:Int):Option (Int ⊕ (Int ⊕ Unit)) :=
 (if decide (s1<(x0.length:Int)) then (at? x0 s1).bind fun v3=>(K5 v3 x1).bind fun v4=>(if v4 then some (.inr (.inl s1)) else some (.inl (w64 (s1+1)))) else some (.inr (.inr ())))
noncomputable def C7 (x0:List TItem) (x1:TItem):Option Int :=
 (iter (D6 x0 x1) 0).bind (Sum.elim (fun r=>some r) (fun y2=>some (-1)))
noncomputable def C1 (x0:List TItem) (x1:TItem):Option Bool :=
 (C7 x0 x1).bind fun v1=>some (decide (v1≥0))
noncomputable def R7 (x0:List TItem) (s1:Int):Option (Int ⊕ (Bool ⊕ Unit)) :=
 (if decide (s1<(x0.length:Int)) then (at? x0 s1).bind fun v3=>((Q9 v3.Seq 1 1000000000).bind fun v5=>(if v5 then (Z9 v3.Rec).bind fun v6=>(if v6 then some false else some true) else some true):Option Bool).bind (fun y4=>(if y4 then some (.inr (.inl false)) else (sub? x0 0 s1).bind fun v7=>(C1 v7 v3).bind fun v8=>(if v8 then some (.inr (.inl false)) else some (.inl (w64 (s1+1)))))) else some (.inr (.inr ())))
noncomputable def K2 (x0:List TItem):Option Bool :=
 (if decide ((x0.length:Int)>200) then some false else (iter (R7 x0) 0).bind (Sum.elim (fun r=>some r) (fun y2=>some true)))
noncomputable def L6 (x0:TItem) (x1:TItem):Option Bool :=
 some (x0.Seq==x1.Seq)
noncomputable def D8 (x0:List TItem) (x1:TItem) (s1:Int):Option (Int ⊕ (Int ⊕ Unit)) :=
 (if decide (s1<(x0.length:Int)) then (at? x0 s1).bind fun v3=>(L6 v3 x1).bind fun v4=>(if v4 then some (.inr (.inl s1)) else some (.inl (w64 (s1+1)))) else some (.inr (.inr ())))
noncomputable def D1 (x0:List TItem) (x1:TItem):Option Int :=
 (iter (D8 x0 x1) 0).bind (Sum.elim (fun r=>some r) (fun y2=>some (-1)))
noncomputable def C3 (x0:List TItem) (x1:TItem):Option Bool :=
 (D1 x0 x1).bind fun v1=>some (decide (v1≥0))
noncomputable def J1 (x0:TItem) (x1:TRec):Option Bool :=
 (if (x0.Rec.Valid==x1.Valid) then some (x0.Rec.Kind != 2) else some false)
noncomputable def D9 (x0:List TItem) (x1:TRec) (s1:Int):Option (Int ⊕ (Int ⊕ Unit)) :=
 (if decide (s1<(x0.length:Int)) then (at? x0 s1).bind fun v3=>(J1 v3 x1).bind fun v4=>(if v4 then some (.inr (.inl s1)) else some (.inl (w64 (s1+1)))) else some (.inr (.inr ())))
noncomputable def D0 (x0:List TItem) (x1:TRec):Option Int :=
 (iter (D9 x0 x1) 0).bind (Sum.elim (fun r=>some r) (fun y2=>some (-1)))
noncomputable def C2 (x0:List TItem) (x1:TRec):Option Bool :=
 (D0 x0 x1).bind fun v1=>some (decide (v1≥0))
noncomputable def L8 (x0:TItem) (x1:TItem):Option Bool :=
 some (decide (x0.Seq<x1.Seq))
noncomputable def E8 (x0:TRec) (x1:Int) (x2:Int):Option Bool :=
 (if (x0.Kind==x1) then some (x0.Valid==x2) else some false)
noncomputable def M4 (x0:TRec) (x1:Int):Option Bool :=
 (E8 x0 2 x1).bind fun v1=>some v1
noncomputable def C8 (x0:List TItem) (x1:Int) (s1:Bool×Int×Int×Int×Int×Int×Int×Int×(List UInt8)×(List UInt8)×(List UInt8)):Option ((Bool×Int×Int×Int×Int×Int×Int×Int×(List UInt8)×(List UInt8)×(List UInt8)) ⊕ (Bool×Int×Int×Int×Int×Int×Int×(List UInt8)×(List UInt8)×(List UInt8))) :=
 (if decide (s1.2.1<(x0.length:Int)) then (at? x0 s1.2.1).bind fun v3=>((M4 v3.Rec x1).bind fun v5=>(if v5 then (if !s1.1 then some true else (L8 ({ Seq:=s1.2.2.1,Rec:=({ Kind:=s1.2.2.2.1,Valid:=s1.2.2.2.2.1,Uid:=s1.2.2.2.2.2.1,Next:=s1.2.2.2.2.2.2.1,Flags:=s1.2.2.2.2.2.2.2.1,User:=s1.2.2.2.2.2.2.2.2.1,Name:=s1.2.2.2.2.2.2.2.2.2.1,Text:=s1.2.2.2.2.2.2.2.2.2.2 }:TRec) }:TItem) v3).bind fun v6=>(if v6 then some true else some false)) else some false):Option Bool).bind (fun y4=>(if y4 then some (.inl (true,w64 (s1.2.1+1),v3.Seq,v3.Rec.Kind,v3.Rec.Valid,v3.Rec.Uid,v3.Rec.Next,v3.Rec.Flags,v3.Rec.User,v3.Rec.Name,v3.Rec.Text)) else some (.inl (s1.1,w64 (s1.2.1+1),s1.2.2.1,s1.2.2.2.1,s1.2.2.2.2.1,s1.2.2.2.2.2.1,s1.2.2.2.2.2.2.1,s1.2.2.2.2.2.2.2.1,s1.2.2.2.2.2.2.2.2.1,s1.2.2.2.2.2.2.2.2.2.1,s1.2.2.2.2.2.2.2.2.2.2)))) else some (.inr (s1.1,s1.2.2.1,s1.2.2.2.1,s1.2.2.2.2.1,s1.2.2.2.2.2.1,s1.2.2.2.2.2.2.1,s1.2.2.2.2.2.2.2.1,s1.2.2.2.2.2.2.2.2.1,s1.2.2.2.2.2.2.2.2.2.1,s1.2.2.2.2.2.2.2.2.2.2)))
noncomputable def D5 (x0:List TItem) (x1:Int):Option (TItem×Bool) :=
 (iter (C8 x0 x1) (false,0,0,0,0,0,0,0,[],[],[])).bind (fun y7=>some (({ Seq:=y7.2.1,Rec:=({ Kind:=y7.2.2.1,Valid:=y7.2.2.2.1,Uid:=y7.2.2.2.2.1,Next:=y7.2.2.2.2.2.1,Flags:=y7.2.2.2.2.2.2.1,User:=y7.2.2.2.2.2.2.2.1,Name:=y7.2.2.2.2.2.2.2.2.1,Text:=y7.2.2.2.2.2.2.2.2.2 }:TRec) }:TItem),y7.1))
noncomputable def M6 (x0:TRec) (x1:Int):Option Bool :=
 (E8 x0 1 x1).bind fun v1=>some v1
noncomputable def Aw (x0:TItem) (x1:TItem):Option Bool :=
 (if (x0.Rec.Next != x1.Rec.Next) then some (decide (x0.Rec.Next<x1.Rec.Next)) else some (decide (x0.Seq<x1.Seq)))
noncomputable def C6 (x0:List TItem) (x1:Int) (s1:Bool×Int×Int×Int×Int×Int×Int×Int×(List UInt8)×(List UInt8)×(List UInt8)):Option ((Bool×Int×Int×Int×Int×Int×Int×Int×(List UInt8)×(List UInt8)×(List UInt8)) ⊕ (Bool×Int×Int×Int×Int×Int×Int×(List UInt8)×(List UInt8)×(List UInt8))) :=
 (if decide (s1.2.1<(x0.length:Int)) then (at? x0 s1.2.1).bind fun v3=>((M6 v3.Rec x1).bind fun v5=>(if v5 then (if !s1.1 then some true else (Aw ({ Seq:=s1.2.2.1,Rec:=({ Kind:=s1.2.2.2.1,Valid:=s1.2.2.2.2.1,Uid:=s1.2.2.2.2.2.1,Next:=s1.2.2.2.2.2.2.1,Flags:=s1.2.2.2.2.2.2.2.1,User:=s1.2.2.2.2.2.2.2.2.1,Name:=s1.2.2.2.2.2.2.2.2.2.1,Text:=s1.2.2.2.2.2.2.2.2.2.2 }:TRec) }:TItem) v3).bind fun v6=>(if v6 then some true else some false)) else some false):Option Bool).bind (fun y4=>(if y4 then some (.inl (true,w64 (s1.2.1+1),v3.Seq,v3.Rec.Kind,v3.Rec.Valid,v3.Rec.Uid,v3.Rec.Next,v3.Rec.Flags,v3.Rec.User,v3.Rec.Name,v3.Rec.Text)) else some (.inl (s1.1,w64 (s1.2.1+1),s1.2.2.1,s1.2.2.2.1,s1.2.2.2.2.1,s1.2.2.2.2.2.1,s1.2.2.2.2.2.2.1,s1.2.2.2.2.2.2.2.1,s1.2.2.2.2.2.2.2.2.1,s1.2.2.2.2.2.2.2.2.2.1,s1.2.2.2.2.2.2.2.2.2.2)))) else some (.inr (s1.1,s1.2.2.1,s1.2.2.2.1,s1.2.2.2.2.1,s1.2.2.2.2.2.1,s1.2.2.2.2.2.2.1,s1.2.2.2.2.2.2.2.1,s1.2.2.2.2.2.2.2.2.1,s1.2.2.2.2.2.2.2.2.2.1,s1.2.2.2.2.2.2.2.2.2.2)))
noncomputable def D3 (x0:List TItem) (x1:Int):Option (TItem×Bool) :=
 (iter (C6 x0 x1) (false,0,0,0,0,0,0,0,[],[],[])).bind (fun y7=>some (({ Seq:=y7.2.1,Rec:=({ Kind:=y7.2.2.1,Valid:=y7.2.2.2.1,Uid:=y7.2.2.2.2.1,Next:=y7.2.2.2.2.2.1,Flags:=y7.2.2.2.2.2.2.1,User:=y7.2.2.2.2.2.2.2.1,Name:=y7.2.2.2.2.2.2.2.2.1,Text:=y7.2.2.2.2.2.2.2.2.2 }:TRec) }:TItem),y7.1))
noncomputable def G8 (x0:List TItem) (x1:Int):Option (TItem×Bool) :=
 (D5 x0 x1).bind fun v1=>(if v1.2 then some (({ Seq:=0,Rec:=({ Kind:=0,Valid:=0,Uid:=0,Next:=0,Flags:=0,User:=[],Name:=[],Text:=[] }:TRec) }:TItem),false) else (D3 x0 x1).bind fun v2=>some (v2.1,v2.2))
noncomputable def V0 (x0:TRec) (x1:TRec):Option Bool :=
 (E8 x0 2 x1.Valid).bind fun v1=>some v1
noncomputable def D4 (x0:List TItem) (x1:TRec) (s1:Bool×Int×Int×Int×Int×Int×Int×Int×(List UInt8)×(List UInt8)×(List UInt8)):Option ((Bool×Int×Int×Int×Int×Int×Int×Int×(List UInt8)×(List UInt8)×(List UInt8)) ⊕ (Bool×Int×Int×Int×Int×Int×Int×(List UInt8)×(List UInt8)×(List UInt8))) :=
 (if decide (s1.2.1<(x0.length:Int)) then (at? x0 s1.2.1).bind fun v3=>((V0 v3.Rec x1).bind fun v5=>(if v5 then (if !s1.1 then some true else (L8 ({ Seq:=s1.2.2.1,Rec:=({ Kind:=s1.2.2.2.1,Valid:=s1.2.2.2.2.1,Uid:=s1.2.2.2.2.2.1,Next:=s1.2.2.2.2.2.2.1,Flags:=s1.2.2.2.2.2.2.2.1,User:=s1.2.2.2.2.2.2.2.2.1,Name:=s1.2.2.2.2.2.2.2.2.2.1,Text:=s1.2.2.2.2.2.2.2.2.2.2 }:TRec) }:TItem) v3).bind fun v6=>(if v6 then some true else some false)) else some false):Option Bool).bind (fun y4=>(if y4 then some (.inl (true,w64 (s1.2.1+1),v3.Seq,v3.Rec.Kind,v3.Rec.Valid,v3.Rec.Uid,v3.Rec.Next,v3.Rec.Flags,v3.Rec.User,v3.Rec.Name,v3.Rec.Text)) else some (.inl (s1.1,w64 (s1.2.1+1),s1.2.2.1,s1.2.2.2.1,s1.2.2.2.2.1,s1.2.2.2.2.2.1,s1.2.2.2.2.2.2.1,s1.2.2.2.2.2.2.2.1,s1.2.2.2.2.2.2.2.2.1,s1.2.2.2.2.2.2.2.2.2.1,s1.2.2.2.2.2.2.2.2.2.2)))) else some (.inr (s1.1,s1.2.2.1,s1.2.2.2.1,s1.2.2.2.2.1,s1.2.2.2.2.2.1,s1.2.2.2.2.2.2.1,s1.2.2.2.2.2.2.2.1,s1.2.2.2.2.2.2.2.2.1,s1.2.2.2.2.2.2.2.2.2.1,s1.2.2.2.2.2.2.2.2.2.2)))
noncomputable def E1 (x0:List TItem) (x1:TRec):Option (TItem×Bool) :=
 (iter (D4 x0 x1) (false,0,0,0,0,0,0,0,[],[],[])).bind (fun y7=>some (({ Seq:=y7.2.1,Rec:=({ Kind:=y7.2.2.1,Valid:=y7.2.2.2.1,Uid:=y7.2.2.2.2.1,Next:=y7.2.2.2.2.2.1,Flags:=y7.2.2.2.2.2.2.1,User:=y7.2.2.2.2.2.2.2.1,Name:=y7.2.2.2.2.2.2.2.2.1,Text:=y7.2.2.2.2.2.2.2.2.2 }:TRec) }:TItem),y7.1))
noncomputable def M5 (x0:TRec) (x1:Int) (x2:Int) (x3:Int):Option Bool :=
 (E8 x0 x1 x2).bind fun v1=>(if v1 then some (x0.Uid==x3) else some false)
noncomputable def C9 (x0:List TItem) (x1:Int) (x2:Int) (x3:Int) (s1:Bool×Int×Int×Int×Int×Int×Int×Int×(List UInt8)×(List UInt8)×(List UInt8)):Option ((Bool×Int×Int×Int×Int×Int×Int×Int×(List UInt8)×(List UInt8)×(List UInt8)) ⊕ (Bool×Int×Int×Int×Int×Int×Int×(List UInt8)×(List UInt8)×(List UInt8))) :=
 (if decide (s1.2.1<(x0.length:Int)) then (at? x0 s1.2.1).bind fun v3=>((M5 v3.Rec x1 x2 x3).bind fun v5=>(if v5 then (if !s1.1 then some true else (L8 ({ Seq:=s1.2.2.1,Rec:=({ Kind:=s1.2.2.2.1,Valid:=s1.2.2.2.2.1,Uid:=s1.2.2.2.2.2.1,Next:=s1.2.2.2.2.2.2.1,Flags:=s1.2.2.2.2.2.2.2.1,User:=s1.2.2.2.2.2.2.2.2.1,Name:=s1.2.2.2.2.2.2.2.2.2.1,Text:=s1.2.2.2.2.2.2.2.2.2.2 }:TRec) }:TItem) v3).bind fun v6=>(if v6 then some true else some false)) else some false):Option Bool).bind (fun y4=>(if y4 then some (.inl (true,w64 (s1.2.1+1),v3.Seq,v3.Rec.Kind,v3.Rec.Valid,v3.Rec.Uid,v3.Rec.Next,v3.Rec.Flags,v3.Rec.User,v3.Rec.Name,v3.Rec.Text)) else some (.inl (s1.1,w64 (s1.2.1+1),s1.2.2.1,s1.2.2.2.1,s1.2.2.2.2.1,s1.2.2.2.2.2.1,s1.2.2.2.2.2.2.1,s1.2.2.2.2.2.2.2.1,s1.2.2.2.2.2.2.2.2.1,s1.2.2.2.2.2.2.2.2.2.1,s1.2.2.2.2.2.2.2.2.2.2)))) else some (.inr (s1.1,s1.2.2.1,s1.2.2.2.1,s1.2.2.2.2.1,s1.2.2.2.2.2.1,s1.2.2.2.2.2.2.1,s1.2.2.2.2.2.2.2.1,s1.2.2.2.2.2.2.2.2.1,s1.2.2.2.2.2.2.2.2.2.1,s1.2.2.2.2.2.2.2.2.2.2)))
noncomputable def E7 (x0:List TItem) (x1:Int) (x2:Int) (x3:Int):Option (TItem×Bool) :=
 (iter (C9 x0 x1 x2 x3) (false,0,0,0,0,0,0,0,[],[],[])).bind (fun y7=>some (({ Seq:=y7.2.1,Rec:=({ Kind:=y7.2.2.1,Valid:=y7.2.2.2.1,Uid:=y7.2.2.2.2.1,Next:=y7.2.2.2.2.2.1,Flags:=y7.2.2.2.2.2.2.1,User:=y7.2.2.2.2.2.2.2.1,Name:=y7.2.2.2.2.2.2.2.2.1,Text:=y7.2.2.2.2.2.2.2.2.2 }:TRec) }:TItem),y7.1))
noncomputable def E3 (x0:List TItem) (x1:Int) (x2:Int) (x3:Int):Option (TItem×Bool) :=
 (E7 x0 x1 x2 x3).bind fun v1=>some (v1.1,v1.2)
noncomputable def F0 (x0:List TItem) (x1:Int) (x2:Int):Option (TItem×Bool) :=
 (G8 x0 x1).bind fun v1=>(if !v1.2 then some (({ Seq:=0,Rec:=({ Kind:=0,Valid:=0,Uid:=0,Next:=0,Flags:=0,User:=[],Name:=[],Text:=[] }:TRec) }:TItem),false) else (E3 x0 5 x1 x2).bind fun v2=>(if v2.2 then some (({ Seq:=0,Rec:=({ Kind:=0,Valid:=0,Uid:=0,Next:=0,Flags:=0,User:=[],Name:=[],Text:=[] }:TRec) }:TItem),false) else (E3 x0 3 x1 x2).bind fun v3=>some (v3.1,v3.2)))
noncomputable def U8 (x0:List TItem) (x1:Int):Option Bool :=
 (at? x0 x1).bind fun v1=>(sub? x0 0 x1).bind fun v2=>(C3 v2 v1).bind fun v3=>(if v3 then some false else ((if (v1.Rec.Kind==1) then (G8 x0 v1.Rec.Valid).bind fun v15=>some (.inr (v15.2,v15.1.Seq,v15.1.Rec.Kind,v15.1.Rec.Valid,v15.1.Rec.Uid,v15.1.Rec.Next,v15.1.Rec.Flags,v15.1.Rec.User,v15.1.Rec.Name,v15.1.Rec.Text)) else (if (v1.Rec.Kind==2) then (C2 x0 v1.Rec).bind fun v13=>(if v13 then (E1 x0 v1.Rec).bind fun v14=>some (.inr (v14.2,v14.1.Seq,v14.1.Rec.Kind,v14.1.Rec.Valid,v14.1.Rec.Uid,v14.1.Rec.Next,v14.1.Rec.Flags,v14.1.Rec.User,v14.1.Rec.Name,v14.1.Rec.Text)) else some (.inl false)) else (if (v1.Rec.Kind==3) then (F0 x0 v1.Rec.Valid v1.Rec.Uid).bind fun v11=>(if !v11.2 then some (.inl false) else (E3 x0 v1.Rec.Kind v1.Rec.Valid v1.Rec.Uid).bind fun v12=>some (.inr (v12.2,v12.1.Seq,v12.1.Rec.Kind,v12.1.Rec.Valid,v12.1.Rec.Uid,v12.1.Rec.Next,v12.1.Rec.Flags,v12.1.Rec.User,v12.1.Rec.Name,v12.1.Rec.Text))) else ((if (v1.Rec.Kind==4) then some true else some false):Option Bool).bind (fun y5=>(if y5 then (F0 x0 v1.Rec.Valid v1.Rec.Uid).bind fun v9=>(if !v9.2 then some (.inl false) else (E3 x0 v1.Rec.Kind v1.Rec.Valid v1.Rec.Uid).bind fun v10=>some (.inr (v10.2,v10.1.Seq,v10.1.Rec.Kind,v10.1.Rec.Valid,v10.1.Rec.Uid,v10.1.Rec.Next,v10.1.Rec.Flags,v10.1.Rec.User,v10.1.Rec.Name,v10.1.Rec.Text))) else (if (v1.Rec.Kind==5) then (G8 x0 v1.Rec.Valid).bind fun v6=>(E3 x0 3 v1.Rec.Valid v1.Rec.Uid).bind fun v7=>(if !v6.2 then some (.inl false) else (if !v7.2 then some (.inl false) else (E3 x0 5 v1.Rec.Valid v1.Rec.Uid).bind fun v8=>some (.inr (v8.2,v8.1.Seq,v8.1.Rec.Kind,v8.1.Rec.Valid,v8.1.Rec.Uid,v8.1.Rec.Next,v8.1.Rec.Flags,v8.1.Rec.User,v8.1.Rec.Name,v8.1.Rec.Text)))) else some (.inr (false,0,0,0,0,0,0,[],[],[])))))))):Option (Bool ⊕ (Bool×Int×Int×Int×Int×Int×Int×(List UInt8)×(List UInt8)×(List UInt8)))).bind (Sum.elim (fun r=>some r) (fun y4_=>(if y4_.1 then some (y4_.2.1==v1.Seq&&(y4_.2.2.1==v1.Rec.Kind&&(y4_.2.2.2.1==v1.Rec.Valid&&(y4_.2.2.2.2.1==v1.Rec.Uid&&(y4_.2.2.2.2.2.1==v1.Rec.Next&&(y4_.2.2.2.2.2.2.1==v1.Rec.Flags&&(y4_.2.2.2.2.2.2.2.1==v1.Rec.User&&(y4_.2.2.2.2.2.2.2.2.1==v1.Rec.Name&&(y4_.2.2.2.2.2.2.2.2.2==v1.Rec.Text&&true))))))))) else some false))))
noncomputable def T6 (x0:List TItem) (s6:Int×(List Bool)):Option ((Int×(List Bool)) ⊕ (List Bool)) :=
 (if decide (s6.1<(x0.length:Int)) then (U8 x0 s6.1).bind fun v8=>(app? 1 s6.2 [v8]).bind fun v9=>some (.inl (w64 (s6.1+1),v9)) else some (.inr s6.2))
noncomputable def T8 (x0:List TItem) (s2:Int×(List Bool)):Option ((Int×(List Bool)) ⊕ (List Bool)) :=
 (if decide (s2.1<(x0.length:Int)) then (app? 1 s2.2 [false]).bind fun v4=>some (.inl (w64 (s2.1+1),v4)) else some (.inr s2.2))
noncomputable def Q8 (x0:List TItem):Option (List Bool) :=
 (K2 x0).bind fun v1=>(if v1 then (iter (T6 x0) (0,([]:List Bool))).bind (fun y10=>some y10) else (iter (T8 x0) (0,([]:List Bool))).bind (fun y5=>some y5))
noncomputable def J8 (x0:List TItem) (x1:Int):Option Bool :=
 ((K2 x0).bind fun v2=>(if v2 then (Q9 x1 0 (w64 ((x0.length:Int) - 1))).bind fun v3=>(if v3 then (U8 x0 x1).bind fun v4=>some v4 else some false) else some false):Option Bool).bind (fun y1=>some y1)
noncomputable def W4 (x0:List Bool) (x1:Int):Option Bool :=
 (if decide (x1<(x0.length:Int)) then (at? x0 x1).bind fun v1=>some v1 else some false)
noncomputable def R6 (x0:List TItem) (x1:List Bool) (s1:Int×(List TItem)):Option ((Int×(List TItem)) ⊕ (List TItem)) :=
 (if decide (s1.1<(x0.length:Int)) then (at? x0 s1.1).bind fun v3=>(W4 x1 s1.1).bind fun v4=>(if v4 then some (.inl (w64 (s1.1+1),s1.2)) else (app? 96 s1.2 [v3]).bind fun v5=>some (.inl (w64 (s1.1+1),v5))) else some (.inr s1.2))
noncomputable def P2 (x0:List TItem) (x1:List Bool):Option (List TItem) :=
 (iter (R6 x0 x1) (0,([]:List TItem))).bind (fun y6=>some y6)
noncomputable def T1 (x0:List TItem) (x1:List TItem) (s1:Int):Option (Int ⊕ (Bool ⊕ Unit)) :=
 (if decide (s1<(x0.length:Int)) then (at? x0 s1).bind fun v3=>(at? x1 s1).bind fun v4=>(if !(v3.Seq==v4.Seq&&(v3.Rec.Kind==v4.Rec.Kind&&(v3.Rec.Valid==v4.Rec.Valid&&(v3.Rec.Uid==v4.Rec.Uid&&(v3.Rec.Next==v4.Rec.Next&&(v3.Rec.Flags==v4.Rec.Flags&&(v3.Rec.User==v4.Rec.User&&(v3.Rec.Name==v4.Rec.Name&&(v3.Rec.Text==v4.Rec.Text&&true))))))))) then some (.inr (.inl false)) else some (.inl (w64 (s1+1)))) else some (.inr (.inr ())))
noncomputable def R4 (x0:List TItem) (x1:List TItem):Option Bool :=
 (if ((x0.length:Int) != (x1.length:Int)) then some false else (iter (T1 x0 x1) 0).bind (Sum.elim (fun r=>some r) (fun y2=>some true)))
noncomputable def U9 (x0:List Int) (s1:Int×Int):Option ((Int×Int) ⊕ Int) :=
 ((if decide (s1.2<(x0.length:Int)) then (if decide (s1.2<4000) then some true else some false) else some false):Option Bool).bind (fun y3=>(if y3 then (at? x0 s1.2).bind fun v4=>some (.inl (andv .i64 (w64 ((w64 ((w64 (s1.1*131))+(w64 v4)))+7)) 1073741823,w64 (s1.2+1))) else some (.inr s1.1)))
noncomputable def J5 (x0:List Int):Option TL01Cur :=
 (iter (U9 x0) (w64 (76001+(x0.length:Int)),0)).bind (fun y5=>some ({ mB:=x0,mI:=0,mH:=y5 }:TL01Cur))
noncomputable def E9 (x0:TL01Cur):Option (Int×TL01Cur) :=
 (if decide (x0.mI<(x0.mB.length:Int)) then (at? x0.mB x0.mI).bind fun v1=>some (andv .i64 (w64 ((andv .i64 (xorv .i64 (shrv .i64 (w64 ((w64 (x0.mH*6364136223846793005))+1442695040888963407)) 33) (shrv .i64 (w64 ((w64 (x0.mH*6364136223846793005))+1442695040888963407)) 45)) 255)+(w64 v1))) 255,({ mB:=x0.mB,mI:=w64 (x0.mI+1),mH:=w64 ((w64 (x0.mH*6364136223846793005))+1442695040888963407) }:TL01Cur)) else some (andv .i64 (xorv .i64 (shrv .i64 (w64 ((w64 (x0.mH*6364136223846793005))+1442695040888963407)) 33) (shrv .i64 (w64 ((w64 (x0.mH*6364136223846793005))+1442695040888963407)) 45)) 255,({ mB:=x0.mB,mI:=x0.mI,mH:=w64 ((w64 (x0.mH*6364136223846793005))+1442695040888963407) }:TL01Cur)))
noncomputable def A9 (x0:TL01Cur) (x1:Int):Option (Int×TL01Cur) :=
 (if decide (x1≤0) then some (0,({ mB:=x0.mB,mI:=x0.mI,mH:=x0.mH }:TL01Cur)) else (if decide (x1≤256) then (E9 ({ mB:=x0.mB,mI:=x0.mI,mH:=x0.mH }:TL01Cur)).bind fun v6=>(rem? v6.1 x1).bind fun v7=>some (v7,({ mB:=x0.mB,mI:=v6.2.mI,mH:=v6.2.mH }:TL01Cur)) else (E9 ({ mB:=x0.mB,mI:=x0.mI,mH:=x0.mH }:TL01Cur)).bind fun v1=>(E9 ({ mB:=x0.mB,mI:=v1.2.mI,mH:=v1.2.mH }:TL01Cur)).bind fun v2=>(E9 ({ mB:=x0.mB,mI:=v2.2.mI,mH:=v2.2.mH }:TL01Cur)).bind fun v3=>(E9 ({ mB:=x0.mB,mI:=v3.2.mI,mH:=v3.2.mH }:TL01Cur)).bind fun v4=>(rem? (w64 ((w64 ((w64 ((w64 (v1.1*16777216))+(w64 (v2.1*65536))))+(w64 (v3.1*256))))+v4.1)) x1).bind fun v5=>some (v5,({ mB:=x0.mB,mI:=v4.2.mI,mH:=v4.2.mH }:TL01Cur))))
noncomputable def E4 (x0:TL01Cur) (x1:Int):Option (Bool×TL01Cur) :=
 (A9 ({ mB:=x0.mB,mI:=x0.mI,mH:=x0.mH }:TL01Cur) x1).bind fun v1=>some ((v1.1==0),({ mB:=x0.mB,mI:=v1.2.mI,mH:=v1.2.mH }:TL01Cur))
noncomputable def G7 (x0:TL01Cur) (x1:List Int):Option (Int×TL01Cur) :=
 (A9 ({ mB:=x0.mB,mI:=x0.mI,mH:=x0.mH }:TL01Cur) (x1.length:Int)).bind fun v1=>(at? x1 v1.1).bind fun v2=>some (v2,({ mB:=x0.mB,mI:=v1.2.mI,mH:=v1.2.mH }:TL01Cur))
noncomputable def L7 (x0:TL01Cur) (x1:Int):Option (Int×TL01Cur) :=
 (E4 ({ mB:=x0.mB,mI:=x0.mI,mH:=x0.mH }:TL01Cur) 15).bind fun v1=>(if v1.1 then (G7 ({ mB:=x0.mB,mI:=v1.2.mI,mH:=v1.2.mH }:TL01Cur) [(-1),x1,w64 (x1+1),9223372036854775807,(-9223372036854775808)]).bind fun v3=>some (v3.1,({ mB:=x0.mB,mI:=v3.2.mI,mH:=v3.2.mH }:TL01Cur)) else (A9 ({ mB:=x0.mB,mI:=v1.2.mI,mH:=v1.2.mH }:TL01Cur) x1).bind fun v2=>some (v2.1,({ mB:=x0.mB,mI:=v2.2.mI,mH:=v2.2.mH }:TL01Cur)))
noncomputable def P8 (x0:Int) (x1:Int) (s2:Int×(List Int)):Option ((Int×(List Int)) ⊕ (List Int)) :=
 (if decide (s2.1<x0) then (at? s2.2 s2.1).bind fun v4=>(some (set' s2.2 s2.1 x1)).bind fun v5=>some (.inl (w64 (s2.1+1),v5)) else some (.inr s2.2))
noncomputable def W0 (x0:Int) (x1:Int):Option (List UInt8) :=
 (mk? 1 (0:Int) x0).bind fun v1=>(iter (P8 x0 x1) (0,v1)).bind (fun y6=>some (y6.map ofI))
noncomputable def H4 (x0:TL01Cur) (x1:List (List UInt8)):Option ((List UInt8)×TL01Cur) :=
 (A9 ({ mB:=x0.mB,mI:=x0.mI,mH:=x0.mH }:TL01Cur) (x1.length:Int)).bind fun v1=>(at? x1 v1.1).bind fun v2=>some (v2,({ mB:=x0.mB,mI:=v1.2.mI,mH:=v1.2.mH }:TL01Cur))
noncomputable def Q1 (x0:TL01Cur):Option ((List UInt8)×TL01Cur) :=
 (H4 ({ mB:=x0.mB,mI:=x0.mI,mH:=x0.mH }:TL01Cur) [[104,101,108,108,111],[102,114,111,109,58,32,97,110,110,10,10,104,105],[115,117,98,106,101,99,116,58,32,120,10,10,98,111,100,121,32,111,102,32,105,116,10,46,100,111,116,10],[],[120,10,46,46,10]]).bind fun v1=>some (v1.1,({ mB:=x0.mB,mI:=v1.2.mI,mH:=v1.2.mH }:TL01Cur))
noncomputable def F6 (x0:TL01Cur):Option (TRec×TL01Cur) :=
 (G7 ({ mB:=x0.mB,mI:=x0.mI,mH:=x0.mH }:TL01Cur) ([1,1,2,3,3,3,3,4,4,5,5]:List Int)).bind fun v1=>(A9 ({ mB:=x0.mB,mI:=v1.2.mI,mH:=v1.2.mH }:TL01Cur) 3).bind fun v2=>(if (v1.1==1) then (H4 ({ mB:=x0.mB,mI:=v2.2.mI,mH:=v2.2.mH }:TL01Cur) [[97,110,110],[98,111,98]]).bind fun v9=>(H4 ({ mB:=x0.mB,mI:=v9.2.mI,mH:=v9.2.mH }:TL01Cur) [[105,110,98,111,120],[119,111,114,107]]).bind fun v10=>(A9 ({ mB:=x0.mB,mI:=v10.2.mI,mH:=v10.2.mH }:TL01Cur) 6).bind fun v11=>some (({ Kind:=v1.1,Valid:=w64 (1+v2.1),Uid:=0,Next:=w64 (1+v11.1),Flags:=0,User:=v9.1,Name:=v10.1,Text:=[] }:TRec),({ mB:=x0.mB,mI:=v11.2.mI,mH:=v11.2.mH }:TL01Cur)) else (if (v1.1==3) then (A9 ({ mB:=x0.mB,mI:=v2.2.mI,mH:=v2.2.mH }:TL01Cur) 5).bind fun v6=>(A9 ({ mB:=x0.mB,mI:=v6.2.mI,mH:=v6.2.mH }:TL01Cur) 8).bind fun v7=>(Q1 ({ mB:=x0.mB,mI:=v7.2.mI,mH:=v7.2.mH }:TL01Cur)).bind fun v8=>some (({ Kind:=v1.1,Valid:=w64 (1+v2.1),Uid:=w64 (1+v6.1),Next:=0,Flags:=v7.1,User:=[],Name:=[],Text:=v8.1 }:TRec),({ mB:=x0.mB,mI:=v8.2.mI,mH:=v8.2.mH }:TL01Cur)) else (if (v1.1==4) then (A9 ({ mB:=x0.mB,mI:=v2.2.mI,mH:=v2.2.mH }:TL01Cur) 5).bind fun v4=>(A9 ({ mB:=x0.mB,mI:=v4.2.mI,mH:=v4.2.mH }:TL01Cur) 8).bind fun v5=>some (({ Kind:=v1.1,Valid:=w64 (1+v2.1),Uid:=w64 (1+v4.1),Next:=0,Flags:=v5.1,User:=[],Name:=[],Text:=[] }:TRec),({ mB:=x0.mB,mI:=v5.2.mI,mH:=v5.2.mH }:TL01Cur)) else (if (v1.1==5) then (A9 ({ mB:=x0.mB,mI:=v2.2.mI,mH:=v2.2.mH }:TL01Cur) 5).bind fun v3=>some (({ Kind:=v1.1,Valid:=w64 (1+v2.1),Uid:=w64 (1+v3.1),Next:=0,Flags:=0,User:=[],Name:=[],Text:=[] }:TRec),({ mB:=x0.mB,mI:=v3.2.mI,mH:=v3.2.mH }:TL01Cur)) else some (({ Kind:=v1.1,Valid:=w64 (1+v2.1),Uid:=0,Next:=0,Flags:=0,User:=[],Name:=[],Text:=[] }:TRec),({ mB:=x0.mB,mI:=v2.2.mI,mH:=v2.2.mH }:TL01Cur))))))
noncomputable def U1 (x0:TL01Cur):Option (TRec×TL01Cur) :=
 (A9 ({ mB:=x0.mB,mI:=x0.mI,mH:=x0.mH }:TL01Cur) 14).bind fun v1=>(A9 ({ mB:=x0.mB,mI:=v1.2.mI,mH:=v1.2.mH }:TL01Cur) 60).bind fun v2=>(F6 ({ mB:=x0.mB,mI:=v2.2.mI,mH:=v2.2.mH }:TL01Cur)).bind fun v3=>(if (v1.1==0) then some (({ Kind:=Int.tmod v2.1 7,Valid:=v3.1.Valid,Uid:=v3.1.Uid,Next:=v3.1.Next,Flags:=v3.1.Flags,User:=v3.1.User,Name:=v3.1.Name,Text:=v3.1.Text }:TRec),({ mB:=x0.mB,mI:=v3.2.mI,mH:=v3.2.mH }:TL01Cur)) else (if (v1.1==1) then (at? ([0,9999,10000]:List Int) (Int.tmod v2.1 3)).bind fun v7=>some (({ Kind:=v3.1.Kind,Valid:=v7,Uid:=v3.1.Uid,Next:=v3.1.Next,Flags:=v3.1.Flags,User:=v3.1.User,Name:=v3.1.Name,Text:=v3.1.Text }:TRec),({ mB:=x0.mB,mI:=v3.2.mI,mH:=v3.2.mH }:TL01Cur)) else (if (v1.1==2) then (at? ([0,9999,10000,(-1)]:List Int) (Int.tmod v2.1 4)).bind fun v6=>some (({ Kind:=v3.1.Kind,Valid:=v3.1.Valid,Uid:=v6,Next:=v3.1.Next,Flags:=v3.1.Flags,User:=v3.1.User,Name:=v3.1.Name,Text:=v3.1.Text }:TRec),({ mB:=x0.mB,mI:=v3.2.mI,mH:=v3.2.mH }:TL01Cur)) else (if (v1.1==3) then some (({ Kind:=v3.1.Kind,Valid:=v3.1.Valid,Uid:=v3.1.Uid,Next:=v3.1.Next,Flags:=w64 ((Int.tmod v2.1 10) - 1),User:=v3.1.User,Name:=v3.1.Name,Text:=v3.1.Text }:TRec),({ mB:=x0.mB,mI:=v3.2.mI,mH:=v3.2.mH }:TL01Cur)) else (if (v1.1==4) then (at? [[],[65],[110,105,110,101,98,121,116,101,115]] (Int.tmod v2.1 3)).bind fun v5=>some (({ Kind:=v3.1.Kind,Valid:=v3.1.Valid,Uid:=v3.1.Uid,Next:=v3.1.Next,Flags:=v3.1.Flags,User:=v5,Name:=v3.1.Name,Text:=v3.1.Text }:TRec),({ mB:=x0.mB,mI:=v3.2.mI,mH:=v3.2.mH }:TL01Cur)) else (if (v1.1==5) then (W0 (w64 (100+(Int.tmod v2.1 2))) 97).bind fun v4=>some (({ Kind:=v3.1.Kind,Valid:=v3.1.Valid,Uid:=v3.1.Uid,Next:=v3.1.Next,Flags:=v3.1.Flags,User:=v3.1.User,Name:=v3.1.Name,Text:=v4 }:TRec),({ mB:=x0.mB,mI:=v3.2.mI,mH:=v3.2.mH }:TL01Cur)) else (if (v1.1==6) then some (({ Kind:=v3.1.Kind,Valid:=v3.1.Valid,Uid:=v3.1.Uid,Next:=Int.tmod v2.1 4,Flags:=v3.1.Flags,User:=v3.1.User,Name:=v3.1.Name,Text:=v3.1.Text }:TRec),({ mB:=x0.mB,mI:=v3.2.mI,mH:=v3.2.mH }:TL01Cur)) else some (v3.1,({ mB:=x0.mB,mI:=v3.2.mI,mH:=v3.2.mH }:TL01Cur)))))))))
noncomputable def M7 (x0:TL01Cur) (s1:Int×Int×Int×(List TItem)):Option ((Int×Int×Int×(List TItem)) ⊕ (Int×Int×(List TItem))) :=
 (A9 ({ mB:=x0.mB,mI:=s1.2.1,mH:=s1.2.2.1 }:TL01Cur) 22).bind fun v3=>(if decide (s1.1<v3.1) then (F6 ({ mB:=x0.mB,mI:=v3.2.mI,mH:=v3.2.mH }:TL01Cur)).bind fun v4=>(app? 96 s1.2.2.2 [({ Seq:=w64 (2+s1.1),Rec:=v4.1 }:TItem)]).bind fun v5=>some (.inl (w64 (s1.1+1),v4.2.mI,v4.2.mH,v5)) else some (.inr (v3.2.mI,v3.2.mH,s1.2.2.2)))
noncomputable def M0 (x0:TL01Cur):Option ((List TItem)×TL01Cur) :=
 (iter (M7 x0) (0,x0.mI,x0.mH,([]:List TItem))).bind (fun y6=>((if decide ((y6.2.2.length:Int)>1) then (E4 ({ mB:=x0.mB,mI:=y6.1,mH:=y6.2.1 }:TL01Cur) 3).bind fun v8=>(if v8.1 then some (true,v8.2.mI,v8.2.mH) else some (false,v8.2.mI,v8.2.mH)) else some (false,y6.1,y6.2.1)):Option (Bool×Int×Int)).bind (fun y7=>(if y7.1 then (A9 ({ mB:=x0.mB,mI:=y7.2.1,mH:=y7.2.2 }:TL01Cur) (y6.2.2.length:Int)).bind fun v9=>(at? y6.2.2 v9.1).bind fun v10=>(app? 96 y6.2.2 [v10]).bind fun v11=>some (v11,({ mB:=x0.mB,mI:=v9.2.mI,mH:=v9.2.mH }:TL01Cur)) else some (y6.2.2,({ mB:=x0.mB,mI:=y7.2.1,mH:=y7.2.2 }:TL01Cur)))))
noncomputable def L5 (v2:Int×TL01Cur) (s5:(List TItem)):Option ((List TItem) ⊕ (List TItem)) :=
 (if decide ((s5.length:Int)<(w64 (199+(Int.tmod v2.1 3)))) then (app? 96 s5 [({ Seq:=w64 (100+(s5.length:Int)),Rec:=({ Kind:=2,Valid:=7,Uid:=0,Next:=0,Flags:=0,User:=[],Name:=[],Text:=[] }:TRec) }:TItem)]).bind fun v7=>some (.inl v7) else some (.inr s5))
noncomputable def J6 (x0:TL01Cur):Option ((List TItem)×TL01Cur) :=
 (A9 ({ mB:=x0.mB,mI:=x0.mI,mH:=x0.mH }:TL01Cur) 14).bind fun v1=>(A9 ({ mB:=x0.mB,mI:=v1.2.mI,mH:=v1.2.mH }:TL01Cur) 60).bind fun v2=>(M0 ({ mB:=x0.mB,mI:=v2.2.mI,mH:=v2.2.mH }:TL01Cur)).bind fun v3=>(app? 96 ([]:List TItem) v3.1).bind fun v4=>(if (v1.1==0) then (F6 ({ mB:=x0.mB,mI:=v3.2.mI,mH:=v3.2.mH }:TL01Cur)).bind fun v13=>(app? 96 v4 [({ Seq:=2,Rec:=v13.1 }:TItem)]).bind fun v14=>some (v14,({ mB:=x0.mB,mI:=v13.2.mI,mH:=v13.2.mH }:TL01Cur)) else (if (v1.1==1) then (U1 ({ mB:=x0.mB,mI:=v3.2.mI,mH:=v3.2.mH }:TL01Cur)).bind fun v11=>(app? 96 v4 [({ Seq:=99,Rec:=v11.1 }:TItem)]).bind fun v12=>some (v12,({ mB:=x0.mB,mI:=v11.2.mI,mH:=v11.2.mH }:TL01Cur)) else (if (v1.1==2) then (F6 ({ mB:=x0.mB,mI:=v3.2.mI,mH:=v3.2.mH }:TL01Cur)).bind fun v9=>(app? 96 v4 [({ Seq:=0,Rec:=v9.1 }:TItem)]).bind fun v10=>some (v10,({ mB:=x0.mB,mI:=v9.2.mI,mH:=v9.2.mH }:TL01Cur)) else (if (v1.1==3) then (iter (L5 v2) v4).bind (fun y8=>some (y8,({ mB:=x0.mB,mI:=v3.2.mI,mH:=v3.2.mH }:TL01Cur))) else some (v4,({ mB:=x0.mB,mI:=v3.2.mI,mH:=v3.2.mH }:TL01Cur))))))
noncomputable def L4 (x0:List Int):Option ((List TItem)×Int) :=
 (J5 x0).bind fun v2=>(L7 ({ mB:=x0,mI:=v2.mI,mH:=v2.mH }:TL01Cur) 20).bind fun v3=>(J6 ({ mB:=x0,mI:=v3.2.mI,mH:=v3.2.mH }:TL01Cur)).bind fun v4=>some (v4.1,v3.1)
noncomputable def K8 (x0:TL01Cur) (x1:Int) (s1:Int×Int×Int×(List Bool)):Option ((Int×Int×Int×(List Bool)) ⊕ (Int×Int×(List Bool))) :=
 (if decide (s1.1<x1) then (E4 ({ mB:=x0.mB,mI:=s1.2.1,mH:=s1.2.2.1 }:TL01Cur) 2).bind fun v3=>(app? 1 s1.2.2.2 [v3.1]).bind fun v4=>some (.inl (w64 (s1.1+1),v3.2.mI,v3.2.mH,v4)) else some (.inr (s1.2.1,s1.2.2.1,s1.2.2.2)))
noncomputable def J9 (x0:TL01Cur) (x1:Int):Option ((List Bool)×TL01Cur×List Bool×Int×Int) :=
 (iter (K8 x0 x1) (0,x0.mI,x0.mH,([]:List Bool))).bind (fun y5=>((E4 ({ mB:=x0.mB,mI:=y5.1,mH:=y5.2.1 }:TL01Cur) 8).bind fun v7=>(if v7.1 then (if decide (x1>0) then some (true,v7.2.mI,v7.2.mH) else some (false,v7.2.mI,v7.2.mH)) else some (false,v7.2.mI,v7.2.mH)):Option (Bool×Int×Int)).bind (fun y6=>(if y6.1 then (sub? y5.2.2 1 (y5.2.2.length:Int)).bind fun v8=>some (v8,({ mB:=x0.mB,mI:=y6.2.1,mH:=y6.2.2 }:TL01Cur),y5.2.2,1,(y5.2.2.length:Int)) else some (y5.2.2,({ mB:=x0.mB,mI:=y6.2.1,mH:=y6.2.2 }:TL01Cur),y5.2.2,0,(y5.2.2.length:Int)))))
noncomputable def P0 (x0:List Int):Option (((List TItem)×(List Bool))×List Bool×Int×Int) :=
 (J5 x0).bind fun v2=>(J6 ({ mB:=x0,mI:=v2.mI,mH:=v2.mH }:TL01Cur)).bind fun v3=>(guardO (fun r=>sub? r.2.2.1 r.2.2.2.1 r.2.2.2.2=some r.1) (J9 ({ mB:=x0,mI:=v3.2.mI,mH:=v3.2.mH }:TL01Cur) (v3.1.length:Int))).bind fun v4=>some ((v3.1,v4.1),v4.2.2.1,v4.2.2.2.1,v4.2.2.2.2)
noncomputable def Ej (x0:List Int):Option ((List TItem)×(List Bool)) :=
 (J5 x0).bind fun v2=>(J6 ({ mB:=x0,mI:=v2.mI,mH:=v2.mH }:TL01Cur)).bind fun v3=>(guardO (fun r=>sub? r.2.2.1 r.2.2.2.1 r.2.2.2.2=some r.1) (J9 ({ mB:=x0,mI:=v3.2.mI,mH:=v3.2.mH }:TL01Cur) (v3.1.length:Int))).bind fun v4=>some (v3.1,v4.1)
noncomputable def K4 (x0:List Int):Option ((List TItem)×(List Bool)) :=
 (guardO (fun r=>sub? r.2.1 r.2.2.1 r.2.2.2=some r.1.2) (P0 x0)).bind fun v1=>some (v1.1.1,v1.1.2)
noncomputable def E5 (x0:Int) (x1:Int) (x2:Int):Option Bool :=
 (if decide (x0≥x1) then some (decide (x0≤x2)) else some false)
noncomputable def L1 (x0:List UInt8) (s1:Int):Option (Int ⊕ (Bool ⊕ Unit)) :=
 (if decide (s1<(x0.length:Int)) then ((bt? x0 s1).bind fun v4=>(if decide ((v4.toNat:Int)<97) then some true else (bt? x0 s1).bind fun v5=>(if decide ((v5.toNat:Int)>122) then some true else some false)):Option Bool).bind (fun y3=>(if y3 then some (.inr (.inl false)) else some (.inl (w64 (s1+1))))) else some (.inr (.inr ())))
noncomputable def U7 (x0:List UInt8):Option Bool :=
 (iter (L1 x0) 0).bind (Sum.elim (fun r=>some r) (fun y2=>(E5 (x0.length:Int) 1 8).bind fun v7=>some v7))
noncomputable def Ai (x0:TRec):Option Bool :=
 ((E5 x0.Kind 1 5).bind fun v2=>(if v2 then (E5 x0.Valid 1 9999).bind fun v3=>(if v3 then some false else some true) else some true):Option Bool).bind (fun y1=>(if y1 then some false else (if (x0.Kind==1) then ((if (x0.Kind==3) then some true else (if (x0.Kind==4) then some true else (if (x0.Kind==5) then some true else some false))):Option Bool).bind (fun y11=>((if (x0.Kind==3) then some true else (if (x0.Kind==4) then some true else some false)):Option Bool).bind (fun y12=>((U7 x0.User).bind fun v14=>(if v14 then (U7 x0.Name).bind fun v15=>(if v15 then (E5 x0.Next 1 10000).bind fun v16=>(if v16 then some false else some true) else some true) else some true):Option Bool).bind (fun y13=>(if y13 then some false else ((if y11 then (E5 x0.Uid 1 9999).bind fun v18=>(if v18 then some false else some true) else (if (x0.Uid != 0) then some true else some false)):Option Bool).bind (fun y17=>(if y17 then some false else ((if y12 then (E5 x0.Flags 0 7).bind fun v20=>(if v20 then some false else some true) else (if (x0.Flags != 0) then some true else some false)):Option Bool).bind (fun y19=>(if y19 then some false else (if (x0.Kind==3) then some (decide ((x0.Text.length:Int)≤100)) else some (x0.Text==[])))))))))) else ((if (x0.Kind==3) then some true else (if (x0.Kind==4) then some true else (if (x0.Kind==5) then some true else some false))):Option Bool).bind (fun y4=>((if (x0.Kind==3) then some true else (if (x0.Kind==4) then some true else some false)):Option Bool).bind (fun y5=>((if (!(x0.User==[])) then some true else (if (!(x0.Name==[])) then some true else (if (x0.Next != 0) then some true else some false))):Option Bool).bind (fun y6=>(if y6 then some false else ((if y4 then (E5 x0.Uid 1 9999).bind fun v8=>(if v8 then some false else some true) else (if (x0.Uid != 0) then some true else some false)):Option Bool).bind (fun y7=>(if y7 then some false else ((if y5 then (E5 x0.Flags 0 7).bind fun v10=>(if v10 then some false else some true) else (if (x0.Flags != 0) then some true else some false)):Option Bool).bind (fun y9=>(if y9 then some false else (if (x0.Kind==3) then some (decide ((x0.Text.length:Int)≤100)) else some (x0.Text==[])))))))))))))
noncomputable def Q2 (x0:List TItem) (s1:Int) (s8:Int):Option (Int ⊕ (Bool ⊕ Unit)) :=
 (if decide (s8<s1) then ((at? x0 s8).bind fun v11=>(at? x0 s1).bind fun v12=>(if (v11.Seq==v12.Seq) then (at? x0 s8).bind fun v13=>(at? x0 s1).bind fun v14=>(if !(v13.Seq==v14.Seq&&(v13.Rec.Kind==v14.Rec.Kind&&(v13.Rec.Valid==v14.Rec.Valid&&(v13.Rec.Uid==v14.Rec.Uid&&(v13.Rec.Next==v14.Rec.Next&&(v13.Rec.Flags==v14.Rec.Flags&&(v13.Rec.User==v14.Rec.User&&(v13.Rec.Name==v14.Rec.Name&&(v13.Rec.Text==v14.Rec.Text&&true))))))))) then some true else some false) else some false):Option Bool).bind (fun y10=>(if y10 then some (.inr (.inl false)) else some (.inl (w64 (s8+1))))) else some (.inr (.inr ())))
noncomputable def M9 (x0:List TItem) (s1:Int):Option (Int ⊕ (Bool ⊕ Unit)) :=
 (if decide (s1<(x0.length:Int)) then ((at? x0 s1).bind fun v4=>(E5 v4.Seq 1 1000000000).bind fun v5=>(if v5 then (at? x0 s1).bind fun v6=>(Ai v6.Rec).bind fun v7=>(if v7 then some false else some true) else some true):Option Bool).bind (fun y3=>(if y3 then some (.inr (.inl false)) else (iter (Q2 x0 s1) 0).bind (Sum.elim (fun r=>some (.inr (.inl r))) (fun y9=>some (.inl (w64 (s1+1))))))) else some (.inr (.inr ())))
noncomputable def K7 (x0:List TItem):Option Bool :=
 (iter (M9 x0) 0).bind (Sum.elim (fun r=>some r) (fun y2=>some (decide ((x0.length:Int)≤200))))
noncomputable def R3 (x0:TItem) (x1:TItem):Option Bool :=
 ((if decide (x0.Rec.Next>x1.Rec.Next) then some true else (if (x0.Rec.Next==x1.Rec.Next) then some (decide (x0.Seq>x1.Seq)) else some false)):Option Bool).bind (fun y1=>some y1)
noncomputable def P5 (x0:List TItem) (x1:Int) (x2:Int) (x3:Int) (s1:Bool×Int×Int×Int×Int×Int×Int×Int×(List UInt8)×(List UInt8)×(List UInt8)):Option ((Bool×Int×Int×Int×Int×Int×Int×Int×(List UInt8)×(List UInt8)×(List UInt8)) ⊕ (Bool×Int×Int×Int×Int×Int×Int×(List UInt8)×(List UInt8)×(List UInt8))) :=
 (if decide (s1.2.1<(x0.length:Int)) then (at? x0 s1.2.1).bind fun v3=>((if (v3.Rec.Kind==x1) then (if (v3.Rec.Valid==x2) then (if (v3.Rec.Uid==x3) then (if !s1.1 then some true else (if decide (v3.Seq>s1.2.2.1) then some true else some false)) else some false) else some false) else some false):Option Bool).bind (fun y4=>(if y4 then some (.inl (true,w64 (s1.2.1+1),v3.Seq,v3.Rec.Kind,v3.Rec.Valid,v3.Rec.Uid,v3.Rec.Next,v3.Rec.Flags,v3.Rec.User,v3.Rec.Name,v3.Rec.Text)) else some (.inl (s1.1,w64 (s1.2.1+1),s1.2.2.1,s1.2.2.2.1,s1.2.2.2.2.1,s1.2.2.2.2.2.1,s1.2.2.2.2.2.2.1,s1.2.2.2.2.2.2.2.1,s1.2.2.2.2.2.2.2.2.1,s1.2.2.2.2.2.2.2.2.2.1,s1.2.2.2.2.2.2.2.2.2.2)))) else some (.inr (s1.1,s1.2.2.1,s1.2.2.2.1,s1.2.2.2.2.1,s1.2.2.2.2.2.1,s1.2.2.2.2.2.2.1,s1.2.2.2.2.2.2.2.1,s1.2.2.2.2.2.2.2.2.1,s1.2.2.2.2.2.2.2.2.2.1,s1.2.2.2.2.2.2.2.2.2.2)))
noncomputable def E2 (x0:List TItem) (x1:Int) (x2:Int) (x3:Int):Option (TItem×Bool) :=
 (iter (P5 x0 x1 x2 x3) (false,0,0,0,0,0,0,0,[],[],[])).bind (fun y5=>some (({ Seq:=y5.2.1,Rec:=({ Kind:=y5.2.2.1,Valid:=y5.2.2.2.1,Uid:=y5.2.2.2.2.1,Next:=y5.2.2.2.2.2.1,Flags:=y5.2.2.2.2.2.2.1,User:=y5.2.2.2.2.2.2.2.1,Name:=y5.2.2.2.2.2.2.2.2.1,Text:=y5.2.2.2.2.2.2.2.2.2 }:TRec) }:TItem),y5.1))
noncomputable def H5 (x0:List TItem) (x1:Int) (x2:Int) (x3:Int):Option Bool :=
 (E2 x0 x1 x2 x3).bind fun v1=>some v1.2
noncomputable def J4 (x0:List TItem) (x1:Int):Option Bool :=
 (H5 x0 1 x1 0).bind fun v1=>(if v1 then (H5 x0 2 x1 0).bind fun v2=>some (!v2) else some false)
noncomputable def Q4 (x0:List TItem) (v1:TItem) (s22:Int):Option (Int ⊕ (Bool ⊕ Unit)) :=
 (if decide (s22<(x0.length:Int)) then ((at? x0 s22).bind fun v25=>(if (v25.Rec.Kind==1) then (at? x0 s22).bind fun v26=>(if (v26.Rec.Valid==v1.Rec.Valid) then (at? x0 s22).bind fun v27=>(R3 v27 v1).bind fun v28=>(if v28 then some true else some false) else some false) else some false):Option Bool).bind (fun y24=>(if y24 then some (.inr (.inl false)) else some (.inl (w64 (s22+1))))) else some (.inr (.inr ())))
noncomputable def Q6 (x0:List TItem) (v1:TItem) (v15:TItem×Bool) (s16:Int):Option (Int ⊕ (Bool ⊕ Unit)) :=
 (if decide (s16<(x0.length:Int)) then ((at? x0 s16).bind fun v19=>(if (v19.Rec.Kind != 2) then (at? x0 s16).bind fun v20=>(if (v20.Rec.Valid==v1.Rec.Valid) then some true else some false) else some false):Option Bool).bind (fun y18=>(if y18 then some (.inr (.inl (v15.1.Seq==v1.Seq))) else some (.inl (w64 (s16+1))))) else some (.inr (.inr ())))
noncomputable def P1 (x0:List TItem) (x1:Int) (v1:TItem) (s2:Int):Option (Int ⊕ (Bool ⊕ Unit)) :=
 (if decide (s2<x1) then (at? x0 s2).bind fun v4=>(if (v4.Seq==v1.Seq) then some (.inr (.inl false)) else some (.inl (w64 (s2+1)))) else some (.inr (.inr ())))
noncomputable def P4 (x0:List TItem) (x1:Int):Option Bool :=
 (at? x0 x1).bind fun v1=>(iter (P1 x0 x1 v1) 0).bind (Sum.elim (fun r=>some r) (fun y3=>(if (v1.Rec.Kind==1) then (iter (Q4 x0 v1) 0).bind (Sum.elim (fun r=>some r) (fun y23=>(J4 x0 v1.Rec.Valid).bind fun v30=>some v30)) else (if (v1.Rec.Kind==2) then (E2 x0 2 v1.Rec.Valid 0).bind fun v15=>(iter (Q6 x0 v1 v15) 0).bind (Sum.elim (fun r=>some r) (fun y17=>some false)) else (if (v1.Rec.Kind==5) then (E2 x0 5 v1.Rec.Valid v1.Rec.Uid).bind fun v11=>((J4 x0 v1.Rec.Valid).bind fun v13=>(if v13 then (H5 x0 3 v1.Rec.Valid v1.Rec.Uid).bind fun v14=>(if v14 then some (v11.1.Seq==v1.Seq) else some false) else some false):Option Bool).bind (fun y12=>some y12) else (E2 x0 v1.Rec.Kind v1.Rec.Valid v1.Rec.Uid).bind fun v6=>((J4 x0 v1.Rec.Valid).bind fun v8=>(if v8 then (H5 x0 3 v1.Rec.Valid v1.Rec.Uid).bind fun v9=>(if v9 then (H5 x0 5 v1.Rec.Valid v1.Rec.Uid).bind fun v10=>(if v10 then some false else some (v6.1.Seq==v1.Seq)) else some false) else some false):Option Bool).bind (fun y7=>some y7))))))
noncomputable def T9 (x0:List TItem) (s6:Int×(List Bool)):Option ((Int×(List Bool)) ⊕ (List Bool)) :=
 (if decide (s6.1<(x0.length:Int)) then (P4 x0 s6.1).bind fun v8=>(app? 1 s6.2 [v8]).bind fun v9=>some (.inl (w64 (s6.1+1),v9)) else some (.inr s6.2))
noncomputable def T7 (x0:List TItem) (s2:Int×(List Bool)):Option ((Int×(List Bool)) ⊕ (List Bool)) :=
 (if decide (s2.1<(x0.length:Int)) then (app? 1 s2.2 [false]).bind fun v4=>some (.inl (w64 (s2.1+1),v4)) else some (.inr s2.2))
noncomputable def R5 (x0:List TItem):Option (List Bool) :=
 (K7 x0).bind fun v1=>(if v1 then (iter (T9 x0) (0,([]:List Bool))).bind (fun y10=>some y10) else (iter (T7 x0) (0,([]:List Bool))).bind (fun y5=>some y5))
noncomputable def Y3 (x0:List TItem) (x1:Int):Option Bool :=
 ((K7 x0).bind fun v2=>(if v2 then (E5 x1 0 (w64 ((x0.length:Int) - 1))).bind fun v3=>(if v3 then (P4 x0 x1).bind fun v4=>some v4 else some false) else some false):Option Bool).bind (fun y1=>some y1)
noncomputable def V3 (x0:List TRec) (x1:List TRec) (s1:Int):Option (Int ⊕ (Bool ⊕ Unit)) :=
 (if decide (s1<(x0.length:Int)) then (at? x0 s1).bind fun v3=>(at? x1 s1).bind fun v4=>(if !(v3.Kind==v4.Kind&&(v3.Valid==v4.Valid&&(v3.Uid==v4.Uid&&(v3.Next==v4.Next&&(v3.Flags==v4.Flags&&(v3.User==v4.User&&(v3.Name==v4.Name&&(v3.Text==v4.Text&&true)))))))) then some (.inr (.inl false)) else some (.inl (w64 (s1+1)))) else some (.inr (.inr ())))
noncomputable def U0 (x0:List TRec) (x1:List TRec):Option Bool :=
 (if ((x0.length:Int) != (x1.length:Int)) then some false else (iter (V3 x0 x1) 0).bind (Sum.elim (fun r=>some r) (fun y2=>some true)))
noncomputable def X2 (x0:TRec):Option (Int×Bool) :=
 some (x0.Valid,(x0.Kind==1))
noncomputable def G5 (x0:List TItem) (s1:Int×(List Int)):Option ((Int×(List Int)) ⊕ (List Int)) :=
 (if decide (s1.1<(x0.length:Int)) then (at? x0 s1.1).bind fun v3=>(X2 v3.Rec).bind fun v4=>(if v4.2 then (app? 8 s1.2 [v4.1]).bind fun v5=>some (.inl (w64 (s1.1+1),v5)) else some (.inl (w64 (s1.1+1),s1.2))) else some (.inr s1.2))
noncomputable def F3 (x0:List TItem):Option (List Int) :=
 (iter (G5 x0) (0,([]:List Int))).bind (fun y6=>(sort? y6).bind fun v7=>(comp? v7).bind fun v8=>some v8)
noncomputable def M8 (x0:TRec) (x1c0:Int):Option (Int×Bool) :=
 (E8 x0 3 x1c0).bind fun v1=>(if v1 then some (x0.Uid,true) else (E8 x0 5 x1c0).bind fun v2=>some (x0.Uid,v2))
noncomputable def F8 (x0:List TItem) (x1ac0:Int) (s1:Int×(List Int)):Option ((Int×(List Int)) ⊕ (List Int)) :=
 (if decide (s1.1<(x0.length:Int)) then (at? x0 s1.1).bind fun v3=>(M8 v3.Rec x1ac0).bind fun v4=>(if v4.2 then (app? 8 s1.2 [v4.1]).bind fun v5=>some (.inl (w64 (s1.1+1),v5)) else some (.inl (w64 (s1.1+1),s1.2))) else some (.inr s1.2))
noncomputable def F1 (x0:List TItem) (x1ac0:Int):Option (List Int) :=
 (iter (F8 x0 x1ac0) (0,([]:List Int))).bind (fun y6=>(sort? y6).bind fun v7=>(comp? v7).bind fun v8=>some v8)
noncomputable def L3 (x0:List TItem) (x1:TItem) (v1:List Int) (s2:Int×Int×(List TMail)):Option ((Int×Int×(List TMail)) ⊕ (Int×(List TMail))) :=
 (if decide (s2.1<(v1.length:Int)) then (at? v1 s2.1).bind fun v4=>(F0 x0 x1.Rec.Valid v4).bind fun v5=>(if !v5.2 then some (.inl (w64 (s2.1+1),(if w64 (v4+1)>s2.2.1 then w64 (v4+1) else s2.2.1),s2.2.2)) else (E3 x0 4 x1.Rec.Valid v4).bind fun v6=>((if v6.2 then some v6.1.Rec.Flags else some v5.1.Rec.Flags):Option Int).bind (fun y7=>(app? 32 s2.2.2 [({ Uid:=v4,Flags:=y7,Text:=v5.1.Rec.Text }:TMail)]).bind fun v8=>some (.inl (w64 (s2.1+1),(if w64 (v4+1)>s2.2.1 then w64 (v4+1) else s2.2.1),v8)))) else some (.inr (s2.2.1,s2.2.2)))
noncomputable def U3 (x0:List TItem) (x1:TItem):Option TBox :=
 (F1 x0 x1.Rec.Valid).bind fun v1=>(iter (L3 x0 x1 v1) (0,x1.Rec.Next,([]:List TMail))).bind (fun y9=>some ({ Valid:=x1.Rec.Valid,User:=x1.Rec.User,Name:=x1.Rec.Name,Next:=y9.1,Mails:=y9.2 }:TBox))
noncomputable def X1 (x0:List TItem) (v2:List Int) (s3:Int×(List TBox)):Option ((Int×(List TBox)) ⊕ (List TBox)) :=
 (if decide (s3.1<(v2.length:Int)) then (at? v2 s3.1).bind fun v5=>(G8 x0 v5).bind fun v6=>(if v6.2 then (U3 x0 v6.1).bind fun v7=>(app? 72 s3.2 [({ Valid:=v7.Valid,User:=v7.User,Name:=v7.Name,Next:=v7.Next,Mails:=v7.Mails }:TBox)]).bind fun v8=>some (.inl (w64 (s3.1+1),v8)) else some (.inl (w64 (s3.1+1),s3.2))) else some (.inr s3.2))
noncomputable def Q3 (x0:List TItem):Option TState :=
 (K2 x0).bind fun v1=>(if v1 then (F3 x0).bind fun v2=>(iter (X1 x0 v2) (0,([]:List TBox))).bind (fun y9=>some ({ Boxes:=y9 }:TState)) else some ({ Boxes:=[] }:TState))
noncomputable def R9 (x0:TBox) (x1:TBox):Option Bool :=
 some (x0.Valid==x1.Valid)
noncomputable def E0 (x0:List TBox) (x1:TBox) (s1:Int):Option (Int ⊕ (Int ⊕ Unit)) :=
 (if decide (s1<(x0.length:Int)) then (at? x0 s1).bind fun v3=>(R9 v3 x1).bind fun v4=>(if v4 then some (.inr (.inl s1)) else some (.inl (w64 (s1+1)))) else some (.inr (.inr ())))
noncomputable def B8 (x0:List TBox) (x1:TBox):Option Int :=
 (iter (E0 x0 x1) 0).bind (Sum.elim (fun r=>some r) (fun y2=>some (-1)))
noncomputable def W7 (v2:TState) (v3:TState) (s4:Int×(List TRec)):Option ((Int×(List TRec)) ⊕ (List TRec)) :=
 (if decide (s4.1<(v3.Boxes.length:Int)) then (at? v3.Boxes s4.1).bind fun v6=>(B8 v2.Boxes v6).bind fun v7=>((if decide (v7<0) then some true else (at? v2.Boxes v7).bind fun v9=>(if decide (v9.Next<v6.Next) then some true else some false)):Option Bool).bind (fun y8=>(if y8 then (app? 88 s4.2 [({ Kind:=1,Valid:=v6.Valid,Uid:=0,Next:=v6.Next,Flags:=0,User:=v6.User,Name:=v6.Name,Text:=[] }:TRec)]).bind fun v10=>some (.inl (w64 (s4.1+1),v10)) else some (.inl (w64 (s4.1+1),s4.2)))) else some (.inr s4.2))
noncomputable def H9 (x0:List TItem) (x1:List Bool):Option (List TRec) :=
 (P2 x0 x1).bind fun v1=>(Q3 v1).bind fun v2=>(Q3 x0).bind fun v3=>(iter (W7 v2 v3) (0,([]:List TRec))).bind (fun y11=>some y11)
noncomputable def T3 (x0:List Int) (x1:Int) (s8:Int×(List Int)):Option ((Int×(List Int)) ⊕ (List Int)) :=
 (if decide (s8.1<(x0.length:Int)) then (at? x0 s8.1).bind fun v10=>(if decide (v10>x1) then (at? x0 s8.1).bind fun v11=>(app? 8 s8.2 [v11]).bind fun v12=>some (.inl (w64 (s8.1+1),v12)) else some (.inl (w64 (s8.1+1),s8.2))) else some (.inr s8.2))
noncomputable def T2 (x0:List Int) (x1:Int) (s1:Int×(List Int)):Option ((Int×(List Int)) ⊕ (List Int)) :=
 (if decide (s1.1<(x0.length:Int)) then (at? x0 s1.1).bind fun v3=>(if decide (v3<x1) then (at? x0 s1.1).bind fun v4=>(app? 8 s1.2 [v4]).bind fun v5=>some (.inl (w64 (s1.1+1),v5)) else some (.inl (w64 (s1.1+1),s1.2))) else some (.inr s1.2))
noncomputable def K0 (x0:List Int) (x1:Int):Option (List Int) :=
 (iter (T2 x0 x1) (0,([]:List Int))).bind (fun y6=>(app? 8 y6 [x1]).bind fun v7=>(iter (T3 x0 x1) (0,v7)).bind (fun y13=>some y13))
noncomputable def P9 (x0:List TItem) (x1:Int) (s1:Int×Int×Int×Int×Int×Int×Int×(List UInt8)×(List UInt8)×(List UInt8)):Option ((Int×Int×Int×Int×Int×Int×Int×(List UInt8)×(List UInt8)×(List UInt8)) ⊕ (Int×Int×Int×Int×Int×Int×(List UInt8)×(List UInt8)×(List UInt8))) :=
 (if decide (s1.1<(x0.length:Int)) then (at? x0 s1.1).bind fun v3=>((if (v3.Rec.Kind != 1) then some true else (if (v3.Rec.Valid != x1) then some true else some false)):Option Bool).bind (fun y4=>(if y4 then some (.inl (w64 (s1.1+1),s1.2.1,s1.2.2.1,s1.2.2.2.1,s1.2.2.2.2.1,s1.2.2.2.2.2.1,s1.2.2.2.2.2.2.1,s1.2.2.2.2.2.2.2.1,s1.2.2.2.2.2.2.2.2.1,s1.2.2.2.2.2.2.2.2.2)) else ((if (s1.2.1==0) then some true else (if decide (v3.Rec.Next>s1.2.2.2.2.2.1) then some true else (if (v3.Rec.Next==s1.2.2.2.2.2.1) then (if decide (v3.Seq>s1.2.1) then some true else some false) else some false))):Option Bool).bind (fun y5=>(if y5 then some (.inl (w64 (s1.1+1),v3.Seq,v3.Rec.Kind,v3.Rec.Valid,v3.Rec.Uid,v3.Rec.Next,v3.Rec.Flags,v3.Rec.User,v3.Rec.Name,v3.Rec.Text)) else some (.inl (w64 (s1.1+1),s1.2.1,s1.2.2.1,s1.2.2.2.1,s1.2.2.2.2.1,s1.2.2.2.2.2.1,s1.2.2.2.2.2.2.1,s1.2.2.2.2.2.2.2.1,s1.2.2.2.2.2.2.2.2.1,s1.2.2.2.2.2.2.2.2.2)))))) else some (.inr (s1.2.1,s1.2.2.1,s1.2.2.2.1,s1.2.2.2.2.1,s1.2.2.2.2.2.1,s1.2.2.2.2.2.2.1,s1.2.2.2.2.2.2.2.1,s1.2.2.2.2.2.2.2.2.1,s1.2.2.2.2.2.2.2.2.2)))
noncomputable def W2 (x0:List TItem) (x1:Int):Option TItem :=
 (iter (P9 x0 x1) (0,0,0,0,0,0,0,[],[],[])).bind (fun y6=>some ({ Seq:=y6.1,Rec:=({ Kind:=y6.2.1,Valid:=y6.2.2.1,Uid:=y6.2.2.2.1,Next:=y6.2.2.2.2.1,Flags:=y6.2.2.2.2.2.1,User:=y6.2.2.2.2.2.2.1,Name:=y6.2.2.2.2.2.2.2.1,Text:=y6.2.2.2.2.2.2.2.2 }:TRec) }:TItem))
noncomputable def Q0 (x0:List TItem) (x1:Int) (s1:Int×Int):Option ((Int×Int) ⊕ Int) :=
 (if decide (s1.2<(x0.length:Int)) then (at? x0 s1.2).bind fun v3=>(if (v3.Rec.Valid != x1) then some (.inl (s1.1,w64 (s1.2+1))) else ((if (v3.Rec.Kind==1) then some v3.Rec.Next else (if (v3.Rec.Kind==3) then some (w64 (v3.Rec.Uid+1)) else (if (v3.Rec.Kind==5) then some (w64 (v3.Rec.Uid+1)) else some 0))):Option Int).bind (fun y4=>(if decide (y4>s1.1) then some (.inl (y4,w64 (s1.2+1))) else some (.inl (s1.1,w64 (s1.2+1)))))) else some (.inr s1.1))
noncomputable def W5 (x0:List TItem) (x1:Int):Option Int :=
 (iter (Q0 x0 x1) (1,0)).bind (fun y5=>some y5)
noncomputable def L2 (x0:List TItem) (x1:Int) (y7:(List Int)) (s8:Int×(List TMail)):Option ((Int×(List TMail)) ⊕ (List TMail)) :=
 (if decide (s8.1<(y7.length:Int)) then (at? y7 s8.1).bind fun v10=>(E2 x0 3 x1 v10).bind fun v11=>(at? y7 s8.1).bind fun v12=>(at? y7 s8.1).bind fun v13=>(E2 x0 4 x1 v13).bind fun v14=>((if v14.2 then some v14.1.Rec.Flags else some v11.1.Rec.Flags):Option Int).bind (fun y15=>(app? 32 s8.2 [({ Uid:=v12,Flags:=y15,Text:=v11.1.Rec.Text }:TMail)]).bind fun v16=>some (.inl (w64 (s8.1+1),v16))) else some (.inr s8.2))
noncomputable def V4 (x0:List TItem) (x1:Int) (s1:Int×(List Int)):Option ((Int×(List Int)) ⊕ (List Int)) :=
 (if decide (s1.1<(x0.length:Int)) then (at? x0 s1.1).bind fun v3=>(E2 x0 5 x1 v3.Rec.Uid).bind fun v4=>((if (v3.Rec.Kind==3) then (if (v3.Rec.Valid==x1) then some (!v4.2) else some false) else some false):Option Bool).bind (fun y5=>(if y5 then (K0 s1.2 v3.Rec.Uid).bind fun v6=>some (.inl (w64 (s1.1+1),v6)) else some (.inl (w64 (s1.1+1),s1.2)))) else some (.inr s1.2))
noncomputable def U2 (x0:List TItem) (x1:Int):Option (List TMail) :=
 (iter (V4 x0 x1) (0,([]:List Int))).bind (fun y7=>(iter (L2 x0 x1 y7) (0,([]:List TMail))).bind (fun y17=>some y17))
noncomputable def Q7 (x0:List TItem) (y7:(List Int)) (s8:Int×(List TBox)):Option ((Int×(List TBox)) ⊕ (List TBox)) :=
 (if decide (s8.1<(y7.length:Int)) then (at? y7 s8.1).bind fun v10=>(W2 x0 v10).bind fun v11=>(at? y7 s8.1).bind fun v12=>(at? y7 s8.1).bind fun v13=>(W5 x0 v13).bind fun v14=>(at? y7 s8.1).bind fun v15=>(U2 x0 v15).bind fun v16=>(app? 72 s8.2 [({ Valid:=v12,User:=v11.Rec.User,Name:=v11.Rec.Name,Next:=v14,Mails:=v16 }:TBox)]).bind fun v17=>some (.inl (w64 (s8.1+1),v17)) else some (.inr s8.2))
noncomputable def X5 (x0:List TItem) (s2:Int×(List Int)):Option ((Int×(List Int)) ⊕ (List Int)) :=
 (if decide (s2.1<(x0.length:Int)) then (at? x0 s2.1).bind fun v4=>(E2 x0 2 v4.Rec.Valid 0).bind fun v5=>(if (v4.Rec.Kind==1) then (if !v5.2 then (K0 s2.2 v4.Rec.Valid).bind fun v6=>some (.inl (w64 (s2.1+1),v6)) else some (.inl (w64 (s2.1+1),s2.2))) else some (.inl (w64 (s2.1+1),s2.2))) else some (.inr s2.2))
noncomputable def P7 (x0:List TItem):Option TState :=
 (K7 x0).bind fun v1=>(if v1 then (iter (X5 x0) (0,([]:List Int))).bind (fun y7=>(iter (Q7 x0 y7) (0,([]:List TBox))).bind (fun y18=>some ({ Boxes:=y18 }:TState))) else some ({ Boxes:=[] }:TState))
noncomputable def R1 (x0:List TItem) (x1:List Bool) (s1:Int×(List TItem)):Option ((Int×(List TItem)) ⊕ (List TItem)) :=
 (if decide (s1.1<(x0.length:Int)) then (if decide (s1.1≥(x1.length:Int)) then (at? x0 s1.1).bind fun v6=>(app? 96 s1.2 [v6]).bind fun v7=>some (.inl (w64 (s1.1+1),v7)) else (at? x1 s1.1).bind fun v3=>(if !v3 then (at? x0 s1.1).bind fun v4=>(app? 96 s1.2 [v4]).bind fun v5=>some (.inl (w64 (s1.1+1),v5)) else some (.inl (w64 (s1.1+1),s1.2)))) else some (.inr s1.2))
noncomputable def R2 (x0:List TItem) (x1:List Bool):Option (List TItem) :=
 (iter (R1 x0 x1) (0,([]:List TItem))).bind (fun y8=>some y8)
noncomputable def K1 (v3:TState) (v6:TBox) (s7:Bool×Int):Option ((Bool×Int) ⊕ Bool) :=
 (if decide (s7.2<(v3.Boxes.length:Int)) then (if s7.1 then some (.inl (true,w64 (s7.2+1))) else (at? v3.Boxes s7.2).bind fun v9=>(if (v9.Valid==v6.Valid) then (at? v3.Boxes s7.2).bind fun v10=>(if decide (v10.Next≥v6.Next) then some (.inl (true,w64 (s7.2+1))) else some (.inl (false,w64 (s7.2+1)))) else some (.inl (false,w64 (s7.2+1))))) else some (.inr s7.1))
noncomputable def X4 (v1:TState) (v3:TState) (s4:Int×(List TRec)):Option ((Int×(List TRec)) ⊕ (List TRec)) :=
 (if decide (s4.1<(v1.Boxes.length:Int)) then (at? v1.Boxes s4.1).bind fun v6=>(iter (K1 v3 v6) (false,0)).bind (fun y11=>(if y11 then some (.inl (w64 (s4.1+1),s4.2)) else (app? 88 s4.2 [({ Kind:=1,Valid:=v6.Valid,Uid:=0,Next:=v6.Next,Flags:=0,User:=v6.User,Name:=v6.Name,Text:=[] }:TRec)]).bind fun v12=>some (.inl (w64 (s4.1+1),v12)))) else some (.inr s4.2))
noncomputable def W3 (x0:List TItem) (x1:List Bool):Option (List TRec) :=
 (P7 x0).bind fun v1=>(R2 x0 x1).bind fun v2=>(P7 v2).bind fun v3=>(iter (X4 v1 v3) (0,([]:List TRec))).bind (fun y13=>some y13)
noncomputable def Y8 (x0:List Int):Option Bool :=
 some (decide ((x0.length:Int)>1048576))
noncomputable def H7 (v4:List Bool) (v5:List Bool) (s6:Int):Option (Int ⊕ (Bool ⊕ Unit)) :=
 (if decide (s6<(v4.length:Int)) then (at? v4 s6).bind fun v8=>(at? v5 s6).bind fun v9=>(if !(v8==v9) then some (.inr (.inl false)) else some (.inl (w64 (s6+1)))) else some (.inr (.inr ())))
noncomputable def T0 (x0:List Int):Option Bool :=
 (Y8 x0).bind fun v1=>(if v1 then some true else (L4 x0).bind fun v2=>(K4 x0).bind fun v3=>(Q8 v2.1).bind fun v4=>(R5 v2.1).bind fun v5=>(if ((v4.length:Int) != (v5.length:Int)) then some false else (iter (H7 v4 v5) 0).bind (Sum.elim (fun r=>some r) (fun y7=>((J8 v2.1 v2.2).bind fun v12=>(Y3 v2.1 v2.2).bind fun v13=>(if (v12==v13) then (H9 v3.1 v3.2).bind fun v14=>(W3 v3.1 v3.2).bind fun v15=>(U0 v14 v15).bind fun v16=>(if v16 then (P2 v3.1 v3.2).bind fun v17=>(R2 v3.1 v3.2).bind fun v18=>(R4 v17 v18).bind fun v19=>(if v19 then (J8 [({ Seq:=5,Rec:=({ Kind:=1,Valid:=1,Uid:=0,Next:=1,Flags:=0,User:=[97,110,110],Name:=[105,110,98,111,120],Text:=[] }:TRec) }:TItem)] 0).bind fun v20=>(if v20 then (H9 [({ Seq:=5,Rec:=({ Kind:=1,Valid:=1,Uid:=0,Next:=1,Flags:=0,User:=[97,110,110],Name:=[105,110,98,111,120],Text:=[] }:TRec) }:TItem)] [true]).bind fun v21=>some ((v21.length:Int)==1) else some false) else some false) else some false) else some false):Option Bool).bind (fun y11=>some y11)))))
noncomputable def X0 (s4:Int×Int):Option ((Int×Int) ⊕ Int) :=
 (if decide (s4.2<8) then (if ((Int.tmod s4.1 2)==1) then some (.inl (xorv .u32 (IntKind.u32.wrap (Int.tdiv s4.1 2)) 3558460437,w64 (s4.2+1))) else some (.inl (IntKind.u32.wrap (Int.tdiv s4.1 2),w64 (s4.2+1)))) else some (.inr s4.1))
noncomputable def X3 (x1:List UInt8) (s1:Int×Int):Option ((Int×Int) ⊕ Int) :=
 (if decide (s1.2<(x1.length:Int)) then (bt? x1 s1.2).bind fun v3=>(iter (X0) (xorv .u32 s1.1 (IntKind.u32.wrap (v3.toNat:Int)),0)).bind (fun y6=>some (.inl (y6,w64 (s1.2+1)))) else some (.inr s1.1))
noncomputable def Ef (x0:Int) (x1:List UInt8):Option Int :=
 (iter (X3 x1) (x0,0)).bind (fun y7=>some y7)
end Go.Proofs.Ytldndhdohlfpgaa.V
