/- Records, and what the functions compute. -/
import Derived.Test.YtldndhdohlfpgaaGreatXE
/- Records, and how they lie in cells. -/
namespace Go.Proofs.YtldndhdohlfpgaaGreat.V
open Go Go.Proofs Go.RowKit
set_option maxRecDepth 100000
structure TWrite where
 At:Int
 Text:List UInt8
def A2 (_:Bool) (x:TWrite):List AV:=[.j x.At,.str x.Text]
theorem Tw (o:Bool) (x:TWrite):∀ v∈A2 o x,Scl v:=(fac .int (fac .str fan))
theorem Fg:FlatOk A2 2:=⟨⟨fun _ _=>rfl,by omega,fun _ _=>(fac .int (fac .str fan)),fun _=>(fac .int (fac .str fan)),fun _=>(.cons .refl (.cons .refl .nil))⟩,fun _=>rfl,fun _ _=>(fac rfl (fac rfl fan)),fun _ _=>(fac rfl (fac rfl fan))⟩
theorem B2:EncOk A2 2:=Fg.toEncOk
abbrev Jk (l:List TWrite):AV:=.lst false 2 (fl (A2 false) l) l.length
structure TDisk where
 Sectors:List (List UInt8)
 Cache:List TWrite
def A3 (o:Bool) (x:TDisk):List AV:=[.lst o 1 (fl (encS o) x.Sectors) x.Sectors.length,.lst o 2 (fl (A2 o) x.Cache) x.Cache.length]
theorem A7y:EncOk A3 2:=⟨fun _ _=>rfl,by omega,fun _ _=>(fac (.lst (ekS.fdat _ _)) (fac (.lst (B2.fdat _ _)) fan)),fun _=>(fac (.lst (ekS.fown _)) (fac (.lst (B2.fown _)) fan)),fun _=>(.cons (ekS.fflag _).lst (.cons (B2.fflag _).lst .nil))⟩
abbrev L_TDisk (l:List TDisk):AV:=.lst false 2 (fl (A3 false) l) l.length
structure TRec where
 Kind:Int
 Valid:Int
 Uid:Int
 Next:Int
 Flags:Int
 User:List UInt8
 Name:List UInt8
 Text:List UInt8
def G6 (_:Bool) (x:TRec):List AV:=[.j x.Kind,.j x.Valid,.j x.Uid,.j x.Next,.j x.Flags,.str x.User,.str x.Name,.str x.Text]
theorem A20 (o:Bool) (x:TRec):∀ v∈G6 o x,Scl v:=(fac .int (fac .int (fac .int (fac .int (fac .int (fac .str (fac .str (fac .str fan))))))))
theorem A9g:FlatOk G6 8:=⟨⟨fun _ _=>rfl,by omega,fun _ _=>(fac .int (fac .int (fac .int (fac .int (fac .int (fac .str (fac .str (fac .str fan)))))))),fun _=>(fac .int (fac .int (fac .int (fac .int (fac .int (fac .str (fac .str (fac .str fan)))))))),fun _=>(.cons .refl (.cons .refl (.cons .refl (.cons .refl (.cons .refl (.cons .refl (.cons .refl (.cons .refl .nil))))))))⟩,fun _=>rfl,fun _ _=>(fac rfl (fac rfl (fac rfl (fac rfl (fac rfl (fac rfl (fac rfl (fac rfl fan)))))))),fun _ _=>(fac rfl (fac rfl (fac rfl (fac rfl (fac rfl (fac rfl (fac rfl (fac rfl fan))))))))⟩
theorem A8x:EncOk G6 8:=A9g.toEncOk
abbrev L_TRec (l:List TRec):AV:=.lst false 8 (fl (G6 false) l) l.length
structure TItem where
 Seq:Int
 Rec:TRec
def A9 (_:Bool) (x:TItem):List AV:=[.j x.Seq,.j x.Rec.Kind,.j x.Rec.Valid,.j x.Rec.Uid,.j x.Rec.Next,.j x.Rec.Flags,.str x.Rec.User,.str x.Rec.Name,.str x.Rec.Text]
theorem Ze (o:Bool) (x:TItem):∀ v∈A9 o x,Scl v:=(fac .int (fac .int (fac .int (fac .int (fac .int (fac .int (fac .str (fac .str (fac .str fan)))))))))
theorem Cb:FlatOk A9 9:=⟨⟨fun _ _=>rfl,by omega,fun _ _=>(fac .int (fac .int (fac .int (fac .int (fac .int (fac .int (fac .str (fac .str (fac .str fan))))))))),fun _=>(fac .int (fac .int (fac .int (fac .int (fac .int (fac .int (fac .str (fac .str (fac .str fan))))))))),fun _=>(.cons .refl (.cons .refl (.cons .refl (.cons .refl (.cons .refl (.cons .refl (.cons .refl (.cons .refl (.cons .refl .nil)))))))))⟩,fun _=>rfl,fun _ _=>(fac rfl (fac rfl (fac rfl (fac rfl (fac rfl (fac rfl (fac rfl (fac rfl (fac rfl fan))))))))),fun _ _=>(fac rfl (fac rfl (fac rfl (fac rfl (fac rfl (fac rfl (fac rfl (fac rfl (fac rfl fan)))))))))⟩
theorem C7:EncOk A9 9:=Cb.toEncOk
abbrev H9 (l:List TItem):AV:=.lst false 9 (fl (A9 false) l) l.length
structure TSeg where
 No:Int
 Gen:Int
 End:Int
 Items:List TItem
def A8 (o:Bool) (x:TSeg):List AV:=[.j x.No,.j x.Gen,.j x.End,.lst o 9 (fl (A9 o) x.Items) x.Items.length]
theorem B3:EncOk A8 4:=⟨fun _ _=>rfl,by omega,fun _ _=>(fac .int (fac .int (fac .int (fac (.lst (C7.fdat _ _)) fan)))),fun _=>(fac .int (fac .int (fac .int (fac (.lst (C7.fown _)) fan)))),fun _=>(.cons .refl (.cons .refl (.cons .refl (.cons (C7.fflag _).lst .nil))))⟩
abbrev Q1 (l:List TSeg):AV:=.lst false 4 (fl (A8 false) l) l.length
structure TLog where
 Disk:TDisk
 Segs:Int
 Used:List TSeg
 NextGen:Int
 NextSeq:Int
 Stamp:Int
 NextValid:Int
def B5 (o:Bool) (x:TLog):List AV:=[.lst o 1 (fl (encS o) x.Disk.Sectors) x.Disk.Sectors.length,.lst o 2 (fl (A2 o) x.Disk.Cache) x.Disk.Cache.length,.j x.Segs,.lst o 4 (fl (A8 o) x.Used) x.Used.length,.j x.NextGen,.j x.NextSeq,.j x.Stamp,.j x.NextValid]
theorem A98:EncOk B5 8:=⟨fun _ _=>rfl,by omega,fun _ _=>(fac (.lst (ekS.fdat _ _)) (fac (.lst (B2.fdat _ _)) (fac .int (fac (.lst (B3.fdat _ _)) (fac .int (fac .int (fac .int (fac .int fan)))))))),fun _=>(fac (.lst (ekS.fown _)) (fac (.lst (B2.fown _)) (fac .int (fac (.lst (B3.fown _)) (fac .int (fac .int (fac .int (fac .int fan)))))))),fun _=>(.cons (ekS.fflag _).lst (.cons (B2.fflag _).lst (.cons .refl (.cons (B3.fflag _).lst (.cons .refl (.cons .refl (.cons .refl (.cons .refl .nil))))))))⟩
abbrev L_TLog (l:List TLog):AV:=.lst false 8 (fl (B5 false) l) l.length
structure TL01Cur where
 mB:List Int
 mI:Int
 mH:Int
def Wb (o:Bool) (x:TL01Cur):List AV:=[.lst o 1 (fl (encB o) x.mB) x.mB.length,.j x.mI,.j x.mH]
theorem A50:EncOk Wb 3:=⟨fun _ _=>rfl,by omega,fun _ _=>(fac (.lst (ekB.fdat _ _)) (fac .int (fac .int fan))),fun _=>(fac (.lst (ekB.fown _)) (fac .int (fac .int fan))),fun _=>(.cons (ekB.fflag _).lst (.cons .refl (.cons .refl .nil)))⟩
abbrev A9z (l:List TL01Cur):AV:=.lst false 3 (fl (Wb false) l) l.length
structure TFrame where
 Gen:Int
 Seq:Int
 Body:List UInt8
def C3 (_:Bool) (x:TFrame):List AV:=[.j x.Gen,.j x.Seq,.str x.Body]
theorem Tr (o:Bool) (x:TFrame):∀ v∈C3 o x,Scl v:=(fac .int (fac .int (fac .str fan)))
theorem Mg:FlatOk C3 3:=⟨⟨fun _ _=>rfl,by omega,fun _ _=>(fac .int (fac .int (fac .str fan))),fun _=>(fac .int (fac .int (fac .str fan))),fun _=>(.cons .refl (.cons .refl (.cons .refl .nil)))⟩,fun _=>rfl,fun _ _=>(fac rfl (fac rfl (fac rfl fan))),fun _ _=>(fac rfl (fac rfl (fac rfl fan)))⟩
theorem Mq:EncOk C3 3:=Mg.toEncOk
abbrev Ft (l:List TFrame):AV:=.lst false 3 (fl (C3 false) l) l.length
structure TRef where
 No:Int
 Gen:Int
def C8 (_:Bool) (x:TRef):List AV:=[.j x.No,.j x.Gen]
theorem A29 (o:Bool) (x:TRef):∀ v∈C8 o x,Scl v:=(fac .int (fac .int fan))
theorem Rz:FlatOk C8 2:=⟨⟨fun _ _=>rfl,by omega,fun _ _=>(fac .int (fac .int fan)),fun _=>(fac .int (fac .int fan)),fun _=>(.cons .refl (.cons .refl .nil))⟩,fun _=>rfl,fun _ _=>(fac rfl (fac rfl fan)),fun _ _=>(fac rfl (fac rfl fan))⟩
theorem Z0:EncOk C8 2:=Rz.toEncOk
abbrev Qh (l:List TRef):AV:=.lst false 2 (fl (C8 false) l) l.length
structure TCheck where
 Stamp:Int
 NextGen:Int
 NextSeq:Int
 NextValid:Int
 Refs:List TRef
def B7 (o:Bool) (x:TCheck):List AV:=[.j x.Stamp,.j x.NextGen,.j x.NextSeq,.j x.NextValid,.lst o 2 (fl (C8 o) x.Refs) x.Refs.length]
theorem A6d:EncOk B7 5:=⟨fun _ _=>rfl,by omega,fun _ _=>(fac .int (fac .int (fac .int (fac .int (fac (.lst (Z0.fdat _ _)) fan))))),fun _=>(fac .int (fac .int (fac .int (fac .int (fac (.lst (Z0.fown _)) fan))))),fun _=>(.cons .refl (.cons .refl (.cons .refl (.cons .refl (.cons (Z0.fflag _).lst .nil)))))⟩
abbrev Aa2 (l:List TCheck):AV:=.lst false 5 (fl (B7 false) l) l.length
structure TL06Cur where
 mText:List UInt8
 mAt:Int
 mBad:Bool
def Jd (_:Bool) (x:TL06Cur):List AV:=[.str x.mText,.j x.mAt,.bool x.mBad]
theorem Pp (o:Bool) (x:TL06Cur):∀ v∈Jd o x,Scl v:=(fac .str (fac .int (fac .bool fan)))
theorem A4i:FlatOk Jd 3:=⟨⟨fun _ _=>rfl,by omega,fun _ _=>(fac .str (fac .int (fac .bool fan))),fun _=>(fac .str (fac .int (fac .bool fan))),fun _=>(.cons .refl (.cons .refl (.cons .refl .nil)))⟩,fun _=>rfl,fun _ _=>(fac rfl (fac rfl (fac rfl fan))),fun _ _=>(fac rfl (fac rfl (fac rfl fan)))⟩
theorem A4k:EncOk Jd 3:=A4i.toEncOk
abbrev A9w (l:List TL06Cur):AV:=.lst false 3 (fl (Jd false) l) l.length
def A74 (x:TWrite):Prop:=((Lit.int .i64 x.At).wf=true)∧(x.Text.length≤maxLen)∧True
def A79 (x:TDisk):Prop:=(x.Sectors.length≤maxLen∧∀ a∈x.Sectors,a.length≤maxLen)∧(x.Cache.length≤maxLen∧∀ a∈x.Cache,A74 a)∧True
def A8q (x:TRec):Prop:=((Lit.int .i64 x.Kind).wf=true)∧((Lit.int .i64 x.Valid).wf=true)∧((Lit.int .i64 x.Uid).wf=true)∧((Lit.int .i64 x.Next).wf=true)∧((Lit.int .i64 x.Flags).wf=true)∧(x.User.length≤maxLen)∧(x.Name.length≤maxLen)∧(x.Text.length≤maxLen)∧True
def A8b (x:TItem):Prop:=((Lit.int .i64 x.Seq).wf=true)∧(A8q x.Rec)∧True
def A95 (x:TSeg):Prop:=((Lit.int .i64 x.No).wf=true)∧((Lit.int .i64 x.Gen).wf=true)∧((Lit.int .i64 x.End).wf=true)∧(x.Items.length≤maxLen∧∀ a∈x.Items,A8b a)∧True
def wf_TLog (x:TLog):Prop:=(A79 x.Disk)∧((Lit.int .i64 x.Segs).wf=true)∧(x.Used.length≤maxLen∧∀ a∈x.Used,A95 a)∧((Lit.int .i64 x.NextGen).wf=true)∧((Lit.int .i64 x.NextSeq).wf=true)∧((Lit.int .i64 x.Stamp).wf=true)∧((Lit.int .i64 x.NextValid).wf=true)∧True
def A9s (x:TL01Cur):Prop:=(x.mB.length≤maxLen∧∀ a∈x.mB,(Lit.int .u8 a).wf=true)∧((Lit.int .i64 x.mI).wf=true)∧((Lit.int .i64 x.mH).wf=true)∧True
def A9y (x:TFrame):Prop:=((Lit.int .i64 x.Gen).wf=true)∧((Lit.int .i64 x.Seq).wf=true)∧(x.Body.length≤maxLen)∧True
def A8z (x:TRef):Prop:=((Lit.int .i64 x.No).wf=true)∧((Lit.int .i64 x.Gen).wf=true)∧True
def Aa1 (x:TCheck):Prop:=((Lit.int .i64 x.Stamp).wf=true)∧((Lit.int .i64 x.NextGen).wf=true)∧((Lit.int .i64 x.NextSeq).wf=true)∧((Lit.int .i64 x.NextValid).wf=true)∧(x.Refs.length≤maxLen∧∀ a∈x.Refs,A8z a)∧True
def A9n (x:TL06Cur):Prop:=(x.mText.length≤maxLen)∧((Lit.int .i64 x.mAt).wf=true)∧(True)∧True
theorem eo {α:Type} {enc:Bool→α→List AV} {es:Nat} (h:EncOk enc es:=by first | exact ekS | exact ekI | exact ekB | exact ekW | exact ekO | exact B2 | exact A7y | exact A8x | exact C7 | exact B3 | exact A98 | exact A50 | exact Mq | exact Z0 | exact A6d | exact A4k):EncOk enc es:=h
section
variable {P:Program} {N nw n:Nat} {f:FuncId} {args ds args':List AV} {a a' a1:Asg} {H0 H H' H1 Hc:AH} {r r' r0 v v0:AV} {K:AV→AH→Prop} {rr:List RR}
theorem Gh.y0 (ns:List Nat) (hb:RnBs ns H ns H':=by repeat' first | exact .nil | refine .keep .int ?_ | refine .keep .str ?_ | refine .slq rfl rfl ?_ | refine .keep .nils ?_ | refine .ptr rfl ?_ | refine .keep .bool ?_ | refine .same rfl (EncOk.fref eo _ _) ?_ | refine .keep (EncOk.rlst eo) ?_ | refine .sl rfl ?_ | refine .dead rfl ?_ | refine .cells rfl rfl ?_ ?_ | refine .keep .und ?_ | refine RnC.fl eo ?_ | exact RnC.flz eo | refine .keep (.lst fan) ?_ | refine .keep (.pv ekB.rlst) ?_ | refine .fn ?_ ?_ | exact .dat .int | exact .ptr rfl | exact .dat .str | exact .slq rfl rfl | exact .sl rfl | exact .dat .bool | exact .dat (EncOk.rlst eo) | exact .dat (EncOk.rrec eo) | exact .und | exact .dat .nils | refine .cons ?_ ?_ | refine RnL.agg ?_ | refine RnL.tup ?_ | refine RnL.fn ?_ | exact .dat (.pv ekB.rlst) | refine .dat (.el ?_) | exact fan | refine fac ?_ ?_ | exact .int | exact .str | exact .bool | exact EncOk.rlst eo) (hn:nodupB ns=true:=by rfl) (hs:SubL ns a a':=by repeat' first | exact .nil | refine .cons rfl ?_ ?_ | exact .dat .int | exact .ptr rfl | exact .dat .str | exact .slq rfl rfl | exact .sl rfl | exact .dat .bool | exact .dat (EncOk.rlst eo) | exact .dat (EncOk.rrec eo) | exact .und | exact .dat .nils | refine .cons ?_ ?_ | refine RnL.agg ?_ | refine RnL.tup ?_ | refine RnL.fn ?_ | exact .dat (.pv ekB.rlst) | refine .dat (.el ?_) | exact fan | refine fac ?_ ?_ | exact .int | exact .str | exact .bool | exact EncOk.rlst eo):Gh 0 N [] a H a' H':=Gh.ren0 ns hb hn hs
theorem Gh.rN (ns:List Nat) (hb:RnBs ns H ns H':=by repeat' first | exact .nil | refine .keep .int ?_ | refine .keep .str ?_ | refine .slq rfl rfl ?_ | refine .keep .nils ?_ | refine .ptr rfl ?_ | refine .keep .bool ?_ | refine .same rfl (EncOk.fref eo _ _) ?_ | refine .keep (EncOk.rlst eo) ?_ | refine .sl rfl ?_ | refine .dead rfl ?_ | refine .cells rfl rfl ?_ ?_ | refine .keep .und ?_ | refine RnC.fl eo ?_ | exact RnC.flz eo | refine .keep (.lst fan) ?_ | refine .keep (.pv ekB.rlst) ?_ | refine .fn ?_ ?_ | exact .dat .int | exact .ptr rfl | exact .dat .str | exact .slq rfl rfl | exact .sl rfl | exact .dat .bool | exact .dat (EncOk.rlst eo) | exact .dat (EncOk.rrec eo) | exact .und | exact .dat .nils | refine .cons ?_ ?_ | refine RnL.agg ?_ | refine RnL.tup ?_ | refine RnL.fn ?_ | exact .dat (.pv ekB.rlst) | refine .dat (.el ?_) | exact fan | refine fac ?_ ?_ | exact .int | exact .str | exact .bool | exact EncOk.rlst eo) (hn:nodupB ns=true:=by rfl) (hl:Nat.ble H0.length ns.length=true:=by rfl) (hid:(List.range H0.length).all (fun i=>Nat.beq (ns.getD i (i+1)) i)=true:=by rfl) (hs:SubL ns a a':=by repeat' first | exact .nil | refine .cons rfl ?_ ?_ | exact .dat .int | exact .ptr rfl | exact .dat .str | exact .slq rfl rfl | exact .sl rfl | exact .dat .bool | exact .dat (EncOk.rlst eo) | exact .dat (EncOk.rrec eo) | exact .und | exact .dat .nils | refine .cons ?_ ?_ | refine RnL.agg ?_ | refine RnL.tup ?_ | refine RnL.fn ?_ | exact .dat (.pv ekB.rlst) | refine .dat (.el ?_) | exact fan | refine fac ?_ ?_ | exact .int | exact .str | exact .bool | exact EncOk.rlst eo):Gh nw N H0 a H a' H':=Gh.renN ns hb hn hl hid hs
theorem RRetM.m (ns:List Nat) (g:Gh nw N H0 a H a1 H1) (hv:rares a1 H1 rr=some v0:=by rfl) (hb:RnBs ns H1 ns H':=by repeat' first | exact .nil | refine .keep .int ?_ | refine .keep .str ?_ | refine .slq rfl rfl ?_ | refine .keep .nils ?_ | refine .ptr rfl ?_ | refine .keep .bool ?_ | refine .same rfl (EncOk.fref eo _ _) ?_ | refine .keep (EncOk.rlst eo) ?_ | refine .sl rfl ?_ | refine .dead rfl ?_ | refine .cells rfl rfl ?_ ?_ | refine .keep .und ?_ | refine RnC.fl eo ?_ | exact RnC.flz eo | refine .keep (.lst fan) ?_ | refine .keep (.pv ekB.rlst) ?_ | refine .fn ?_ ?_ | exact .dat .int | exact .ptr rfl | exact .dat .str | exact .slq rfl rfl | exact .sl rfl | exact .dat .bool | exact .dat (EncOk.rlst eo) | exact .dat (EncOk.rrec eo) | exact .und | exact .dat .nils | refine .cons ?_ ?_ | refine RnL.agg ?_ | refine RnL.tup ?_ | refine RnL.fn ?_ | exact .dat (.pv ekB.rlst) | refine .dat (.el ?_) | exact fan | refine fac ?_ ?_ | exact .int | exact .str | exact .bool | exact EncOk.rlst eo) (hn:nodupB ns=true:=by rfl) (hl:Nat.ble H0.length ns.length=true:=by rfl) (hid:(List.range H0.length).all (fun i=>Nat.beq (ns.getD i (i+1)) i)=true:=by rfl) (hr:Rn ns v0 v:=by repeat' first | exact .nil | refine .cons rfl ?_ ?_ | exact .dat .int | exact .ptr rfl | exact .dat .str | exact .slq rfl rfl | exact .sl rfl | exact .dat .bool | exact .dat (EncOk.rlst eo) | exact .dat (EncOk.rrec eo) | exact .und | exact .dat .nils | refine .cons ?_ ?_ | refine RnL.agg ?_ | refine RnL.tup ?_ | refine RnL.fn ?_ | exact .dat (.pv ekB.rlst) | refine .dat (.el ?_) | exact fan | refine fac ?_ ?_ | exact .int | exact .str | exact .bool | exact EncOk.rlst eo):RRetM N nw H0 rr v H' .ret a H:=RRetM.mk ns g hv hb hn hl hid hr
theorem RRetS.m (g:Gh nw N H0 a H [] H') (hv:rares a H rr=some v:=by rfl) (hs:Scl v:=by repeat' first | exact .int | exact .str | exact .bool | exact .agg (Tw _ _) | exact .agg (A20 _ _) | exact .agg (Ze _ _) | exact .agg (Tr _ _) | exact .agg (A29 _ _) | exact .agg (Pp _ _) | refine .tup ?_ | exact fan | refine fac ?_ ?_):RRetS N nw H0 rr v H' .ret a H:=RRetS.mk hv hs g
theorem RRet.y {ids:List Nat} (hv:rares a H rr=some v:=by rfl) (ho:OutR H v r ids:=by repeat' first | exact .und | exact .int | exact .str | exact .bool | exact .nil | apply OutT.cons | apply OutL.cons | rfl | exact OutR.ownq eo rfl rfl | exact .nils | apply OutL.agg | apply OutT.tup) (hn:ids.Nodup:=by first | decide | simp):RRet rr r .ret a H:=RRet.mk hv ho hn
theorem A6.y (h:A7 P f ds r) (hk:K r' H) (hok:okF P f=true:=by kernel_rfl) (hd:DFL H args ds:=by repeat' first | exact .nil | refine .cons ?_ ?_ | exact .int | exact .str | exact .bool | exact .slq eo rfl rfl | exact .lst eo | exact .nils | exact .fn | exact .dat (.agg (EncOk.dat eo false _)) | refine DFL.agg ?_) (hf:Fl r r':=by repeat' first | exact .refl | exact (EncOk.fflag eo _).lst | exact (EncOk.flag eo _).agg | exact .nil | refine .cons ?_ ?_ | refine FlL.tup ?_ | refine FlL.agg ?_):A6 P nw f args H K:=A6.val hok h hd hf hk
theorem A6.z (h:A7 P f ds r) (hk:K r' H') (hok:okF P f=true:=by kernel_rfl) (hd:DFL H args ds:=by repeat' first | exact .nil | refine .cons ?_ ?_ | exact .int | exact .str | exact .bool | exact .slq eo rfl rfl | exact .lst eo | exact .nils | exact .fn | exact .dat (.agg (EncOk.dat eo false _)) | refine DFL.agg ?_) (ho:impOk r:=by repeat' first | exact fan | refine fac ?_ ?_ | exact .int | exact .str | exact .bool | exact .lst (EncOk.fown eo _) | exact EncOk.own eo _) (hi:imp H r=(r',H'):=by rfl):A6 P nw f args H K:=A6.own hok h hd ho hi hk
theorem A6.eR (ns:List Nat) (h:C5 P n f args' Hc r Hc) (hk:K r H) (hok:okF P f=true:=by kernel_rfl) (hb:RnBs ns H ns Hc:=by repeat' first | exact .nil | refine .keep .int ?_ | refine .keep .str ?_ | refine .slq rfl rfl ?_ | refine .keep .nils ?_ | refine .ptr rfl ?_ | refine .keep .bool ?_ | refine .same rfl (EncOk.fref eo _ _) ?_ | refine .keep (EncOk.rlst eo) ?_ | refine .sl rfl ?_ | refine .dead rfl ?_ | refine .cells rfl rfl ?_ ?_ | refine .keep .und ?_ | refine RnC.fl eo ?_ | exact RnC.flz eo | refine .keep (.lst fan) ?_ | refine .keep (.pv ekB.rlst) ?_ | refine .fn ?_ ?_ | exact .dat .int | exact .ptr rfl | exact .dat .str | exact .slq rfl rfl | exact .sl rfl | exact .dat .bool | exact .dat (EncOk.rlst eo) | exact .dat (EncOk.rrec eo) | exact .und | exact .dat .nils | refine .cons ?_ ?_ | refine RnL.agg ?_ | refine RnL.tup ?_ | refine RnL.fn ?_ | exact .dat (.pv ekB.rlst) | refine .dat (.el ?_) | exact fan | refine fac ?_ ?_ | exact .int | exact .str | exact .bool | exact EncOk.rlst eo) (hn:nodupB ns=true:=by rfl) (hl:Nat.ble Hc.length n=true:=by rfl) (hargs:RnL ns args args':=by repeat' first | exact .nil | refine .cons rfl ?_ ?_ | exact .dat .int | exact .ptr rfl | exact .dat .str | exact .slq rfl rfl | exact .sl rfl | exact .dat .bool | exact .dat (EncOk.rlst eo) | exact .dat (EncOk.rrec eo) | exact .und | exact .dat .nils | refine .cons ?_ ?_ | refine RnL.agg ?_ | refine RnL.tup ?_ | refine RnL.fn ?_ | exact .dat (.pv ekB.rlst) | refine .dat (.el ?_) | exact fan | refine fac ?_ ?_ | exact .int | exact .str | exact .bool | exact EncOk.rlst eo) (hr:Scl r:=by repeat' first | exact .int | exact .str | exact .bool | exact .agg (Tw _ _) | exact .agg (A20 _ _) | exact .agg (Ze _ _) | exact .agg (Tr _ _) | exact .agg (A29 _ _) | exact .agg (Pp _ _) | refine .tup ?_ | exact fan | refine fac ?_ ?_):A6 P nw f args H K:=A6.embR ns hok h hb hn hl hargs hr hk
theorem A6.eW (ks ks':List ABlk) (ns:List Nat) (h:C5 P 0 f args' (ks.map some) r (ks'.map some)) (hk:K r0 H') (hok:okF P f=true:=by kernel_rfl) (hb:EmB H ns ks ks':=by repeat' first | exact .nil | refine .cons rfl (EncOk.fref eo _ _) (EncOk.fown eo _) ?_ | refine .cons rfl ?_ ?_ ?_ | exact fan | refine fac ?_ ?_ | exact .int | exact .str | exact .bool | exact .nils | exact .pv ekB.rlst | exact EncOk.rlst eo | exact .lst (EncOk.fown eo _)) (hn:nodupB ns=true:=by rfl) (hargs:RnL ns args args':=by repeat' first | exact .nil | refine .cons rfl ?_ ?_ | exact .dat .int | exact .ptr rfl | exact .dat .str | exact .slq rfl rfl | exact .sl rfl | exact .dat .bool | exact .dat (EncOk.rlst eo) | exact .dat (EncOk.rrec eo) | exact .und | exact .dat .nils | refine .cons ?_ ?_ | refine RnL.agg ?_ | refine RnL.tup ?_ | refine RnL.fn ?_ | exact .dat (.pv ekB.rlst) | refine .dat (.el ?_) | exact fan | refine fac ?_ ?_ | exact .int | exact .str | exact .bool | exact EncOk.rlst eo) (hr:Scal r:=by repeat' first | exact .int | exact .str | exact .bool | exact .agg (Tw _ _) | exact .agg (A20 _ _) | exact .agg (Ze _ _) | exact .agg (Tr _ _) | exact .agg (A29 _ _) | exact .agg (Pp _ _) | refine .tup ?_ | exact fan | refine fac ?_ ?_) (hH:putKs H ns (ks'.map some)=H':=by rfl) (hrr:r=r0:=by rfl):A6 P 0 f args H K:=A6.embW ks ks' ns hok h hb hn hargs hr hH hrr hk
theorem A6.eN (ks ks' news:List ABlk) (ns:List Nat) (pins:List AV) (h:C5 P 0 f args' (ks.map some) r ((ks'++news).map some)) (hk:K r0 H') (hok:okF P f=true:=by kernel_rfl) (hb:EmN H pins ns ks ks':=by repeat' first | exact .nil | refine .own rfl (EncOk.fref eo _ _) (EncOk.fown eo _) ?_ | refine .cons rfl ?_ ?_ ?_ | exact fan | refine fac ?_ ?_ | exact .int | exact .str | exact .bool | exact .nils | exact .pv ekB.rlst | exact .inl .int | exact .inl .str | exact .inl .bool | exact .inl .nils | exact .inr (.head _) | exact .inr (.tail _ (.head _)) | exact .inl (.lst (EncOk.fown eo _)) | exact EncOk.rlst eo) (hw:NwB pins news:=by repeat' first | exact .nil | refine .own (EncOk.fown eo _) ?_ | refine .cons ?_ ?_ | exact fan | refine fac ?_ ?_ | exact .inl .int | exact .inl .str | exact .inl .bool | exact .inl .nils | exact .inr (.head _) | exact .inr (.tail _ (.head _)) | exact .inl (.lst (EncOk.fown eo _))) (hp:PinL ks ns args pins:=by repeat' first | exact .nil | refine .blk 0 _ _ 0 0 rfl rfl rfl rfl scalB ?_ | refine .blk 0 _ _ 0 1 rfl rfl rfl rfl scalB ?_ | refine .blk 0 _ _ 0 2 rfl rfl rfl rfl scalB ?_ | refine .blk 0 _ _ 0 3 rfl rfl rfl rfl scalB ?_ | refine .blk 1 _ _ 0 0 rfl rfl rfl rfl scalB ?_ | refine .blk 1 _ _ 0 1 rfl rfl rfl rfl scalB ?_ | refine .blk 1 _ _ 0 2 rfl rfl rfl rfl scalB ?_ | refine .blk 1 _ _ 0 3 rfl rfl rfl rfl scalB ?_ | refine .arg 0 rfl scalB ?_ | refine .arg 1 rfl scalB ?_ | refine .arg 2 rfl scalB ?_) (hn:nodupB ns=true:=by rfl) (hargs:RnL ns args args':=by repeat' first | exact .nil | refine .cons rfl ?_ ?_ | exact .dat .int | exact .ptr rfl | exact .dat .str | exact .slq rfl rfl | exact .sl rfl | exact .dat .bool | exact .dat (EncOk.rlst eo) | exact .dat (EncOk.rrec eo) | exact .und | exact .dat .nils | refine .cons ?_ ?_ | refine RnL.agg ?_ | refine RnL.tup ?_ | refine RnL.fn ?_ | exact .dat (.pv ekB.rlst) | refine .dat (.el ?_) | exact fan | refine fac ?_ ?_ | exact .int | exact .str | exact .bool | exact EncOk.rlst eo) (hr:Rt (ns++(List.range news.length).map (H.length+·)) (·∈pins) r0 r:=by repeat' first | exact .nil | refine .cons ?_ ?_ | exact .int | exact .str | exact .bool | exact .sl rfl | exact .ptr rfl | exact .nils | refine RtL.agg ?_ | refine RtL.tup ?_) (hH:putKs H ns (ks'.map some)++news.map some=H':=by rfl):A6 P 0 f args H K:=A6.embN ks ks' news ns pins hok h hb hw hp hn hargs hr hH hk
end
end Go.Proofs.YtldndhdohlfpgaaGreat.V
/- What the functions compute. -/
namespace Go.Proofs.YtldndhdohlfpgaaGreat.V
open Go Go.Proofs Go.RowKit
set_option maxRecDepth 100000
noncomputable def Av (x0:List TItem) (x1:List TItem) (s1:Int):Option (Int ⊕ (Bool ⊕ Unit)) :=
 (if decide (s1<(x0.length:Int)) then (at? x0 s1).bind fun v3=>(at? x1 s1).bind fun v4=>(if !(v3.Seq==v4.Seq&&(v3.Rec.Kind==v4.Rec.Kind&&(v3.Rec.Valid==v4.Rec.Valid&&(v3.Rec.Uid==v4.Rec.Uid&&(v3.Rec.Next==v4.Rec.Next&&(v3.Rec.Flags==v4.Rec.Flags&&(v3.Rec.User==v4.Rec.User&&(v3.Rec.Name==v4.Rec.Name&&(v3.Rec.Text==v4.Rec.Text&&true))))))))) then some (.inr (.inl false)) else some (.inl (w64 (s1+1)))) else some (.inr (.inr ())))
noncomputable def Af (x0:List TItem) (x1:List TItem):Option Bool :=
 (if ((x0.length:Int) != (x1.length:Int)) then some false else (iter (Av x0 x1) 0).bind (Sum.elim (fun r=>some r) (fun _=>some true)))
noncomputable def Dd (x0:TLog) (s1:Int×(List TItem)):Option ((Int×(List TItem)) ⊕ (List TItem)) :=
 (if decide (s1.1<(x0.Used.length:Int)) then (at? x0.Used s1.1).bind fun v3=>(app? 96 s1.2 v3.Items).bind fun v4=>some (.inl (w64 (s1.1+1),v4)) else some (.inr s1.2))
noncomputable def W2 (x0:TLog):Option (List TItem) :=
 (iter (Dd x0) (0,([]:List TItem))).bind (fun y5=>some y5)
noncomputable def Aj (x0:TSeg) (x1:TSeg):Option Bool :=
 some (x0.No==x1.No)
noncomputable def K8 (x0:List TSeg) (x1:TSeg) (s1:Int):Option (Int ⊕ (Int ⊕ Unit)) :=
 (if decide (s1<(x0.length:Int)) then (at? x0 s1).bind fun v3=>(Aj v3 x1).bind fun v4=>(if v4 then some (.inr (.inl s1)) else some (.inl (w64 (s1+1)))) else some (.inr (.inr ())))
noncomputable def J5 (x0:List TSeg) (x1:TSeg):Option Int :=
 (iter (K8 x0 x1) 0).bind (Sum.elim (fun r=>some r) (fun _=>some (-1)))
noncomputable def E5 (x0:List TSeg) (x1:TSeg):Option Bool :=
 (J5 x0 x1).bind fun v1=>some (decide (v1≥0))
noncomputable def W9 (x0:List UInt8):Option Bool :=
 some ((x0.length:Int) != 32)
noncomputable def J2 (x0:List (List UInt8)) (s1:Int):Option (Int ⊕ (Int ⊕ Unit)) :=
 (if decide (s1<(x0.length:Int)) then (at? x0 s1).bind fun v3=>(W9 v3).bind fun v4=>(if v4 then some (.inr (.inl s1)) else some (.inl (w64 (s1+1)))) else some (.inr (.inr ())))
noncomputable def F9 (x0:List (List UInt8)):Option Int :=
 (iter (J2 x0) 0).bind (Sum.elim (fun r=>some r) (fun _=>some (-1)))
noncomputable def E8 (x0:List (List UInt8)):Option Bool :=
 (F9 x0).bind fun v1=>some (decide (v1≥0))
noncomputable def D3 (x0:Int) (x1:Int) (x2:Int):Option Bool :=
 (if decide (x0≥x1) then some (decide (x0≤x2)) else some false)
noncomputable def T2 (x0:TWrite) (x1:TDisk):Option Bool :=
 (D3 x0.At 0 (w64 ((x1.Sectors.length:Int) - 1))).bind fun v1=>(if v1 then some ((x0.Text.length:Int) != 32) else some true)
noncomputable def K1 (x0:List TWrite) (x1:TDisk) (s1:Int):Option (Int ⊕ (Int ⊕ Unit)) :=
 (if decide (s1<(x0.length:Int)) then (at? x0 s1).bind fun v3=>(T2 v3 x1).bind fun v4=>(if v4 then some (.inr (.inl s1)) else some (.inl (w64 (s1+1)))) else some (.inr (.inr ())))
noncomputable def G5 (x0:List TWrite) (x1:TDisk):Option Int :=
 (iter (K1 x0 x1) 0).bind (Sum.elim (fun r=>some r) (fun _=>some (-1)))
noncomputable def F1 (x0:List TWrite) (x1:TDisk):Option Bool :=
 (G5 x0 x1).bind fun v1=>some (decide (v1≥0))
noncomputable def P0 (x0:TDisk):Option Bool :=
 ((D3 (x0.Sectors.length:Int) 1 100).bind fun v2=>(if v2 then (if decide ((x0.Cache.length:Int)>60) then some true else some false) else some true):Option Bool).bind (fun y1=>(if y1 then some false else (E8 x0.Sectors).bind fun v3=>(if v3 then some false else (F1 x0.Cache x0).bind fun v4=>some (!v4))))
noncomputable def U2 (x0:TDisk):Option Int :=
 (D3 (w64 (Int.tdiv (w64 ((x0.Sectors.length:Int) - 8)) 8)) 5 11).bind fun v1=>(if v1 then some (w64 (Int.tdiv (w64 ((x0.Sectors.length:Int) - 8)) 8)) else some 0)
noncomputable def Q5 (x0:List UInt8) (x1:Int) (s2:Int×Int):Option ((Int×Int) ⊕ ((Int×Int×Bool) ⊕ Unit)) :=
 ((if decide (s2.2<5) then (if decide ((w64 (x1+s2.2))<(x0.length:Int)) then some true else some false) else some false):Option Bool).bind (fun y4=>(if y4 then (bt? x0 (w64 (x1+s2.2))).bind fun v5=>(shl? .i64 (andv .i64 (w64 (v5.toNat:Int)) 127) (w64 (7*s2.2))).bind fun v6=>(if decide ((w64 (v5.toNat:Int))>127) then some (.inl (orv .i64 s2.1 v6,w64 (s2.2+1))) else ((if ((w64 (v5.toNat:Int))==0) then (if decide (s2.2>0) then some true else (if decide ((orv .i64 s2.1 v6)>1000000000) then some true else some false)) else (if decide ((orv .i64 s2.1 v6)>1000000000) then some true else some false)):Option Bool).bind (fun y7=>(if y7 then some (.inr (.inl (0,0,false))) else some (.inr (.inl (orv .i64 s2.1 v6,w64 ((w64 (x1+s2.2))+1),true)))))) else some (.inr (.inr ()))))
noncomputable def J6 (x0:List UInt8) (x1:Int):Option (Int×Int×Bool) :=
 (D3 x1 0 (x0.length:Int)).bind fun v1=>(if v1 then (iter (Q5 x0 x1) (0,0)).bind (Sum.elim (fun r=>some r) (fun _=>some (0,0,false))) else some (0,0,false))
noncomputable def H4 (x0:List UInt8) (x1:Int):Option ((List UInt8)×Int×Bool) :=
 (J6 x0 x1).bind fun v1=>((if !v1.2.2 then some true else (if decide (v1.1>20000) then some true else (if decide (v1.1>(w64 ((x0.length:Int) - v1.2.1))) then some true else some false))):Option Bool).bind (fun y2=>(if y2 then some ([],0,false) else (sub? x0 v1.2.1 (w64 (v1.2.1+v1.1))).bind fun v3=>some (v3,w64 (v1.2.1+v1.1),true)))
noncomputable def W4 (x0:TFrame):Option Bool :=
 ((D3 x0.Gen 1 1000000000).bind fun v2=>(if v2 then (D3 x0.Seq 1 1000000000).bind fun v3=>(if v3 then (D3 (x0.Body.length:Int) 1 180).bind fun v4=>some v4 else some false) else some false):Option Bool).bind (fun y1=>some y1)
noncomputable def Ap (s4:Int×Int):Option ((Int×Int) ⊕ Int) :=
 (if decide (s4.2<8) then (if ((andv .u32 s4.1 1)==1) then some (.inl (xorv .u32 (shrv .u32 s4.1 1) 3558460437,w64 (s4.2+1))) else some (.inl (shrv .u32 s4.1 1,w64 (s4.2+1)))) else some (.inr s4.1))
noncomputable def Ab (x1:List UInt8) (s1:Int×Int):Option ((Int×Int) ⊕ Int) :=
 (if decide (s1.2<(x1.length:Int)) then (bt? x1 s1.2).bind fun v3=>(iter (Ap) (xorv .u32 s1.1 (IntKind.u32.wrap (v3.toNat:Int)),0)).bind (fun y6=>some (.inl (y6,w64 (s1.2+1)))) else some (.inr s1.1))
noncomputable def Cp (x0:Int) (x1:List UInt8):Option Int :=
 (iter (Ab x1) (x0,0)).bind (fun y7=>some y7)
noncomputable def Fb (x0:List UInt8):Option Int :=
 (Cp 4294967295 x0).bind fun v1=>some v1
noncomputable def Cf (x0:List UInt8):Option (List UInt8) :=
 (Fb x0).bind fun v1=>some ([IntKind.u8.wrap (shrv .u32 v1 24),IntKind.u8.wrap (shrv .u32 v1 16),IntKind.u8.wrap (shrv .u32 v1 8),IntKind.u8.wrap v1].map ofI)
noncomputable def Du (x0:List UInt8):Option ((List UInt8)×Bool) :=
 (if decide ((x0.length:Int)>20000) then some ([],false) else (Cf x0).bind fun v1=>(cat? x0 v1).bind fun v2=>some (v2,true))
noncomputable def U7 (s1:Int×(List Int)):Option ((Int×(List Int)) ⊕ (Int×(List Int))) :=
 (if decide (s1.1>127) then (app? 1 s1.2 [IntKind.u8.wrap (orv .i64 (andv .i64 s1.1 127) 128)]).bind fun v3=>some (.inl (shrv .i64 s1.1 7,v3)) else some (.inr (s1.1,s1.2)))
noncomputable def G0 (x0:Int):Option (List UInt8) :=
 (iter (U7) (x0,([]:List Int))).bind (fun y4=>(app? 1 y4.2 [IntKind.u8.wrap y4.1]).bind fun v5=>some (v5.map ofI))
noncomputable def Am (x0:TFrame):Option ((List UInt8)×Bool) :=
 (W4 x0).bind fun v1=>(if v1 then (G0 x0.Gen).bind fun v2=>(G0 x0.Seq).bind fun v3=>(cat? v2 v3).bind fun v4=>(G0 (x0.Body.length:Int)).bind fun v5=>(cat? v4 v5).bind fun v6=>(cat? v6 x0.Body).bind fun v7=>(Du v7).bind fun v8=>some (v8.1,v8.2) else some ([],false))
noncomputable def V3 (x0:List UInt8) (x1:Int):Option (TFrame×Int×Bool) :=
 (J6 x0 x1).bind fun v1=>(J6 x0 v1.2.1).bind fun v2=>(H4 x0 v2.2.1).bind fun v3=>((if !v1.2.2 then some true else (if !v2.2.2 then some true else (if !v3.2.2 then some true else (W4 ({ Gen:=v1.1,Seq:=v2.1,Body:=v3.1 }:TFrame)).bind fun v5=>(if v5 then (if decide ((w64 ((x0.length:Int) - v3.2.1))<4) then some true else some false) else some true)))):Option Bool).bind (fun y4=>(if y4 then some (({ Gen:=0,Seq:=0,Body:=[] }:TFrame),0,false) else (Am ({ Gen:=v1.1,Seq:=v2.1,Body:=v3.1 }:TFrame)).bind fun v6=>(sub? x0 x1 (w64 (v3.2.1+4))).bind fun v7=>(if (!(v7==v6.1)) then some (({ Gen:=0,Seq:=0,Body:=[] }:TFrame),0,false) else some (({ Gen:=v1.1,Seq:=v2.1,Body:=v3.1 }:TFrame),w64 (v3.2.1+4),true))))
noncomputable def T4 (x0:TDisk) (x1:Int) (s3:(List UInt8)×Int):Option (((List UInt8)×Int) ⊕ (List UInt8)) :=
 (if decide (s3.2<(x0.Cache.length:Int)) then (at? x0.Cache s3.2).bind fun v5=>(if (v5.At==x1) then some (.inl (v5.Text,w64 (s3.2+1))) else some (.inl (s3.1,w64 (s3.2+1)))) else some (.inr s3.1))
noncomputable def R8 (x0:TDisk) (x1:Int):Option ((List UInt8)×Bool) :=
 (D3 x1 0 (w64 ((x0.Sectors.length:Int) - 1))).bind fun v1=>(if v1 then (at? x0.Sectors x1).bind fun v2=>(iter (T4 x0 x1) (v2,0)).bind (fun y6=>some (y6,true)) else some ([],false))
noncomputable def T9 (x0:TDisk) (x1:Int) (x2:Int) (s2:(List UInt8)×Int):Option (((List UInt8)×Int) ⊕ (((List UInt8)×Bool) ⊕ (List UInt8))) :=
 (if decide (s2.2<x2) then (R8 x0 (w64 (x1+s2.2))).bind fun v4=>(if !v4.2 then some (.inr (.inl ([],false))) else (cat? s2.1 v4.1).bind fun v5=>some (.inl (v5,w64 (s2.2+1)))) else some (.inr (.inr s2.1)))
noncomputable def R5 (x0:TDisk) (x1:Int) (x2:Int):Option ((List UInt8)×Bool) :=
 (D3 x2 0 100).bind fun v1=>(if v1 then (iter (T9 x0 x1 x2) ([],0)).bind (Sum.elim (fun r=>some r) (fun y3=>some (y3,true))) else some ([],false))
noncomputable def Dx (x0:Int):Option Int :=
 (D3 x0 0 10).bind fun v1=>(if v1 then some (w64 (8+(w64 (x0*8)))) else some 0)
noncomputable def Z2 (x0:TDisk) (x1:Int):Option (List UInt8) :=
 (D3 x1 0 10).bind fun v1=>(if v1 then (Dx x1).bind fun v2=>(R5 x0 v2 8).bind fun v3=>some v3.1 else some [])
noncomputable def P1 (x0:TDisk) (x1:Int):Option Int :=
 (Z2 x0 x1).bind fun v1=>(V3 v1 0).bind fun v2=>(if (!(v2.1.Body==[115,101,103])) then some 0 else some v2.1.Gen)
noncomputable def Y9 (x0:List UInt8) (x1:Int) (s1:Int×(List TFrame)):Option ((Int×(List TFrame)) ⊕ (((List TFrame)×Int) ⊕ Empty)) :=
 (V3 x0 s1.1).bind fun v3=>((if !v3.2.2 then some true else (if (v3.1.Gen != x1) then some true else some false)):Option Bool).bind (fun y4=>(if y4 then some (.inr (.inl (s1.2,s1.1))) else (app? 32 s1.2 [v3.1]).bind fun v5=>some (.inl (v3.2.1,v5))))
noncomputable def X9 (x0:List UInt8) (x1:Int):Option ((List TFrame)×Int) :=
 (iter (Y9 x0 x1) (0,([]:List TFrame))).bind (Sum.elim (fun r=>some r) (fun y=>y.elim))
noncomputable def U4 (x0:TDisk) (x1:Int):Option ((List TFrame)×Int) :=
 (P1 x0 x1).bind fun v1=>(if (v1==0) then some ([],0) else (Z2 x0 x1).bind fun v2=>(X9 v2 v1).bind fun v3=>(sub? v3.1 1 (v3.1.length:Int)).bind fun v4=>some (v4,v3.2))
noncomputable def X0 (x0:List UInt8) (s2:Int):Option (Int ⊕ (Bool ⊕ Unit)) :=
 (if decide (s2<(x0.length:Int)) then ((bt? x0 s2).bind fun v5=>(if decide ((v5.toNat:Int)<97) then some true else (bt? x0 s2).bind fun v6=>(if decide ((v6.toNat:Int)>122) then some true else some false)):Option Bool).bind (fun y4=>(if y4 then some (.inr (.inl false)) else some (.inl (w64 (s2+1))))) else some (.inr (.inr ())))
noncomputable def Bj (x0:List UInt8):Option Bool :=
 (D3 (x0.length:Int) 1 8).bind fun v1=>(if v1 then (iter (X0 x0) 0).bind (Sum.elim (fun r=>some r) (fun _=>some true)) else some false)
noncomputable def Df (x0:TRec):Option Bool :=
 (D3 x0.Valid 1 9999).bind fun v1=>(if v1 then ((if (x0.Kind==3) then some true else (if (x0.Kind==4) then some true else (if (x0.Kind==5) then some true else some false))):Option Bool).bind (fun y2=>((if y2 then (D3 x0.Uid 1 9999).bind fun v4=>(if v4 then some (true,0) else some (false,0)) else some (true,x0.Uid)):Option (Bool×Int)).bind (fun y3=>((if (x0.Kind==3) then some true else (if (x0.Kind==4) then some true else some false)):Option Bool).bind (fun y5=>((if y5 then ((if y3.1 then (D3 x0.Flags 0 7).bind fun v8=>(if v8 then some true else some false) else some false):Option Bool).bind (fun y7=>some (y7,0)) else some (y3.1,x0.Flags)):Option (Bool×Int)).bind (fun y6=>((if (x0.Kind==1) then ((Bj x0.User).bind fun v12=>(if v12 then (Bj x0.Name).bind fun v13=>(if v13 then (D3 x0.Next 1 10000).bind fun v14=>(if v14 then some true else some false) else some false) else some false):Option Bool).bind (fun y11=>some (.inr (y11,0,[],[],x0.Text))) else (if (x0.Kind==3) then ((if y6.1 then (if decide ((x0.Text.length:Int)≤100) then some true else some false) else some false):Option Bool).bind (fun y10=>some (.inr (y10,x0.Next,x0.User,x0.Name,[]))) else (if (x0.Kind==2) then some (.inr (y6.1,x0.Next,x0.User,x0.Name,x0.Text)) else (if (x0.Kind==4) then some (.inr (y6.1,x0.Next,x0.User,x0.Name,x0.Text)) else (if (x0.Kind==5) then some (.inr (y6.1,x0.Next,x0.User,x0.Name,x0.Text)) else some (.inl false)))))):Option (Bool ⊕ (Bool×Int×(List UInt8)×(List UInt8)×(List UInt8)))).bind (Sum.elim (fun r=>some r) (fun y9_=>(if y9_.1 then some (0==0&&(0==0&&(y3.2==0&&(y9_.2.1==0&&(y6.2==0&&(y9_.2.2.1==[]&&(y9_.2.2.2.1==[]&&(y9_.2.2.2.2==[]&&true)))))))) else some false))))))) else some false)
noncomputable def R3 (x0:List UInt8):Option (TRec×Bool) :=
 (if (x0==[]) then some (({ Kind:=0,Valid:=0,Uid:=0,Next:=0,Flags:=0,User:=[],Name:=[],Text:=[] }:TRec),false) else (bt? x0 0).bind fun v1=>(J6 x0 1).bind fun v2=>(if !v2.2.2 then some (({ Kind:=0,Valid:=0,Uid:=0,Next:=0,Flags:=0,User:=[],Name:=[],Text:=[] }:TRec),false) else (J6 x0 v2.2.1).bind fun v3=>(if !v3.2.2 then some (({ Kind:=0,Valid:=0,Uid:=0,Next:=0,Flags:=0,User:=[],Name:=[],Text:=[] }:TRec),false) else (J6 x0 v3.2.1).bind fun v4=>(if !v4.2.2 then some (({ Kind:=0,Valid:=0,Uid:=0,Next:=0,Flags:=0,User:=[],Name:=[],Text:=[] }:TRec),false) else (J6 x0 v4.2.1).bind fun v5=>(if !v5.2.2 then some (({ Kind:=0,Valid:=0,Uid:=0,Next:=0,Flags:=0,User:=[],Name:=[],Text:=[] }:TRec),false) else (H4 x0 v5.2.1).bind fun v6=>(if !v6.2.2 then some (({ Kind:=0,Valid:=0,Uid:=0,Next:=0,Flags:=0,User:=[],Name:=[],Text:=[] }:TRec),false) else (H4 x0 v6.2.1).bind fun v7=>(if !v7.2.2 then some (({ Kind:=0,Valid:=0,Uid:=0,Next:=0,Flags:=0,User:=[],Name:=[],Text:=[] }:TRec),false) else (H4 x0 v7.2.1).bind fun v8=>(if !v8.2.2 then some (({ Kind:=0,Valid:=0,Uid:=0,Next:=0,Flags:=0,User:=[],Name:=[],Text:=[] }:TRec),false) else ((if (v8.2.1 != (x0.length:Int)) then some true else (Df ({ Kind:=w64 (v1.toNat:Int),Valid:=v2.1,Uid:=v3.1,Next:=v4.1,Flags:=v5.1,User:=v6.1,Name:=v7.1,Text:=v8.1 }:TRec)).bind fun v10=>(if v10 then some false else some true)):Option Bool).bind (fun y9=>(if y9 then some (({ Kind:=0,Valid:=0,Uid:=0,Next:=0,Flags:=0,User:=[],Name:=[],Text:=[] }:TRec),false) else some (({ Kind:=w64 (v1.toNat:Int),Valid:=v2.1,Uid:=v3.1,Next:=v4.1,Flags:=v5.1,User:=v6.1,Name:=v7.1,Text:=v8.1 }:TRec),true)))))))))))
noncomputable def U6 (x0:TFrame):Option (TItem×Bool) :=
 (R3 x0.Body).bind fun v1=>((if !v1.2 then some true else (W4 x0).bind fun v3=>(if v3 then some false else some true)):Option Bool).bind (fun y2=>(if y2 then some (({ Seq:=0,Rec:=({ Kind:=0,Valid:=0,Uid:=0,Next:=0,Flags:=0,User:=[],Name:=[],Text:=[] }:TRec) }:TItem),false) else some (({ Seq:=x0.Seq,Rec:=v1.1 }:TItem),true)))
noncomputable def Dy (x1:TSeg) (v1:(List TFrame)×Int) (s4:Int):Option (Int ⊕ (Bool ⊕ Unit)) :=
 (if decide (s4<(v1.1.length:Int)) then (at? v1.1 s4).bind fun v6=>(U6 v6).bind fun v7=>((if !v7.2 then some true else (at? x1.Items s4).bind fun v9=>(if !(v7.1.Seq==v9.Seq&&(v7.1.Rec.Kind==v9.Rec.Kind&&(v7.1.Rec.Valid==v9.Rec.Valid&&(v7.1.Rec.Uid==v9.Rec.Uid&&(v7.1.Rec.Next==v9.Rec.Next&&(v7.1.Rec.Flags==v9.Rec.Flags&&(v7.1.Rec.User==v9.Rec.User&&(v7.1.Rec.Name==v9.Rec.Name&&(v7.1.Rec.Text==v9.Rec.Text&&true))))))))) then some true else some false)):Option Bool).bind (fun y8=>(if y8 then some (.inr (.inl false)) else some (.inl (w64 (s4+1))))) else some (.inr (.inr ())))
noncomputable def Bo (x0:TDisk) (x1:TSeg):Option Bool :=
 (U4 x0 x1.No).bind fun v1=>((P1 x0 x1.No).bind fun v3=>(if (v3 != x1.Gen) then some true else (if (x1.Gen==0) then some true else (if (v1.2 != x1.End) then some true else (if ((v1.1.length:Int) != (x1.Items.length:Int)) then some true else some false)))):Option Bool).bind (fun y2=>(if y2 then some false else (iter (Dy x1 v1) 0).bind (Sum.elim (fun r=>some r) (fun _=>some true))))
noncomputable def U9 (x0:TItem) (x1:TLog):Option Bool :=
 (if decide (x0.Seq≥x1.NextSeq) then some true else some (decide (x0.Rec.Valid≥x1.NextValid)))
noncomputable def K5 (x0:List TItem) (x1:TLog) (s1:Int):Option (Int ⊕ (Int ⊕ Unit)) :=
 (if decide (s1<(x0.length:Int)) then (at? x0 s1).bind fun v3=>(U9 v3 x1).bind fun v4=>(if v4 then some (.inr (.inl s1)) else some (.inl (w64 (s1+1)))) else some (.inr (.inr ())))
noncomputable def J0 (x0:List TItem) (x1:TLog):Option Int :=
 (iter (K5 x0 x1) 0).bind (Sum.elim (fun r=>some r) (fun _=>some (-1)))
noncomputable def E3 (x0:List TItem) (x1:TLog):Option Bool :=
 (J0 x0 x1).bind fun v1=>some (decide (v1≥0))
noncomputable def W3 (x0:TItem) (x1:TItem):Option Bool :=
 (if (x0.Seq==x1.Seq) then some (!(x0.Seq==x1.Seq&&(x0.Rec.Kind==x1.Rec.Kind&&(x0.Rec.Valid==x1.Rec.Valid&&(x0.Rec.Uid==x1.Rec.Uid&&(x0.Rec.Next==x1.Rec.Next&&(x0.Rec.Flags==x1.Rec.Flags&&(x0.Rec.User==x1.Rec.User&&(x0.Rec.Name==x1.Rec.Name&&(x0.Rec.Text==x1.Rec.Text&&true)))))))))) else some false)
noncomputable def K0 (x0:List TItem) (x1:TItem) (s1:Int):Option (Int ⊕ (Int ⊕ Unit)) :=
 (if decide (s1<(x0.length:Int)) then (at? x0 s1).bind fun v3=>(W3 v3 x1).bind fun v4=>(if v4 then some (.inr (.inl s1)) else some (.inl (w64 (s1+1)))) else some (.inr (.inr ())))
noncomputable def G7 (x0:List TItem) (x1:TItem):Option Int :=
 (iter (K0 x0 x1) 0).bind (Sum.elim (fun r=>some r) (fun _=>some (-1)))
noncomputable def F0 (x0:List TItem) (x1:TItem):Option Bool :=
 (G7 x0 x1).bind fun v1=>some (decide (v1≥0))
noncomputable def Z4 (x0:List TItem) (s1:Int):Option (Int ⊕ (Bool ⊕ Unit)) :=
 (if decide (s1<(x0.length:Int)) then (at? x0 s1).bind fun v3=>((D3 v3.Seq 1 1000000000).bind fun v5=>(if v5 then (Df v3.Rec).bind fun v6=>(if v6 then some false else some true) else some true):Option Bool).bind (fun y4=>(if y4 then some (.inr (.inl false)) else (sub? x0 0 s1).bind fun v7=>(F0 v7 v3).bind fun v8=>(if v8 then some (.inr (.inl false)) else some (.inl (w64 (s1+1)))))) else some (.inr (.inr ())))
noncomputable def Ci (x0:List TItem):Option Bool :=
 (if decide ((x0.length:Int)>200) then some false else (iter (Z4 x0) 0).bind (Sum.elim (fun r=>some r) (fun _=>some true)))
noncomputable def Z1 (x0:TLog) (s10:Int):Option (Int ⊕ (Bool ⊕ Unit)) :=
 (if decide (s10<(x0.Used.length:Int)) then (at? x0.Used s10).bind fun v12=>((D3 v12.No 0 (w64 (x0.Segs - 1))).bind fun v14=>(if v14 then (if decide (v12.Gen≥x0.NextGen) then some true else (if decide (s10>0) then (at? x0.Used (w64 (s10 - 1))).bind fun v16=>(if decide (v16.Gen≥v12.Gen) then some true else (Bo x0.Disk v12).bind fun v17=>(if v17 then some false else some true)) else (Bo x0.Disk v12).bind fun v15=>(if v15 then some false else some true))) else some true):Option Bool).bind (fun y13=>(if y13 then some (.inr (.inl false)) else (sub? x0.Used 0 s10).bind fun v18=>(E5 v18 v12).bind fun v19=>(if v19 then some (.inr (.inl false)) else (E3 v12.Items x0).bind fun v20=>(if v20 then some (.inr (.inl false)) else some (.inl (w64 (s10+1))))))) else some (.inr (.inr ())))
noncomputable def Y6 (x0:TLog):Option Bool :=
 ((P0 x0.Disk).bind fun v2=>(if v2 then (if ((x0.Disk.Cache.length:Int) != 0) then some true else (if (x0.Segs==0) then some true else (U2 x0.Disk).bind fun v3=>(if (x0.Segs != v3) then some true else (D3 (x0.Used.length:Int) 1 x0.Segs).bind fun v4=>(if v4 then some false else some true)))) else some true):Option Bool).bind (fun y1=>(if y1 then some false else ((D3 x0.NextGen 1 1000000000).bind fun v6=>(if v6 then (D3 x0.NextSeq 1 1000000000).bind fun v7=>(if v7 then (D3 x0.NextValid 1 1000000000).bind fun v8=>(if v8 then (D3 x0.Stamp 1 1000000000).bind fun v9=>(if v9 then some false else some true) else some true) else some true) else some true):Option Bool).bind (fun y5=>(if y5 then some false else (iter (Z1 x0) 0).bind (Sum.elim (fun r=>some r) (fun _=>(W2 x0).bind fun v22=>(Ci v22).bind fun v23=>some v23))))))
noncomputable def Ey (v1:(List TFrame)×Int) (s3:Int×(List TItem)):Option ((Int×(List TItem)) ⊕ (List TItem)) :=
 (if decide (s3.1<(v1.1.length:Int)) then (at? v1.1 s3.1).bind fun v5=>(U6 v5).bind fun v6=>(if v6.2 then (app? 96 s3.2 [v6.1]).bind fun v7=>some (.inl (w64 (s3.1+1),v7)) else some (.inl (w64 (s3.1+1),s3.2))) else some (.inr s3.2))
noncomputable def Y0 (x0:TDisk) (x1:Int):Option TSeg :=
 (U4 x0 x1).bind fun v1=>(P1 x0 x1).bind fun v2=>(iter (Ey v1) (0,([]:List TItem))).bind (fun y8=>some ({ No:=x1,Gen:=v2,End:=v1.2,Items:=y8 }:TSeg))
noncomputable def Bc (x0:List UInt8):Option ((List UInt8)×Bool) :=
 ((D3 (w64 ((x0.length:Int) - 4)) 0 20000).bind fun v2=>(if v2 then (sub? x0 (w64 ((x0.length:Int) - 4)) (x0.length:Int)).bind fun v3=>(sub? x0 0 (w64 ((x0.length:Int) - 4))).bind fun v4=>(Cf v4).bind fun v5=>(if (!(v3==v5)) then some true else some false) else some true):Option Bool).bind (fun y1=>(if y1 then some ([],false) else (sub? x0 0 (w64 ((x0.length:Int) - 4))).bind fun v6=>some (v6,true)))
noncomputable def W7 (x0:TRef) (x1:TRef):Option Bool :=
 some (x0.No==x1.No)
noncomputable def K4 (x0:List TRef) (x1:TRef) (s1:Int):Option (Int ⊕ (Int ⊕ Unit)) :=
 (if decide (s1<(x0.length:Int)) then (at? x0 s1).bind fun v3=>(W7 v3 x1).bind fun v4=>(if v4 then some (.inr (.inl s1)) else some (.inl (w64 (s1+1)))) else some (.inr (.inr ())))
noncomputable def H5 (x0:List TRef) (x1:TRef):Option Int :=
 (iter (K4 x0 x1) 0).bind (Sum.elim (fun r=>some r) (fun _=>some (-1)))
noncomputable def F4 (x0:List TRef) (x1:TRef):Option Bool :=
 (H5 x0 x1).bind fun v1=>some (decide (v1≥0))
noncomputable def Aq (x0:TCheck) (s7:Int×Int):Option ((Int×Int) ⊕ (Bool ⊕ Unit)) :=
 (if decide (s7.2<(x0.Refs.length:Int)) then (at? x0.Refs s7.2).bind fun v9=>((D3 v9.Gen (w64 (s7.1+1)) (w64 (x0.NextGen - 1))).bind fun v11=>(if v11 then (D3 v9.No 0 10).bind fun v12=>(if v12 then (sub? x0.Refs 0 s7.2).bind fun v13=>(F4 v13 v9).bind fun v14=>(if v14 then some true else some false) else some true) else some true):Option Bool).bind (fun y10=>(if y10 then some (.inr (.inl false)) else some (.inl (v9.Gen,w64 (s7.2+1))))) else some (.inr (.inr ())))
noncomputable def V0 (x0:TCheck) (s1:Int):Option (Int ⊕ (Bool ⊕ Unit)) :=
 (if decide (s1<([x0.Stamp,x0.NextGen,x0.NextSeq,x0.NextValid].length:Int)) then (at? [x0.Stamp,x0.NextGen,x0.NextSeq,x0.NextValid] s1).bind fun v3=>(D3 v3 1 1000000000).bind fun v4=>(if v4 then some (.inl (w64 (s1+1))) else some (.inr (.inl false))) else some (.inr (.inr ())))
noncomputable def Ch (x0:TCheck):Option Bool :=
 (iter (V0 x0) 0).bind (Sum.elim (fun r=>some r) (fun _=>(D3 (x0.Refs.length:Int) 1 11).bind fun v6=>(if v6 then (iter (Aq x0) (0,0)).bind (Sum.elim (fun r=>some r) (fun _=>some true)) else some false)))
noncomputable def W5 (x0:TCheck) (s11:(List UInt8)×Int):Option (((List UInt8)×Int) ⊕ (List UInt8)) :=
 (if decide (s11.2<(x0.Refs.length:Int)) then (at? x0.Refs s11.2).bind fun v13=>(G0 v13.No).bind fun v14=>(G0 v13.Gen).bind fun v15=>(cat? v14 v15).bind fun v16=>(cat? s11.1 v16).bind fun v17=>some (.inl (v17,w64 (s11.2+1))) else some (.inr s11.1))
noncomputable def V2 (x0:TCheck):Option ((List UInt8)×Bool) :=
 (Ch x0).bind fun v1=>(if v1 then (G0 x0.Stamp).bind fun v2=>(G0 x0.NextGen).bind fun v3=>(cat? v2 v3).bind fun v4=>(G0 x0.NextSeq).bind fun v5=>(cat? v4 v5).bind fun v6=>(G0 x0.NextValid).bind fun v7=>(cat? v6 v7).bind fun v8=>(G0 (x0.Refs.length:Int)).bind fun v9=>(cat? v8 v9).bind fun v10=>(iter (W5 x0) (v10,0)).bind (fun y18=>(Cf y18).bind fun v19=>(cat? y18 v19).bind fun v20=>(G0 (v20.length:Int)).bind fun v21=>(cat? v21 v20).bind fun v22=>(if decide ((v22.length:Int)>128) then some ([],false) else some (v22,true))) else some ([],false))
noncomputable def L3 (y4:(List Int)) (s12:Int×(List TRef)):Option ((Int×(List TRef)) ⊕ (List TRef)) :=
 (if decide ((w64 (s12.1+1))<(y4.length:Int)) then (at? y4 s12.1).bind fun v14=>(at? y4 (w64 (s12.1+1))).bind fun v15=>(app? 16 s12.2 [({ No:=v14,Gen:=v15 }:TRef)]).bind fun v16=>some (.inl (w64 (s12.1+2),v16)) else some (.inr s12.2))
noncomputable def L0 (v2:(List UInt8)×Bool) (s3:Int×(List Int)):Option ((Int×(List Int)) ⊕ ((TCheck×Bool) ⊕ (List Int))) :=
 (if decide (s3.1<(v2.1.length:Int)) then (J6 v2.1 s3.1).bind fun v5=>(if !v5.2.2 then some (.inr (.inl (({ Stamp:=0,NextGen:=0,NextSeq:=0,NextValid:=0,Refs:=[] }:TCheck),false))) else (app? 8 s3.2 [v5.1]).bind fun v6=>some (.inl (v5.2.1,v6))) else some (.inr (.inr s3.2)))
noncomputable def M5 (x0:List UInt8):Option (TCheck×Bool) :=
 (H4 x0 0).bind fun v1=>(Bc v1.1).bind fun v2=>(if !v1.2.2 then some (({ Stamp:=0,NextGen:=0,NextSeq:=0,NextValid:=0,Refs:=[] }:TCheck),false) else (if !v2.2 then some (({ Stamp:=0,NextGen:=0,NextSeq:=0,NextValid:=0,Refs:=[] }:TCheck),false) else (iter (L0 v2) (0,([]:List Int))).bind (Sum.elim (fun r=>some r) (fun y4=>(if decide ((y4.length:Int)<5) then some (({ Stamp:=0,NextGen:=0,NextSeq:=0,NextValid:=0,Refs:=[] }:TCheck),false) else (at? y4 0).bind fun v8=>(at? y4 1).bind fun v9=>(at? y4 2).bind fun v10=>(at? y4 3).bind fun v11=>(iter (L3 y4) (5,([]:List TRef))).bind (fun y17=>(V2 ({ Stamp:=v8,NextGen:=v9,NextSeq:=v10,NextValid:=v11,Refs:=y17 }:TCheck)).bind fun v18=>((if !v18.2 then some true else (sub? x0 0 v1.2.1).bind fun v20=>(if (!(v18.1==v20)) then some true else some false)):Option Bool).bind (fun y19=>(if y19 then some (({ Stamp:=0,NextGen:=0,NextSeq:=0,NextValid:=0,Refs:=[] }:TCheck),false) else some (({ Stamp:=v8,NextGen:=v9,NextSeq:=v10,NextValid:=v11,Refs:=y17 }:TCheck),true)))))))))
noncomputable def L4 (x0:TDisk) (s1:Bool×Int×Int×Int×Int×Int×(List TRef)):Option ((Bool×Int×Int×Int×Int×Int×(List TRef)) ⊕ (Bool×Int×Int×Int×Int×(List TRef))) :=
 (if decide (s1.2.1<(([0,4]:List Int).length:Int)) then (at? ([0,4]:List Int) s1.2.1).bind fun v3=>(R5 x0 v3 4).bind fun v4=>(M5 v4.1).bind fun v5=>((if v5.2 then (if !s1.1 then some true else (if decide (v5.1.Stamp>s1.2.2.1) then some true else some false)) else some false):Option Bool).bind (fun y6=>(if y6 then some (.inl (true,w64 (s1.2.1+1),v5.1.Stamp,v5.1.NextGen,v5.1.NextSeq,v5.1.NextValid,v5.1.Refs)) else some (.inl (s1.1,w64 (s1.2.1+1),s1.2.2.1,s1.2.2.2.1,s1.2.2.2.2.1,s1.2.2.2.2.2.1,s1.2.2.2.2.2.2)))) else some (.inr (s1.1,s1.2.2.1,s1.2.2.2.1,s1.2.2.2.2.1,s1.2.2.2.2.2.1,s1.2.2.2.2.2.2)))
noncomputable def V7 (x0:TDisk):Option (TCheck×Bool) :=
 (iter (L4 x0) (false,0,0,0,0,0,([]:List TRef))).bind (fun y7=>some (({ Stamp:=y7.2.1,NextGen:=y7.2.2.1,NextSeq:=y7.2.2.2.1,NextValid:=y7.2.2.2.2.1,Refs:=y7.2.2.2.2.2 }:TCheck),y7.1))
noncomputable def Bp (x0:List (List UInt8)):Option (List (List UInt8)) :=
 app? 16 [] x0
noncomputable def Cq (x0:List TWrite):Option (List TWrite) :=
 app? 24 [] x0
noncomputable def F5 (x0:TDisk):Option TDisk :=
 (Bp x0.Sectors).bind fun v1=>(Cq x0.Cache).bind fun v2=>some ({ Sectors:=v1,Cache:=v2 }:TDisk)
noncomputable def Y8 (x0:TSeg) (x1:TSeg):Option Int :=
 some (w64 (x0.Gen - x1.Gen))
noncomputable def E0 (x0:List TSeg) (x1:Int) (s3:Int):Option (Int ⊕ Unit) :=
 ((if decide (s3>x1) then (at? x0 s3).bind fun v6=>(at? x0 (w64 (s3 - 1))).bind fun v7=>(Y8 v6 v7).bind fun v8=>(if decide (v8<0) then some true else some false) else some false):Option Bool).bind (fun y5=>(if y5 then none else some (.inr ())))
noncomputable def D9 (x0:List TSeg) (x1:Int) (x2:Int) (s1:Int):Option (Int ⊕ Unit) :=
 (if decide (s1<x2) then (iter (E0 x0 x1) s1).bind (fun _=>some (.inl (w64 (s1+1)))) else some (.inr ()))
noncomputable def C6 (x0:List TSeg) (x1:Int) (x2:Int):Option Unit :=
 (iter (D9 x0 x1 x2) (w64 (x1+1))).bind (fun _=>some ())
noncomputable def P9 (x1:Int) (s8:Int×Int):Option ((Int×Int) ⊕ Int) :=
 (if decide (s8.2≤x1) then none else some (.inr s8.1))
noncomputable def F6 (x1:Int) (s6:Int):Option (Int ⊕ Unit) :=
 (if decide (s6<x1) then (iter (P9 x1) (0,w64 (2*s6))).bind (fun y10=>(if decide ((w64 (y10+s6))<x1) then none else some (.inl (w64 (s6*2))))) else some (.inr ()))
noncomputable def F7 (x0:List TSeg) (x1:Int) (s1:Int×Int):Option ((Int×Int) ⊕ Int) :=
 (if decide (s1.2≤x1) then (C6 x0 s1.1 s1.2).bind fun _=>some (.inl (s1.2,w64 (s1.2+20))) else some (.inr s1.1))
noncomputable def G8 (x0:List TSeg) (x1:Int):Option Unit :=
 (iter (F7 x0 x1) (0,20)).bind (fun y4=>(C6 x0 y4 x1).bind fun _=>(iter (F6 x1) 20).bind (fun _=>some ()))
noncomputable def D1 (x0:List TSeg):Option Unit :=
 (G8 x0 (x0.length:Int)).bind fun _=>some ()
noncomputable def T5 (v23:TSeg) (s24:Int×Int×Int):Option ((Int×Int×Int) ⊕ (Int×Int)) :=
 (if decide (s24.1<(v23.Items.length:Int)) then (at? v23.Items s24.1).bind fun v26=>some (.inl (w64 (s24.1+1),(if w64 (v26.Seq+1)>s24.2.1 then w64 (v26.Seq+1) else s24.2.1),(if w64 (v26.Rec.Valid+1)>s24.2.2 then w64 (v26.Rec.Valid+1) else s24.2.2))) else some (.inr (s24.2.1,s24.2.2)))
noncomputable def U1 (y19:(List TSeg)) (s21:Int×Int×Int×Int):Option ((Int×Int×Int×Int) ⊕ (Int×Int×Int)) :=
 (if decide (s21.1<(y19.length:Int)) then (at? y19 s21.1).bind fun v23=>(iter (T5 v23) (0,s21.2.2.1,s21.2.2.2)).bind (fun y27=>some (.inl (w64 (s21.1+1),(if w64 (v23.Gen+1)>s21.2.1 then w64 (v23.Gen+1) else s21.2.1),y27.1,y27.2))) else some (.inr (s21.2.1,s21.2.2.1,s21.2.2.2)))
noncomputable def P7 (x0:TDisk) (v1:TCheck×Bool) (v6:Int) (s14:Int×(List TSeg)):Option ((Int×(List TSeg)) ⊕ (List TSeg)) :=
 (if decide (s14.1<v6) then (P1 x0 s14.1).bind fun v16=>(if decide (v16≥v1.1.NextGen) then (Y0 x0 s14.1).bind fun v17=>(app? 48 s14.2 [({ No:=v17.No,Gen:=v17.Gen,End:=v17.End,Items:=v17.Items }:TSeg)]).bind fun v18=>some (.inl (w64 (s14.1+1),v18)) else some (.inl (w64 (s14.1+1),s14.2))) else some (.inr s14.2))
noncomputable def P5 (x0:TDisk) (v1:TCheck×Bool) (s7:Int×(List TSeg)):Option ((Int×(List TSeg)) ⊕ (List TSeg)) :=
 (if decide (s7.1<(v1.1.Refs.length:Int)) then (at? v1.1.Refs s7.1).bind fun v9=>(P1 x0 v9.No).bind fun v10=>(if (v10==v9.Gen) then (Y0 x0 v9.No).bind fun v11=>(app? 48 s7.2 [({ No:=v11.No,Gen:=v11.Gen,End:=v11.End,Items:=v11.Items }:TSeg)]).bind fun v12=>some (.inl (w64 (s7.1+1),v12)) else some (.inl (w64 (s7.1+1),s7.2))) else some (.inr s7.2))
noncomputable def R7 (x0:TDisk):Option (TLog×Bool) :=
 (V7 x0).bind fun v1=>((P0 x0).bind fun v3=>(if v3 then (if ((x0.Cache.length:Int) != 0) then some true else (U2 x0).bind fun v4=>(if (v4==0) then some true else some (!v1.2))) else some true):Option Bool).bind (fun y2=>(if y2 then some (({ Disk:=({ Sectors:=[],Cache:=[] }:TDisk),Segs:=0,Used:=[],NextGen:=0,NextSeq:=0,Stamp:=0,NextValid:=0 }:TLog),false) else (F5 x0).bind fun v5=>(U2 x0).bind fun v6=>(iter (P5 x0 v1) (0,([]:List TSeg))).bind (fun y13=>(iter (P7 x0 v1 v6) (0,y13)).bind (fun y19=>(D1 y19).bind fun _=>(iter (U1 y19) (0,v1.1.NextGen,v1.1.NextSeq,v1.1.NextValid)).bind (fun y28=>(Y6 ({ Disk:=({ Sectors:=v5.Sectors,Cache:=v5.Cache }:TDisk),Segs:=v6,Used:=y19,NextGen:=y28.1,NextSeq:=y28.2.1,Stamp:=v1.1.Stamp,NextValid:=y28.2.2 }:TLog)).bind fun v29=>(if v29 then some (({ Disk:=({ Sectors:=v5.Sectors,Cache:=v5.Cache }:TDisk),Segs:=v6,Used:=y19,NextGen:=y28.1,NextSeq:=y28.2.1,Stamp:=v1.1.Stamp,NextValid:=y28.2.2 }:TLog),true) else some (({ Disk:=({ Sectors:=[],Cache:=[] }:TDisk),Segs:=0,Used:=[],NextGen:=0,NextSeq:=0,Stamp:=0,NextValid:=0 }:TLog),false)))))))
noncomputable def W0 (x0:TDisk) (x1:Int) (x2:List UInt8):Option (TDisk×Bool) :=
 (F5 x0).bind fun v1=>(app? 24 v1.Cache [({ At:=x1,Text:=x2 }:TWrite)]).bind fun v2=>((P0 x0).bind fun v4=>(if v4 then (P0 ({ Sectors:=v1.Sectors,Cache:=v2 }:TDisk)).bind fun v5=>(if v5 then some false else some true) else some true):Option Bool).bind (fun y3=>(if y3 then (F5 x0).bind fun v6=>some (({ Sectors:=v6.Sectors,Cache:=v6.Cache }:TDisk),false) else some (({ Sectors:=v1.Sectors,Cache:=v2 }:TDisk),true)))
noncomputable def L8 (x1:Int) (v1:TDisk) (s6:Int×(List UInt8)×(List (List UInt8))×(List TWrite)):Option ((Int×(List UInt8)×(List (List UInt8))×(List TWrite)) ⊕ ((TDisk×Bool) ⊕ ((List (List UInt8))×(List TWrite)))) :=
 (if (!(s6.2.1==[])) then (R8 ({ Sectors:=s6.2.2.1,Cache:=s6.2.2.2 }:TDisk) (w64 (x1+(w64 (Int.tdiv s6.1 32))))).bind fun v8=>((if !v8.2 then some true else (if ((v8.1.length:Int) != 32) then some true else some false)):Option Bool).bind (fun y9=>(if y9 then some (.inr (.inl (({ Sectors:=v1.Sectors,Cache:=v1.Cache }:TDisk),false))) else (sub? v8.1 0 (Int.tmod s6.1 32)).bind fun v10=>(sub? s6.2.1 0 (if w64 (32 - (Int.tmod s6.1 32))<(s6.2.1.length:Int) then w64 (32 - (Int.tmod s6.1 32)) else (s6.2.1.length:Int))).bind fun v11=>(cat? v10 v11).bind fun v12=>(sub? v8.1 (w64 ((Int.tmod s6.1 32)+(if w64 (32 - (Int.tmod s6.1 32))<(s6.2.1.length:Int) then w64 (32 - (Int.tmod s6.1 32)) else (s6.2.1.length:Int)))) (v8.1.length:Int)).bind fun v13=>(cat? v12 v13).bind fun v14=>(W0 ({ Sectors:=s6.2.2.1,Cache:=s6.2.2.2 }:TDisk) (w64 (x1+(w64 (Int.tdiv s6.1 32)))) v14).bind fun v15=>(if !v15.2 then some (.inr (.inl (({ Sectors:=v1.Sectors,Cache:=v1.Cache }:TDisk),false))) else (sub? s6.2.1 (if w64 (32 - (Int.tmod s6.1 32))<(s6.2.1.length:Int) then w64 (32 - (Int.tmod s6.1 32)) else (s6.2.1.length:Int)) (s6.2.1.length:Int)).bind fun v16=>some (.inl (w64 (s6.1+(if w64 (32 - (Int.tmod s6.1 32))<(s6.2.1.length:Int) then w64 (32 - (Int.tmod s6.1 32)) else (s6.2.1.length:Int))),v16,v15.1.Sectors,v15.1.Cache))))) else some (.inr (.inr (s6.2.2.1,s6.2.2.2))))
noncomputable def Y2 (x0:TDisk) (x1:Int) (x2:Int) (x3:List UInt8):Option (TDisk×Bool) :=
 (F5 x0).bind fun v1=>((D3 x2 0 3200).bind fun v3=>(if v3 then (D3 x1 0 (w64 ((x0.Sectors.length:Int) - 1))).bind fun v4=>(if v4 then some false else some true) else some true):Option Bool).bind (fun y2=>(if y2 then some (({ Sectors:=v1.Sectors,Cache:=v1.Cache }:TDisk),false) else (F5 x0).bind fun v5=>(iter (L8 x1 v1) (x2,x3,v5.Sectors,v5.Cache)).bind (Sum.elim (fun r=>some r) (fun y7=>some (({ Sectors:=y7.1,Cache:=y7.2 }:TDisk),true)))))
noncomputable def Fp (x0:Int):Option Int :=
 some (w64 (4*(Int.tmod x0 2)))
noncomputable def Ax (x0:TDisk) (s3:Int×(List (List UInt8))):Option ((Int×(List (List UInt8))) ⊕ (List (List UInt8))) :=
 (if decide (s3.1<(x0.Cache.length:Int)) then (at? x0.Cache s3.1).bind fun v5=>(at? s3.2 v5.At).bind fun _=>(some (set' s3.2 v5.At v5.Text)).bind fun v7=>some (.inl (w64 (s3.1+1),v7)) else some (.inr s3.2))
noncomputable def Ae (x0:TDisk):Option TDisk :=
 (F5 x0).bind fun v1=>(P0 x0).bind fun v2=>(if v2 then (iter (Ax x0) (0,v1.Sectors)).bind (fun y8=>some ({ Sectors:=y8,Cache:=[] }:TDisk)) else some ({ Sectors:=v1.Sectors,Cache:=v1.Cache }:TDisk))
noncomputable def Y1 (x0:TDisk) (x1:TCheck):Option (TDisk×Bool) :=
 (V2 x1).bind fun v1=>(P0 x0).bind fun v2=>(if v2 then (if !v1.2 then (F5 x0).bind fun v8=>some (({ Sectors:=v8.Sectors,Cache:=v8.Cache }:TDisk),false) else (Fp x1.Stamp).bind fun v4=>(Y2 x0 v4 0 v1.1).bind fun v5=>(if !v5.2 then (F5 x0).bind fun v7=>some (({ Sectors:=v7.Sectors,Cache:=v7.Cache }:TDisk),false) else (Ae v5.1).bind fun v6=>some (({ Sectors:=v6.Sectors,Cache:=v6.Cache }:TDisk),true))) else (F5 x0).bind fun v3=>some (({ Sectors:=v3.Sectors,Cache:=v3.Cache }:TDisk),false))
noncomputable def Dc (x0:TLog) (s1:Int×(List TRef)):Option ((Int×(List TRef)) ⊕ (List TRef)) :=
 (if decide (s1.1<(x0.Used.length:Int)) then (at? x0.Used s1.1).bind fun v3=>(at? x0.Used s1.1).bind fun v4=>(app? 16 s1.2 [({ No:=v3.No,Gen:=v4.Gen }:TRef)]).bind fun v5=>some (.inl (w64 (s1.1+1),v5)) else some (.inr s1.2))
noncomputable def W1 (x0:TLog):Option TCheck :=
 (iter (Dc x0) (0,([]:List TRef))).bind (fun y6=>some ({ Stamp:=w64 (x0.Stamp+1),NextGen:=x0.NextGen,NextSeq:=x0.NextSeq,NextValid:=x0.NextValid,Refs:=y6 }:TCheck))
noncomputable def Q4 (x0:List TItem) (x1:List TItem) (s1:Int):Option (Int ⊕ (Bool ⊕ Unit)) :=
 (if decide (s1<(x0.length:Int)) then (at? x0 s1).bind fun v3=>(at? x1 s1).bind fun v4=>(if !(v3.Seq==v4.Seq&&(v3.Rec.Kind==v4.Rec.Kind&&(v3.Rec.Valid==v4.Rec.Valid&&(v3.Rec.Uid==v4.Rec.Uid&&(v3.Rec.Next==v4.Rec.Next&&(v3.Rec.Flags==v4.Rec.Flags&&(v3.Rec.User==v4.Rec.User&&(v3.Rec.Name==v4.Rec.Name&&(v3.Rec.Text==v4.Rec.Text&&true))))))))) then some (.inr (.inl false)) else some (.inl (w64 (s1+1)))) else some (.inr (.inr ())))
noncomputable def T8 (x0:List TItem) (x1:List TItem):Option Bool :=
 (if ((x0.length:Int) != (x1.length:Int)) then some false else (iter (Q4 x0 x1) 0).bind (Sum.elim (fun r=>some r) (fun _=>some true)))
noncomputable def Cj (x0:TSeg) (x1:TSeg):Option Bool :=
 ((if (x0.No==x1.No) then (if (x0.Gen==x1.Gen) then (if (x0.End==x1.End) then (T8 x0.Items x1.Items).bind fun v2=>some v2 else some false) else some false) else some false):Option Bool).bind (fun y1=>some y1)
noncomputable def H6 (x0:List TSeg) (x1:List TSeg) (s1:Int):Option (Int ⊕ (Bool ⊕ Unit)) :=
 (if decide (s1<(x0.length:Int)) then (at? x0 s1).bind fun v3=>(at? x1 s1).bind fun v4=>(Cj v3 v4).bind fun v5=>(if v5 then some (.inl (w64 (s1+1))) else some (.inr (.inl false))) else some (.inr (.inr ())))
noncomputable def J8 (x0:List TSeg) (x1:List TSeg):Option Bool :=
 (if ((x0.length:Int) != (x1.length:Int)) then some false else (iter (H6 x0 x1) 0).bind (Sum.elim (fun r=>some r) (fun _=>some true)))
noncomputable def V8 (x0:TLog) (x1:TLog):Option Bool :=
 ((J8 x0.Used x1.Used).bind fun v2=>(if v2 then (if (x0.NextGen==x1.NextGen) then (if (x0.NextSeq==x1.NextSeq) then some (x0.NextValid==x1.NextValid) else some false) else some false) else some false):Option Bool).bind (fun y1=>some y1)
noncomputable def Ee (x0:List Int):Option Bool :=
 some (decide ((x0.length:Int)>1048576))
noncomputable def Z5 (x0:Int) (x1:Int) (s2:Int×(List Int)):Option ((Int×(List Int)) ⊕ (List Int)) :=
 (if decide (s2.1<x0) then (at? s2.2 s2.1).bind fun _=>(some (set' s2.2 s2.1 x1)).bind fun v5=>some (.inl (w64 (s2.1+1),v5)) else some (.inr s2.2))
noncomputable def Es (x0:Int) (x1:Int):Option (List UInt8) :=
 (mk? 1 (0:Int) x0).bind fun v1=>(iter (Z5 x0 x1) (0,v1)).bind (fun y6=>some (y6.map ofI))
noncomputable def Bv:Option (List UInt8) :=
 (Es 32 0).bind fun v1=>some v1
noncomputable def B8 (x0:Int) (x1:Int) (x2:Int):Option Bool :=
 (if decide (x0≥x1) then some (decide (x0≤x2)) else some false)
noncomputable def Cx (x0:Int) (s2:Int×(List (List UInt8))):Option ((Int×(List (List UInt8))) ⊕ (List (List UInt8))) :=
 (if decide (s2.1<x0) then (Bv).bind fun v4=>(app? 16 s2.2 [v4]).bind fun v5=>some (.inl (w64 (s2.1+1),v5)) else some (.inr s2.2))
noncomputable def Cn (x0:Int):Option (TDisk×Bool) :=
 (B8 x0 1 100).bind fun v1=>(if v1 then (iter (Cx x0) (0,([]:List (List UInt8)))).bind (fun y6=>some (({ Sectors:=y6,Cache:=[] }:TDisk),true)) else some (({ Sectors:=[],Cache:=[] }:TDisk),false))
noncomputable def E2 (x0:TDisk):Option TDisk :=
 (app? 16 ([]:List (List UInt8)) x0.Sectors).bind fun v1=>(app? 24 ([]:List TWrite) x0.Cache).bind fun v2=>some ({ Sectors:=v1,Cache:=v2 }:TDisk)
noncomputable def Bb (x0:TDisk) (s7:Int):Option (Int ⊕ (Bool ⊕ Unit)) :=
 (if decide (s7<(x0.Cache.length:Int)) then ((at? x0.Cache s7).bind fun v10=>(B8 v10.At 0 (w64 ((x0.Sectors.length:Int) - 1))).bind fun v11=>(if v11 then (at? x0.Cache s7).bind fun v12=>(if ((v12.Text.length:Int) != 32) then some true else some false) else some true):Option Bool).bind (fun y9=>(if y9 then some (.inr (.inl false)) else some (.inl (w64 (s7+1))))) else some (.inr (.inr ())))
noncomputable def Be (x0:TDisk) (s3:Int):Option (Int ⊕ (Bool ⊕ Unit)) :=
 (if decide (s3<(x0.Sectors.length:Int)) then (at? x0.Sectors s3).bind fun v5=>(if ((v5.length:Int) != 32) then some (.inr (.inl false)) else some (.inl (w64 (s3+1)))) else some (.inr (.inr ())))
noncomputable def U3 (x0:TDisk):Option Bool :=
 ((B8 (x0.Sectors.length:Int) 1 100).bind fun v2=>(if v2 then (if decide ((x0.Cache.length:Int)>60) then some true else some false) else some true):Option Bool).bind (fun y1=>(if y1 then some false else (iter (Be x0) 0).bind (Sum.elim (fun r=>some r) (fun _=>(iter (Bb x0) 0).bind (Sum.elim (fun r=>some r) (fun _=>some true))))))
noncomputable def L2 (x0:TDisk) (x1:Int) (x2:List UInt8):Option (TDisk×Bool) :=
 (E2 x0).bind fun v1=>((U3 x0).bind fun v3=>(if v3 then (B8 x1 0 (w64 ((x0.Sectors.length:Int) - 1))).bind fun v4=>(if v4 then (if ((x2.length:Int) != 32) then some true else (if decide ((x0.Cache.length:Int)≥60) then some true else some false)) else some true) else some true):Option Bool).bind (fun y2=>(if y2 then some (({ Sectors:=v1.Sectors,Cache:=v1.Cache }:TDisk),false) else (app? 24 v1.Cache [({ At:=x1,Text:=x2 }:TWrite)]).bind fun v5=>some (({ Sectors:=v1.Sectors,Cache:=v5 }:TDisk),true)))
noncomputable def P4 (x0:TDisk) (x1:Int) (s2:Int):Option (Int ⊕ (((List UInt8)×Bool) ⊕ Unit)) :=
 (if decide (s2≥0) then (at? x0.Cache s2).bind fun v4=>(if (v4.At==x1) then (at? x0.Cache s2).bind fun v5=>some (.inr (.inl (v5.Text,true))) else some (.inl (w64 (s2 - 1)))) else some (.inr (.inr ())))
noncomputable def K9 (x0:TDisk) (x1:Int):Option ((List UInt8)×Bool) :=
 (B8 x1 0 (w64 ((x0.Sectors.length:Int) - 1))).bind fun v1=>(if v1 then (iter (P4 x0 x1) (w64 ((x0.Cache.length:Int) - 1))).bind (Sum.elim (fun r=>some r) (fun _=>(at? x0.Sectors x1).bind fun v7=>some (v7,true))) else some ([],false))
noncomputable def D5 (x0:TDisk) (x1:Int) (x2:Int) (x3:List UInt8) (s6:Int×(List (List UInt8))×(List TWrite)):Option ((Int×(List (List UInt8))×(List TWrite)) ⊕ ((TDisk×Bool) ⊕ ((List (List UInt8))×(List TWrite)))) :=
 (if decide (s6.1<(x3.length:Int)) then (if decide ((w64 (32 - (Int.tmod (w64 (x2+s6.1)) 32)))>(w64 ((x3.length:Int) - s6.1))) then (K9 ({ Sectors:=s6.2.1,Cache:=s6.2.2 }:TDisk) (w64 (x1+(w64 (Int.tdiv (w64 (x2+s6.1)) 32))))).bind fun v18=>((if !v18.2 then some true else (if ((v18.1.length:Int) != 32) then some true else some false)):Option Bool).bind (fun y19=>(if y19 then (E2 x0).bind fun v27=>some (.inr (.inl (({ Sectors:=v27.Sectors,Cache:=v27.Cache }:TDisk),false))) else (sub? v18.1 0 (Int.tmod (w64 (x2+s6.1)) 32)).bind fun v20=>(sub? x3 s6.1 (w64 (s6.1+(w64 ((x3.length:Int) - s6.1))))).bind fun v21=>(cat? v20 v21).bind fun v22=>(sub? v18.1 (w64 ((Int.tmod (w64 (x2+s6.1)) 32)+(w64 ((x3.length:Int) - s6.1)))) (v18.1.length:Int)).bind fun v23=>(cat? v22 v23).bind fun v24=>(L2 ({ Sectors:=s6.2.1,Cache:=s6.2.2 }:TDisk) (w64 (x1+(w64 (Int.tdiv (w64 (x2+s6.1)) 32)))) v24).bind fun v25=>(if !v25.2 then (E2 x0).bind fun v26=>some (.inr (.inl (({ Sectors:=v26.Sectors,Cache:=v26.Cache }:TDisk),false))) else some (.inl (w64 (s6.1+(w64 ((x3.length:Int) - s6.1))),v25.1.Sectors,v25.1.Cache))))) else (K9 ({ Sectors:=s6.2.1,Cache:=s6.2.2 }:TDisk) (w64 (x1+(w64 (Int.tdiv (w64 (x2+s6.1)) 32))))).bind fun v8=>((if !v8.2 then some true else (if ((v8.1.length:Int) != 32) then some true else some false)):Option Bool).bind (fun y9=>(if y9 then (E2 x0).bind fun v17=>some (.inr (.inl (({ Sectors:=v17.Sectors,Cache:=v17.Cache }:TDisk),false))) else (sub? v8.1 0 (Int.tmod (w64 (x2+s6.1)) 32)).bind fun v10=>(sub? x3 s6.1 (w64 (s6.1+(w64 (32 - (Int.tmod (w64 (x2+s6.1)) 32)))))).bind fun v11=>(cat? v10 v11).bind fun v12=>(sub? v8.1 (w64 ((Int.tmod (w64 (x2+s6.1)) 32)+(w64 (32 - (Int.tmod (w64 (x2+s6.1)) 32))))) (v8.1.length:Int)).bind fun v13=>(cat? v12 v13).bind fun v14=>(L2 ({ Sectors:=s6.2.1,Cache:=s6.2.2 }:TDisk) (w64 (x1+(w64 (Int.tdiv (w64 (x2+s6.1)) 32)))) v14).bind fun v15=>(if !v15.2 then (E2 x0).bind fun v16=>some (.inr (.inl (({ Sectors:=v16.Sectors,Cache:=v16.Cache }:TDisk),false))) else some (.inl (w64 (s6.1+(w64 (32 - (Int.tmod (w64 (x2+s6.1)) 32)))),v15.1.Sectors,v15.1.Cache)))))) else some (.inr (.inr (s6.2.1,s6.2.2))))
noncomputable def J9 (x0:TDisk) (x1:Int) (x2:Int) (x3:List UInt8):Option (TDisk×Bool) :=
 (E2 x0).bind fun v1=>((B8 x2 0 3200).bind fun v3=>(if v3 then (B8 x1 0 (w64 ((x0.Sectors.length:Int) - 1))).bind fun v4=>(if v4 then (U3 x0).bind fun v5=>(if v5 then some false else some true) else some true) else some true):Option Bool).bind (fun y2=>(if y2 then some (({ Sectors:=v1.Sectors,Cache:=v1.Cache }:TDisk),false) else (iter (D5 x0 x1 x2 x3) (0,v1.Sectors,v1.Cache)).bind (Sum.elim (fun r=>some r) (fun y7=>some (({ Sectors:=y7.1,Cache:=y7.2 }:TDisk),true)))))
noncomputable def Az (x0:TDisk) (s3:Int×(List (List UInt8))):Option ((Int×(List (List UInt8))) ⊕ (List (List UInt8))) :=
 (if decide (s3.1<(x0.Cache.length:Int)) then (at? x0.Cache s3.1).bind fun v5=>(at? x0.Cache s3.1).bind fun v6=>(at? s3.2 v5.At).bind fun _=>(some (set' s3.2 v5.At v6.Text)).bind fun v8=>some (.inl (w64 (s3.1+1),v8)) else some (.inr s3.2))
noncomputable def G9 (x0:TDisk):Option TDisk :=
 (E2 x0).bind fun v1=>(U3 x0).bind fun v2=>(if v2 then (iter (Az x0) (0,v1.Sectors)).bind (fun y9=>some ({ Sectors:=y9,Cache:=[] }:TDisk)) else some ({ Sectors:=v1.Sectors,Cache:=v1.Cache }:TDisk))
noncomputable def Ah (x0:TCheck) (s7:Int) (v9:TRef) (s14:Int):Option (Int ⊕ (Bool ⊕ Unit)) :=
 (if decide (s14<s7) then (at? x0.Refs s14).bind fun v16=>(if (v16.No==v9.No) then some (.inr (.inl false)) else some (.inl (w64 (s14+1)))) else some (.inr (.inr ())))
noncomputable def Z6 (x0:TCheck) (s7:Int):Option (Int ⊕ (Bool ⊕ Unit)) :=
 (if decide (s7<(x0.Refs.length:Int)) then (at? x0.Refs s7).bind fun v9=>((B8 v9.No 0 10).bind fun v11=>(if v11 then (B8 v9.Gen 1 (w64 (x0.NextGen - 1))).bind fun v12=>(if v12 then (if decide (s7>0) then (at? x0.Refs (w64 (s7 - 1))).bind fun v13=>(if decide (v13.Gen≥v9.Gen) then some true else some false) else some false) else some true) else some true):Option Bool).bind (fun y10=>(if y10 then some (.inr (.inl false)) else (iter (Ah x0 s7 v9) 0).bind (Sum.elim (fun r=>some (.inr (.inl r))) (fun _=>some (.inl (w64 (s7+1))))))) else some (.inr (.inr ())))
noncomputable def Cg (x0:TCheck):Option Bool :=
 ((B8 x0.Stamp 1 1000000000).bind fun v2=>(if v2 then (B8 x0.NextGen 1 1000000000).bind fun v3=>(if v3 then (B8 x0.NextSeq 1 1000000000).bind fun v4=>(if v4 then (B8 x0.NextValid 1 1000000000).bind fun v5=>(if v5 then (B8 (x0.Refs.length:Int) 1 11).bind fun v6=>(if v6 then some false else some true) else some true) else some true) else some true) else some true):Option Bool).bind (fun y1=>(if y1 then some false else (iter (Z6 x0) 0).bind (Sum.elim (fun r=>some r) (fun _=>some true))))
noncomputable def X3 (s1:Int×(List Int)):Option ((Int×(List Int)) ⊕ (Int×(List Int))) :=
 (if decide (s1.1>127) then (app? 1 s1.2 [IntKind.u8.wrap (w64 ((Int.tmod s1.1 128)+128))]).bind fun v3=>some (.inl (w64 (Int.tdiv s1.1 128),v3)) else some (.inr (s1.1,s1.2)))
noncomputable def D8 (x0:Int):Option (List UInt8) :=
 (iter (X3) (x0,([]:List Int))).bind (fun y4=>(app? 1 y4.2 [IntKind.u8.wrap y4.1]).bind fun v5=>some (v5.map ofI))
noncomputable def Bw (x0:Int):Option (List UInt8) :=
 some ([IntKind.u8.wrap (shrv .u32 x0 24),IntKind.u8.wrap (shrv .u32 x0 16),IntKind.u8.wrap (shrv .u32 x0 8),IntKind.u8.wrap x0].map ofI)
noncomputable def Al (s4:Int×Int):Option ((Int×Int) ⊕ Int) :=
 (if decide (s4.2<8) then (if ((Int.tmod s4.1 2)==1) then some (.inl (xorv .u32 (IntKind.u32.wrap (Int.tdiv s4.1 2)) 3558460437,w64 (s4.2+1))) else some (.inl (IntKind.u32.wrap (Int.tdiv s4.1 2),w64 (s4.2+1)))) else some (.inr s4.1))
noncomputable def Ak (x1:List UInt8) (s1:Int×Int):Option ((Int×Int) ⊕ Int) :=
 (if decide (s1.2<(x1.length:Int)) then (bt? x1 s1.2).bind fun v3=>(iter (Al) (xorv .u32 s1.1 (IntKind.u32.wrap (v3.toNat:Int)),0)).bind (fun y6=>some (.inl (y6,w64 (s1.2+1)))) else some (.inr s1.1))
noncomputable def Ck (x0:Int) (x1:List UInt8):Option Int :=
 (iter (Ak x1) (x0,0)).bind (fun y7=>some y7)
noncomputable def Cz (x0:List UInt8):Option Int :=
 (Ck 4294967295 x0).bind fun v1=>some v1
noncomputable def Bk (x0:List UInt8):Option ((List UInt8)×Bool) :=
 (if decide ((x0.length:Int)>20000) then some ([],false) else (Cz x0).bind fun v1=>(Bw v1).bind fun v2=>(cat? x0 v2).bind fun v3=>some (v3,true))
noncomputable def Q0 (x0:List UInt8):Option (List UInt8) :=
 (D8 (x0.length:Int)).bind fun v1=>(cat? v1 x0).bind fun v2=>some v2
noncomputable def V6 (x0:TCheck) (s11:(List UInt8)×Int):Option (((List UInt8)×Int) ⊕ (List UInt8)) :=
 (if decide (s11.2<(x0.Refs.length:Int)) then (at? x0.Refs s11.2).bind fun v13=>(D8 v13.No).bind fun v14=>(cat? s11.1 v14).bind fun v15=>(at? x0.Refs s11.2).bind fun v16=>(D8 v16.Gen).bind fun v17=>(cat? v15 v17).bind fun v18=>some (.inl (v18,w64 (s11.2+1))) else some (.inr s11.1))
noncomputable def V1 (x0:TCheck):Option ((List UInt8)×Bool) :=
 (Cg x0).bind fun v1=>(if v1 then (D8 x0.Stamp).bind fun v2=>(D8 x0.NextGen).bind fun v3=>(cat? v2 v3).bind fun v4=>(D8 x0.NextSeq).bind fun v5=>(cat? v4 v5).bind fun v6=>(D8 x0.NextValid).bind fun v7=>(cat? v6 v7).bind fun v8=>(D8 (x0.Refs.length:Int)).bind fun v9=>(cat? v8 v9).bind fun v10=>(iter (V6 x0) (v10,0)).bind (fun y19=>(Bk y19).bind fun v20=>(Q0 v20.1).bind fun v21=>((if !v20.2 then some true else (if decide ((v21.length:Int)>128) then some true else some false)):Option Bool).bind (fun y22=>(if y22 then some ([],false) else some (v21,true)))) else some ([],false))
noncomputable def R6 (x0:TDisk) (x1:TCheck):Option (TDisk×Bool) :=
 (V1 x1).bind fun v1=>((if !v1.2 then some true else (U3 x0).bind fun v3=>(if v3 then some false else some true)):Option Bool).bind (fun y2=>(if y2 then (E2 x0).bind fun v7=>some (({ Sectors:=v7.Sectors,Cache:=v7.Cache }:TDisk),false) else (J9 x0 (w64 (4*(Int.tmod x1.Stamp 2))) 0 v1.1).bind fun v4=>(if !v4.2 then (E2 x0).bind fun v6=>some (({ Sectors:=v6.Sectors,Cache:=v6.Cache }:TDisk),false) else (G9 v4.1).bind fun v5=>some (({ Sectors:=v5.Sectors,Cache:=v5.Cache }:TDisk),true))))
noncomputable def Z9 (x0:TFrame):Option Bool :=
 ((B8 x0.Gen 1 1000000000).bind fun v2=>(if v2 then (B8 x0.Seq 1 1000000000).bind fun v3=>(if v3 then (B8 (x0.Body.length:Int) 1 180).bind fun v4=>some v4 else some false) else some false):Option Bool).bind (fun y1=>some y1)
noncomputable def J7 (x0:TFrame):Option ((List UInt8)×Bool) :=
 (Z9 x0).bind fun v1=>(if v1 then (D8 x0.Gen).bind fun v2=>(D8 x0.Seq).bind fun v3=>(cat? v2 v3).bind fun v4=>(D8 (x0.Body.length:Int)).bind fun v5=>(cat? v4 v5).bind fun v6=>(cat? v6 x0.Body).bind fun v7=>(Bk v7).bind fun v8=>some (v8.1,v8.2) else some ([],false))
noncomputable def T3 (x0:Int):Option Int :=
 (B8 x0 0 10).bind fun v1=>(if v1 then some (w64 (8+(w64 (x0*8)))) else some 0)
noncomputable def F8 (x0:TDisk) (x1:Int) (x2:Int) (x3:List UInt8):Option (TDisk×Bool) :=
 ((B8 x1 0 10).bind fun v2=>(if v2 then (B8 x2 0 256).bind fun v3=>(if v3 then (if decide ((x3.length:Int)>(w64 (256 - x2))) then some true else some false) else some true) else some true):Option Bool).bind (fun y1=>(if y1 then (E2 x0).bind fun v6=>some (({ Sectors:=v6.Sectors,Cache:=v6.Cache }:TDisk),false) else (T3 x1).bind fun v4=>(J9 x0 v4 x2 x3).bind fun v5=>some (({ Sectors:=v5.1.Sectors,Cache:=v5.1.Cache }:TDisk),v5.2)))
noncomputable def R9 (x0:TLog) (s1:Int×(List Int)) (s4:Bool×Int):Option ((Bool×Int) ⊕ Bool) :=
 (if decide (s4.2<(x0.Used.length:Int)) then (if s4.1 then some (.inl (true,w64 (s4.2+1))) else (at? x0.Used s4.2).bind fun v6=>(if (v6.No==s1.1) then some (.inl (true,w64 (s4.2+1))) else some (.inl (false,w64 (s4.2+1))))) else some (.inr s4.1))
noncomputable def Br (x0:TLog) (s1:Int×(List Int)):Option ((Int×(List Int)) ⊕ (List Int)) :=
 ((if decide (s1.1<x0.Segs) then (if decide (s1.1<11) then some true else some false) else some false):Option Bool).bind (fun y3=>(if y3 then (iter (R9 x0 s1) (false,0)).bind (fun y7=>(if !y7 then (app? 8 s1.2 [s1.1]).bind fun v8=>some (.inl (w64 (s1.1+1),v8)) else some (.inl (w64 (s1.1+1),s1.2)))) else some (.inr s1.2)))
noncomputable def P8 (x0:TLog):Option (List Int) :=
 (iter (Br x0) (0,([]:List Int))).bind (fun y9=>some y9)
noncomputable def T0 (x0:TLog) (x1:Int):Option (Bool×TLog) :=
 (P8 ({ Disk:=({ Sectors:=x0.Disk.Sectors,Cache:=x0.Disk.Cache }:TDisk),Segs:=x0.Segs,Used:=[],NextGen:=x0.NextGen,NextSeq:=x0.NextSeq,Stamp:=x0.Stamp,NextValid:=x0.NextValid }:TLog)).bind fun v1=>((if decide (x1<0) then some true else (if decide ((v1.length:Int)≤x1) then some true else some false)):Option Bool).bind (fun y2=>(if y2 then some (false,({ Disk:=({ Sectors:=x0.Disk.Sectors,Cache:=x0.Disk.Cache }:TDisk),Segs:=x0.Segs,Used:=([]:List TSeg),NextGen:=x0.NextGen,NextSeq:=x0.NextSeq,Stamp:=x0.Stamp,NextValid:=x0.NextValid }:TLog)) else (J7 ({ Gen:=x0.NextGen,Seq:=1,Body:=[115,101,103] }:TFrame)).bind fun v3=>(at? v1 0).bind fun v4=>(F8 ({ Sectors:=x0.Disk.Sectors,Cache:=x0.Disk.Cache }:TDisk) v4 0 v3.1).bind fun v5=>((if !v3.2 then some true else (if !v5.2 then some true else (if decide (x0.NextGen≥1000000000) then some true else some false))):Option Bool).bind (fun y6=>(if y6 then some (false,({ Disk:=({ Sectors:=x0.Disk.Sectors,Cache:=x0.Disk.Cache }:TDisk),Segs:=x0.Segs,Used:=([]:List TSeg),NextGen:=x0.NextGen,NextSeq:=x0.NextSeq,Stamp:=x0.Stamp,NextValid:=x0.NextValid }:TLog)) else (G9 v5.1).bind fun v7=>(at? v1 0).bind fun v8=>(app? 48 ([]:List TSeg) [({ No:=v8,Gen:=x0.NextGen,End:=(v3.1.length:Int),Items:=[] }:TSeg)]).bind fun v9=>some (true,({ Disk:=({ Sectors:=v7.Sectors,Cache:=v7.Cache }:TDisk),Segs:=x0.Segs,Used:=v9,NextGen:=w64 (x0.NextGen+1),NextSeq:=x0.NextSeq,Stamp:=x0.Stamp,NextValid:=x0.NextValid }:TLog))))))
noncomputable def Y5 (x0:Int):Option (TLog×Bool) :=
 (B8 x0 5 11).bind fun v1=>(if v1 then (Cn (w64 (8+(w64 (x0*8))))).bind fun v2=>(T0 ({ Disk:=({ Sectors:=v2.1.Sectors,Cache:=v2.1.Cache }:TDisk),Segs:=x0,Used:=[],NextGen:=1,NextSeq:=1,Stamp:=0,NextValid:=1 }:TLog) 0).bind fun v3=>(if v3.1 then (W1 ({ Disk:=({ Sectors:=v3.2.Disk.Sectors,Cache:=v3.2.Disk.Cache }:TDisk),Segs:=v3.2.Segs,Used:=v3.2.Used,NextGen:=v3.2.NextGen,NextSeq:=v3.2.NextSeq,Stamp:=v3.2.Stamp,NextValid:=v3.2.NextValid }:TLog)).bind fun v4=>(R6 ({ Sectors:=v3.2.Disk.Sectors,Cache:=v3.2.Disk.Cache }:TDisk) v4).bind fun v5=>(if !v5.2 then some (({ Disk:=({ Sectors:=[],Cache:=[] }:TDisk),Segs:=0,Used:=[],NextGen:=0,NextSeq:=0,Stamp:=0,NextValid:=0 }:TLog),false) else some (({ Disk:=({ Sectors:=v5.1.Sectors,Cache:=v5.1.Cache }:TDisk),Segs:=v3.2.Segs,Used:=v3.2.Used,NextGen:=v3.2.NextGen,NextSeq:=v3.2.NextSeq,Stamp:=1,NextValid:=v3.2.NextValid }:TLog),true)) else some (({ Disk:=({ Sectors:=[],Cache:=[] }:TDisk),Segs:=0,Used:=[],NextGen:=0,NextSeq:=0,Stamp:=0,NextValid:=0 }:TLog),false)) else some (({ Disk:=({ Sectors:=[],Cache:=[] }:TDisk),Segs:=0,Used:=[],NextGen:=0,NextSeq:=0,Stamp:=0,NextValid:=0 }:TLog),false))
noncomputable def L6 (x0:TL01Cur):Option (Int×TL01Cur) :=
 (if decide (x0.mI<(x0.mB.length:Int)) then (at? x0.mB x0.mI).bind fun v1=>some (andv .i64 (w64 ((andv .i64 (xorv .i64 (shrv .i64 (w64 ((w64 (x0.mH*6364136223846793005))+1442695040888963407)) 33) (shrv .i64 (w64 ((w64 (x0.mH*6364136223846793005))+1442695040888963407)) 45)) 255)+(w64 v1))) 255,({ mB:=x0.mB,mI:=w64 (x0.mI+1),mH:=w64 ((w64 (x0.mH*6364136223846793005))+1442695040888963407) }:TL01Cur)) else some (andv .i64 (xorv .i64 (shrv .i64 (w64 ((w64 (x0.mH*6364136223846793005))+1442695040888963407)) 33) (shrv .i64 (w64 ((w64 (x0.mH*6364136223846793005))+1442695040888963407)) 45)) 255,({ mB:=x0.mB,mI:=x0.mI,mH:=w64 ((w64 (x0.mH*6364136223846793005))+1442695040888963407) }:TL01Cur)))
noncomputable def D4 (x0:TL01Cur) (x1:Int):Option (Int×TL01Cur) :=
 (if decide (x1≤0) then some (0,({ mB:=x0.mB,mI:=x0.mI,mH:=x0.mH }:TL01Cur)) else (if decide (x1≤256) then (L6 ({ mB:=x0.mB,mI:=x0.mI,mH:=x0.mH }:TL01Cur)).bind fun v6=>(rem? v6.1 x1).bind fun v7=>some (v7,({ mB:=x0.mB,mI:=v6.2.mI,mH:=v6.2.mH }:TL01Cur)) else (L6 ({ mB:=x0.mB,mI:=x0.mI,mH:=x0.mH }:TL01Cur)).bind fun v1=>(L6 ({ mB:=x0.mB,mI:=v1.2.mI,mH:=v1.2.mH }:TL01Cur)).bind fun v2=>(L6 ({ mB:=x0.mB,mI:=v2.2.mI,mH:=v2.2.mH }:TL01Cur)).bind fun v3=>(L6 ({ mB:=x0.mB,mI:=v3.2.mI,mH:=v3.2.mH }:TL01Cur)).bind fun v4=>(rem? (w64 ((w64 ((w64 ((w64 (v1.1*16777216))+(w64 (v2.1*65536))))+(w64 (v3.1*256))))+v4.1)) x1).bind fun v5=>some (v5,({ mB:=x0.mB,mI:=v4.2.mI,mH:=v4.2.mH }:TL01Cur))))
noncomputable def Q8 (x0:TL01Cur) (x1:List (List UInt8)):Option ((List UInt8)×TL01Cur) :=
 (D4 ({ mB:=x0.mB,mI:=x0.mI,mH:=x0.mH }:TL01Cur) (x1.length:Int)).bind fun v1=>(at? x1 v1.1).bind fun v2=>some (v2,({ mB:=x0.mB,mI:=v1.2.mI,mH:=v1.2.mH }:TL01Cur))
noncomputable def Z3 (x0:TL01Cur):Option ((List UInt8)×TL01Cur) :=
 (Q8 ({ mB:=x0.mB,mI:=x0.mI,mH:=x0.mH }:TL01Cur) [[104,101,108,108,111],[102,114,111,109,58,32,97,110,110,10,10,104,105],[115,117,98,106,101,99,116,58,32,120,10,10,98,111,100,121,32,111,102,32,105,116,10,46,100,111,116,10],[],[120,10,46,46,10]]).bind fun v1=>some (v1.1,({ mB:=x0.mB,mI:=v1.2.mI,mH:=v1.2.mH }:TL01Cur))
noncomputable def U0 (x0:TL01Cur) (x1:List Int):Option (Int×TL01Cur) :=
 (D4 ({ mB:=x0.mB,mI:=x0.mI,mH:=x0.mH }:TL01Cur) (x1.length:Int)).bind fun v1=>(at? x1 v1.1).bind fun v2=>some (v2,({ mB:=x0.mB,mI:=v1.2.mI,mH:=v1.2.mH }:TL01Cur))
noncomputable def Bg (x0:TL01Cur):Option (TRec×TL01Cur) :=
 (U0 ({ mB:=x0.mB,mI:=x0.mI,mH:=x0.mH }:TL01Cur) ([1,1,2,3,3,3,3,4,4,5,5]:List Int)).bind fun v1=>(D4 ({ mB:=x0.mB,mI:=v1.2.mI,mH:=v1.2.mH }:TL01Cur) 3).bind fun v2=>(if (v1.1==1) then (Q8 ({ mB:=x0.mB,mI:=v2.2.mI,mH:=v2.2.mH }:TL01Cur) [[97,110,110],[98,111,98]]).bind fun v9=>(Q8 ({ mB:=x0.mB,mI:=v9.2.mI,mH:=v9.2.mH }:TL01Cur) [[105,110,98,111,120],[119,111,114,107]]).bind fun v10=>(D4 ({ mB:=x0.mB,mI:=v10.2.mI,mH:=v10.2.mH }:TL01Cur) 6).bind fun v11=>some (({ Kind:=v1.1,Valid:=w64 (1+v2.1),Uid:=0,Next:=w64 (1+v11.1),Flags:=0,User:=v9.1,Name:=v10.1,Text:=[] }:TRec),({ mB:=x0.mB,mI:=v11.2.mI,mH:=v11.2.mH }:TL01Cur)) else (if (v1.1==3) then (D4 ({ mB:=x0.mB,mI:=v2.2.mI,mH:=v2.2.mH }:TL01Cur) 5).bind fun v6=>(D4 ({ mB:=x0.mB,mI:=v6.2.mI,mH:=v6.2.mH }:TL01Cur) 8).bind fun v7=>(Z3 ({ mB:=x0.mB,mI:=v7.2.mI,mH:=v7.2.mH }:TL01Cur)).bind fun v8=>some (({ Kind:=v1.1,Valid:=w64 (1+v2.1),Uid:=w64 (1+v6.1),Next:=0,Flags:=v7.1,User:=[],Name:=[],Text:=v8.1 }:TRec),({ mB:=x0.mB,mI:=v8.2.mI,mH:=v8.2.mH }:TL01Cur)) else (if (v1.1==4) then (D4 ({ mB:=x0.mB,mI:=v2.2.mI,mH:=v2.2.mH }:TL01Cur) 5).bind fun v4=>(D4 ({ mB:=x0.mB,mI:=v4.2.mI,mH:=v4.2.mH }:TL01Cur) 8).bind fun v5=>some (({ Kind:=v1.1,Valid:=w64 (1+v2.1),Uid:=w64 (1+v4.1),Next:=0,Flags:=v5.1,User:=[],Name:=[],Text:=[] }:TRec),({ mB:=x0.mB,mI:=v5.2.mI,mH:=v5.2.mH }:TL01Cur)) else (if (v1.1==5) then (D4 ({ mB:=x0.mB,mI:=v2.2.mI,mH:=v2.2.mH }:TL01Cur) 5).bind fun v3=>some (({ Kind:=v1.1,Valid:=w64 (1+v2.1),Uid:=w64 (1+v3.1),Next:=0,Flags:=0,User:=[],Name:=[],Text:=[] }:TRec),({ mB:=x0.mB,mI:=v3.2.mI,mH:=v3.2.mH }:TL01Cur)) else some (({ Kind:=v1.1,Valid:=w64 (1+v2.1),Uid:=0,Next:=0,Flags:=0,User:=[],Name:=[],Text:=[] }:TRec),({ mB:=x0.mB,mI:=v2.2.mI,mH:=v2.2.mH }:TL01Cur))))))
noncomputable def De (x0:TLog) (s1:Int×(List TItem)):Option ((Int×(List TItem)) ⊕ (List TItem)) :=
 (if decide (s1.1<(x0.Used.length:Int)) then (at? x0.Used s1.1).bind fun v3=>(app? 96 s1.2 v3.Items).bind fun v4=>some (.inl (w64 (s1.1+1),v4)) else some (.inr s1.2))
noncomputable def Cd (x0:TLog):Option (List TItem) :=
 (iter (De x0) (0,([]:List TItem))).bind (fun y5=>some y5)
noncomputable def Ac (x1:TItem) (v1:List TItem) (s2:Int):Option (Int ⊕ (Bool ⊕ Unit)) :=
 (if decide (s2<(v1.length:Int)) then ((at? v1 s2).bind fun v5=>(if (v5.Seq==x1.Seq) then (at? v1 s2).bind fun v6=>(if !(v6.Seq==x1.Seq&&(v6.Rec.Kind==x1.Rec.Kind&&(v6.Rec.Valid==x1.Rec.Valid&&(v6.Rec.Uid==x1.Rec.Uid&&(v6.Rec.Next==x1.Rec.Next&&(v6.Rec.Flags==x1.Rec.Flags&&(v6.Rec.User==x1.Rec.User&&(v6.Rec.Name==x1.Rec.Name&&(v6.Rec.Text==x1.Rec.Text&&true))))))))) then some true else some false) else some false):Option Bool).bind (fun y4=>(if y4 then some (.inr (.inl false)) else some (.inl (w64 (s2+1))))) else some (.inr (.inr ())))
noncomputable def Ad (x0:TLog) (x1:TItem):Option Bool :=
 (Cd x0).bind fun v1=>(iter (Ac x1 v1) 0).bind (Sum.elim (fun r=>some r) (fun _=>some (decide ((v1.length:Int)<200))))
noncomputable def W8 (x0:List UInt8) (s1:Int):Option (Int ⊕ (Bool ⊕ Unit)) :=
 (if decide (s1<(x0.length:Int)) then ((bt? x0 s1).bind fun v4=>(if decide ((v4.toNat:Int)<97) then some true else (bt? x0 s1).bind fun v5=>(if decide ((v5.toNat:Int)>122) then some true else some false)):Option Bool).bind (fun y3=>(if y3 then some (.inr (.inl false)) else some (.inl (w64 (s1+1))))) else some (.inr (.inr ())))
noncomputable def Bn (x0:List UInt8):Option Bool :=
 (iter (W8 x0) 0).bind (Sum.elim (fun r=>some r) (fun _=>(B8 (x0.length:Int) 1 8).bind fun v7=>some v7))
noncomputable def Cu (x0:TRec):Option Bool :=
 ((B8 x0.Kind 1 5).bind fun v2=>(if v2 then (B8 x0.Valid 1 9999).bind fun v3=>(if v3 then some false else some true) else some true):Option Bool).bind (fun y1=>(if y1 then some false else (if (x0.Kind==1) then ((if (x0.Kind==3) then some true else (if (x0.Kind==4) then some true else (if (x0.Kind==5) then some true else some false))):Option Bool).bind (fun y11=>((if (x0.Kind==3) then some true else (if (x0.Kind==4) then some true else some false)):Option Bool).bind (fun y12=>((Bn x0.User).bind fun v14=>(if v14 then (Bn x0.Name).bind fun v15=>(if v15 then (B8 x0.Next 1 10000).bind fun v16=>(if v16 then some false else some true) else some true) else some true):Option Bool).bind (fun y13=>(if y13 then some false else ((if y11 then (B8 x0.Uid 1 9999).bind fun v18=>(if v18 then some false else some true) else (if (x0.Uid != 0) then some true else some false)):Option Bool).bind (fun y17=>(if y17 then some false else ((if y12 then (B8 x0.Flags 0 7).bind fun v20=>(if v20 then some false else some true) else (if (x0.Flags != 0) then some true else some false)):Option Bool).bind (fun y19=>(if y19 then some false else (if (x0.Kind==3) then some (decide ((x0.Text.length:Int)≤100)) else some (x0.Text==[])))))))))) else ((if (x0.Kind==3) then some true else (if (x0.Kind==4) then some true else (if (x0.Kind==5) then some true else some false))):Option Bool).bind (fun y4=>((if (x0.Kind==3) then some true else (if (x0.Kind==4) then some true else some false)):Option Bool).bind (fun y5=>((if (!(x0.User==[])) then some true else (if (!(x0.Name==[])) then some true else (if (x0.Next != 0) then some true else some false))):Option Bool).bind (fun y6=>(if y6 then some false else ((if y4 then (B8 x0.Uid 1 9999).bind fun v8=>(if v8 then some false else some true) else (if (x0.Uid != 0) then some true else some false)):Option Bool).bind (fun y7=>(if y7 then some false else ((if y5 then (B8 x0.Flags 0 7).bind fun v10=>(if v10 then some false else some true) else (if (x0.Flags != 0) then some true else some false)):Option Bool).bind (fun y9=>(if y9 then some false else (if (x0.Kind==3) then some (decide ((x0.Text.length:Int)≤100)) else some (x0.Text==[])))))))))))))
noncomputable def Z8 (x0:TRec):Option ((List UInt8)×Bool) :=
 (Cu x0).bind fun v1=>(if v1 then (D8 x0.Valid).bind fun v2=>(cat? ([IntKind.u8.wrap x0.Kind].map ofI) v2).bind fun v3=>(D8 x0.Uid).bind fun v4=>(cat? v3 v4).bind fun v5=>(D8 x0.Next).bind fun v6=>(cat? v5 v6).bind fun v7=>(D8 x0.Flags).bind fun v8=>(cat? v7 v8).bind fun v9=>(Q0 x0.User).bind fun v10=>(cat? v9 v10).bind fun v11=>(Q0 x0.Name).bind fun v12=>(cat? v11 v12).bind fun v13=>(Q0 x0.Text).bind fun v14=>(cat? v13 v14).bind fun v15=>some (v15,true) else some ([],false))
noncomputable def Z7 (x0:TItem) (x1:Int):Option (TFrame×Bool) :=
 (Z8 x0.Rec).bind fun v1=>((if !v1.2 then some true else (Z9 ({ Gen:=x1,Seq:=x0.Seq,Body:=v1.1 }:TFrame)).bind fun v3=>(if v3 then some false else some true)):Option Bool).bind (fun y2=>(if y2 then some (({ Gen:=0,Seq:=0,Body:=[] }:TFrame),false) else some (({ Gen:=x1,Seq:=x0.Seq,Body:=v1.1 }:TFrame),true)))
noncomputable def T1 (x0:TLog) (x1:Int):Option (Bool×TLog) :=
 (P8 ({ Disk:=({ Sectors:=x0.Disk.Sectors,Cache:=x0.Disk.Cache }:TDisk),Segs:=x0.Segs,Used:=x0.Used,NextGen:=x0.NextGen,NextSeq:=x0.NextSeq,Stamp:=x0.Stamp,NextValid:=x0.NextValid }:TLog)).bind fun v1=>((if decide (x1<0) then some true else (if decide ((v1.length:Int)≤x1) then some true else some false)):Option Bool).bind (fun y2=>(if y2 then some (false,({ Disk:=({ Sectors:=x0.Disk.Sectors,Cache:=x0.Disk.Cache }:TDisk),Segs:=x0.Segs,Used:=x0.Used,NextGen:=x0.NextGen,NextSeq:=x0.NextSeq,Stamp:=x0.Stamp,NextValid:=x0.NextValid }:TLog)) else (J7 ({ Gen:=x0.NextGen,Seq:=1,Body:=[115,101,103] }:TFrame)).bind fun v3=>(at? v1 0).bind fun v4=>(F8 ({ Sectors:=x0.Disk.Sectors,Cache:=x0.Disk.Cache }:TDisk) v4 0 v3.1).bind fun v5=>((if !v3.2 then some true else (if !v5.2 then some true else (if decide (x0.NextGen≥1000000000) then some true else some false))):Option Bool).bind (fun y6=>(if y6 then some (false,({ Disk:=({ Sectors:=x0.Disk.Sectors,Cache:=x0.Disk.Cache }:TDisk),Segs:=x0.Segs,Used:=x0.Used,NextGen:=x0.NextGen,NextSeq:=x0.NextSeq,Stamp:=x0.Stamp,NextValid:=x0.NextValid }:TLog)) else (G9 v5.1).bind fun v7=>(app? 48 ([]:List TSeg) x0.Used).bind fun v8=>(at? v1 0).bind fun v9=>(app? 48 v8 [({ No:=v9,Gen:=x0.NextGen,End:=(v3.1.length:Int),Items:=[] }:TSeg)]).bind fun v10=>some (true,({ Disk:=({ Sectors:=v7.Sectors,Cache:=v7.Cache }:TDisk),Segs:=x0.Segs,Used:=v10,NextGen:=w64 (x0.NextGen+1),NextSeq:=x0.NextSeq,Stamp:=x0.Stamp,NextValid:=x0.NextValid }:TLog))))))
noncomputable def P6 (x0:TLog) (x1:TItem) (x2:Int):Option (Bool×TLog) :=
 (at? x0.Used (w64 ((x0.Used.length:Int) - 1))).bind fun v1=>(Z7 x1 v1.Gen).bind fun v2=>(J7 v2.1).bind fun v3=>((if !v2.2 then some true else (if !v3.2 then some true else (if decide (x1.Seq≥1000000000) then some true else some false))):Option Bool).bind (fun y4=>(if y4 then some (false,({ Disk:=({ Sectors:=x0.Disk.Sectors,Cache:=x0.Disk.Cache }:TDisk),Segs:=x0.Segs,Used:=x0.Used,NextGen:=x0.NextGen,NextSeq:=x0.NextSeq,Stamp:=x0.Stamp,NextValid:=x0.NextValid }:TLog)) else (if decide ((w64 (v1.End+(v3.1.length:Int)))>256) then (T1 ({ Disk:=({ Sectors:=x0.Disk.Sectors,Cache:=x0.Disk.Cache }:TDisk),Segs:=x0.Segs,Used:=x0.Used,NextGen:=x0.NextGen,NextSeq:=x0.NextSeq,Stamp:=x0.Stamp,NextValid:=x0.NextValid }:TLog) x2).bind fun v11=>(if v11.1 then (at? v11.2.Used (w64 ((v11.2.Used.length:Int) - 1))).bind fun v12=>(J7 ({ Gen:=v12.Gen,Seq:=v2.1.Seq,Body:=v2.1.Body }:TFrame)).bind fun v13=>((if !v13.2 then some true else (if decide ((w64 (v12.End+(v13.1.length:Int)))>256) then some true else some false)):Option Bool).bind (fun y14=>(if y14 then some (false,({ Disk:=({ Sectors:=v11.2.Disk.Sectors,Cache:=v11.2.Disk.Cache }:TDisk),Segs:=v11.2.Segs,Used:=v11.2.Used,NextGen:=v11.2.NextGen,NextSeq:=v11.2.NextSeq,Stamp:=v11.2.Stamp,NextValid:=v11.2.NextValid }:TLog)) else (F8 ({ Sectors:=v11.2.Disk.Sectors,Cache:=v11.2.Disk.Cache }:TDisk) v12.No v12.End v13.1).bind fun v15=>(if !v15.2 then some (false,({ Disk:=({ Sectors:=v11.2.Disk.Sectors,Cache:=v11.2.Disk.Cache }:TDisk),Segs:=v11.2.Segs,Used:=v11.2.Used,NextGen:=v11.2.NextGen,NextSeq:=v11.2.NextSeq,Stamp:=v11.2.Stamp,NextValid:=v11.2.NextValid }:TLog)) else (G9 v15.1).bind fun v16=>(app? 96 ([]:List TItem) v12.Items).bind fun v17=>(app? 96 v17 ([x1]:List TItem)).bind fun v18=>(at? v11.2.Used (w64 ((v11.2.Used.length:Int) - 1))).bind fun _=>(some (set' v11.2.Used (w64 ((v11.2.Used.length:Int) - 1)) ({ No:=v12.No,Gen:=v12.Gen,End:=w64 (v12.End+(v13.1.length:Int)),Items:=v18 }:TSeg))).bind fun v20=>(if decide (x1.Seq≥v11.2.NextSeq) then (if decide (x1.Rec.Valid≥v11.2.NextValid) then some (true,({ Disk:=({ Sectors:=v16.Sectors,Cache:=v16.Cache }:TDisk),Segs:=v11.2.Segs,Used:=v20,NextGen:=v11.2.NextGen,NextSeq:=w64 (x1.Seq+1),Stamp:=v11.2.Stamp,NextValid:=w64 (x1.Rec.Valid+1) }:TLog)) else some (true,({ Disk:=({ Sectors:=v16.Sectors,Cache:=v16.Cache }:TDisk),Segs:=v11.2.Segs,Used:=v20,NextGen:=v11.2.NextGen,NextSeq:=w64 (x1.Seq+1),Stamp:=v11.2.Stamp,NextValid:=v11.2.NextValid }:TLog))) else (if decide (x1.Rec.Valid≥v11.2.NextValid) then some (true,({ Disk:=({ Sectors:=v16.Sectors,Cache:=v16.Cache }:TDisk),Segs:=v11.2.Segs,Used:=v20,NextGen:=v11.2.NextGen,NextSeq:=v11.2.NextSeq,Stamp:=v11.2.Stamp,NextValid:=w64 (x1.Rec.Valid+1) }:TLog)) else some (true,({ Disk:=({ Sectors:=v16.Sectors,Cache:=v16.Cache }:TDisk),Segs:=v11.2.Segs,Used:=v20,NextGen:=v11.2.NextGen,NextSeq:=v11.2.NextSeq,Stamp:=v11.2.Stamp,NextValid:=v11.2.NextValid }:TLog))))))) else some (false,({ Disk:=({ Sectors:=v11.2.Disk.Sectors,Cache:=v11.2.Disk.Cache }:TDisk),Segs:=v11.2.Segs,Used:=v11.2.Used,NextGen:=v11.2.NextGen,NextSeq:=v11.2.NextSeq,Stamp:=v11.2.Stamp,NextValid:=v11.2.NextValid }:TLog))) else (F8 ({ Sectors:=x0.Disk.Sectors,Cache:=x0.Disk.Cache }:TDisk) v1.No v1.End v3.1).bind fun v5=>(if !v5.2 then some (false,({ Disk:=({ Sectors:=x0.Disk.Sectors,Cache:=x0.Disk.Cache }:TDisk),Segs:=x0.Segs,Used:=x0.Used,NextGen:=x0.NextGen,NextSeq:=x0.NextSeq,Stamp:=x0.Stamp,NextValid:=x0.NextValid }:TLog)) else (G9 v5.1).bind fun v6=>(app? 96 ([]:List TItem) v1.Items).bind fun v7=>(app? 96 v7 ([x1]:List TItem)).bind fun v8=>(at? x0.Used (w64 ((x0.Used.length:Int) - 1))).bind fun _=>(some (set' x0.Used (w64 ((x0.Used.length:Int) - 1)) ({ No:=v1.No,Gen:=v1.Gen,End:=w64 (v1.End+(v3.1.length:Int)),Items:=v8 }:TSeg))).bind fun v10=>(if decide (x1.Seq≥x0.NextSeq) then (if decide (x1.Rec.Valid≥x0.NextValid) then some (true,({ Disk:=({ Sectors:=v6.Sectors,Cache:=v6.Cache }:TDisk),Segs:=x0.Segs,Used:=v10,NextGen:=x0.NextGen,NextSeq:=w64 (x1.Seq+1),Stamp:=x0.Stamp,NextValid:=w64 (x1.Rec.Valid+1) }:TLog)) else some (true,({ Disk:=({ Sectors:=v6.Sectors,Cache:=v6.Cache }:TDisk),Segs:=x0.Segs,Used:=v10,NextGen:=x0.NextGen,NextSeq:=w64 (x1.Seq+1),Stamp:=x0.Stamp,NextValid:=x0.NextValid }:TLog))) else (if decide (x1.Rec.Valid≥x0.NextValid) then some (true,({ Disk:=({ Sectors:=v6.Sectors,Cache:=v6.Cache }:TDisk),Segs:=x0.Segs,Used:=v10,NextGen:=x0.NextGen,NextSeq:=x0.NextSeq,Stamp:=x0.Stamp,NextValid:=w64 (x1.Rec.Valid+1) }:TLog)) else some (true,({ Disk:=({ Sectors:=v6.Sectors,Cache:=v6.Cache }:TDisk),Segs:=x0.Segs,Used:=v10,NextGen:=x0.NextGen,NextSeq:=x0.NextSeq,Stamp:=x0.Stamp,NextValid:=x0.NextValid }:TLog))))))))
noncomputable def X5 (x0:TL01Cur) (s3:Int×Int×Int×Int×Int×Int×Int×Int×(List (List UInt8))×(List TWrite)×(List TSeg)):Option ((Int×Int×Int×Int×Int×Int×Int×Int×(List (List UInt8))×(List TWrite)×(List TSeg)) ⊕ (Int×Int×Int×Int×Int×Int×Int×(List (List UInt8))×(List TWrite)×(List TSeg))) :=
 (D4 ({ mB:=x0.mB,mI:=s3.2.1,mH:=s3.2.2.1 }:TL01Cur) 34).bind fun v5=>(if decide (s3.1<v5.1) then (Bg ({ mB:=x0.mB,mI:=v5.2.mI,mH:=v5.2.mH }:TL01Cur)).bind fun v6=>(Ad ({ Disk:=({ Sectors:=s3.2.2.2.2.2.2.2.2.1,Cache:=s3.2.2.2.2.2.2.2.2.2.1 }:TDisk),Segs:=s3.2.2.2.1,Used:=s3.2.2.2.2.2.2.2.2.2.2,NextGen:=s3.2.2.2.2.1,NextSeq:=s3.2.2.2.2.2.1,Stamp:=s3.2.2.2.2.2.2.1,NextValid:=s3.2.2.2.2.2.2.2.1 }:TLog) ({ Seq:=s3.2.2.2.2.2.1,Rec:=v6.1 }:TItem)).bind fun v7=>(if v7 then (P6 ({ Disk:=({ Sectors:=s3.2.2.2.2.2.2.2.2.1,Cache:=s3.2.2.2.2.2.2.2.2.2.1 }:TDisk),Segs:=s3.2.2.2.1,Used:=s3.2.2.2.2.2.2.2.2.2.2,NextGen:=s3.2.2.2.2.1,NextSeq:=s3.2.2.2.2.2.1,Stamp:=s3.2.2.2.2.2.2.1,NextValid:=s3.2.2.2.2.2.2.2.1 }:TLog) ({ Seq:=s3.2.2.2.2.2.1,Rec:=v6.1 }:TItem) 1).bind fun v8=>some (.inl (w64 (s3.1+1),v6.2.mI,v6.2.mH,v8.2.Segs,v8.2.NextGen,v8.2.NextSeq,v8.2.Stamp,v8.2.NextValid,v8.2.Disk.Sectors,v8.2.Disk.Cache,v8.2.Used)) else some (.inl (w64 (s3.1+1),v6.2.mI,v6.2.mH,s3.2.2.2.1,s3.2.2.2.2.1,s3.2.2.2.2.2.1,s3.2.2.2.2.2.2.1,s3.2.2.2.2.2.2.2.1,s3.2.2.2.2.2.2.2.2.1,s3.2.2.2.2.2.2.2.2.2.1,s3.2.2.2.2.2.2.2.2.2.2))) else some (.inr (v5.2.mI,v5.2.mH,s3.2.2.2.1,s3.2.2.2.2.1,s3.2.2.2.2.2.1,s3.2.2.2.2.2.2.1,s3.2.2.2.2.2.2.2.1,s3.2.2.2.2.2.2.2.2.1,s3.2.2.2.2.2.2.2.2.2.1,s3.2.2.2.2.2.2.2.2.2.2)))
noncomputable def Ba (x0:TL01Cur):Option (TLog×TL01Cur) :=
 (D4 ({ mB:=x0.mB,mI:=x0.mI,mH:=x0.mH }:TL01Cur) 4).bind fun v1=>(Y5 (w64 (5+v1.1))).bind fun v2=>(iter (X5 x0) (0,v1.2.mI,v1.2.mH,v2.1.Segs,v2.1.NextGen,v2.1.NextSeq,v2.1.Stamp,v2.1.NextValid,v2.1.Disk.Sectors,v2.1.Disk.Cache,v2.1.Used)).bind (fun y9=>some (({ Disk:=({ Sectors:=y9.2.2.2.2.2.2.2.1,Cache:=y9.2.2.2.2.2.2.2.2.1 }:TDisk),Segs:=y9.2.2.1,Used:=y9.2.2.2.2.2.2.2.2.2,NextGen:=y9.2.2.2.1,NextSeq:=y9.2.2.2.2.1,Stamp:=y9.2.2.2.2.2.1,NextValid:=y9.2.2.2.2.2.2.1 }:TLog),({ mB:=x0.mB,mI:=y9.1,mH:=y9.2.1 }:TL01Cur)))
noncomputable def Bt (x0:List Int) (s1:Int×Int):Option ((Int×Int) ⊕ Int) :=
 ((if decide (s1.2<(x0.length:Int)) then (if decide (s1.2<4000) then some true else some false) else some false):Option Bool).bind (fun y3=>(if y3 then (at? x0 s1.2).bind fun v4=>some (.inl (andv .i64 (w64 ((w64 ((w64 (s1.1*131))+(w64 v4)))+7)) 1073741823,w64 (s1.2+1))) else some (.inr s1.1)))
noncomputable def Bd (x0:List Int):Option TL01Cur :=
 (iter (Bt x0) (w64 (76001+(x0.length:Int)),0)).bind (fun y5=>some ({ mB:=x0,mI:=0,mH:=y5 }:TL01Cur))
noncomputable def Cl (x0:List Int):Option TLog :=
 (Bd x0).bind fun v2=>(Ba ({ mB:=x0,mI:=v2.mI,mH:=v2.mH }:TL01Cur)).bind fun v3=>some ({ Disk:=({ Sectors:=v3.1.Disk.Sectors,Cache:=v3.1.Disk.Cache }:TDisk),Segs:=v3.1.Segs,Used:=v3.1.Used,NextGen:=v3.1.NextGen,NextSeq:=v3.1.NextSeq,Stamp:=v3.1.Stamp,NextValid:=v3.1.NextValid }:TLog)
noncomputable def T6 (v2:TLog) (s7:Int):Option (Int ⊕ (Bool ⊕ Unit)) :=
 (if decide (s7<(v2.Used.length:Int)) then (at? v2.Used s7).bind fun v9=>(Y0 v2.Disk v9.No).bind fun v10=>((at? v2.Used s7).bind fun v12=>(if (v10.Gen != v12.Gen) then some true else (at? v2.Used s7).bind fun v13=>(if (v10.End != v13.End) then some true else (at? v2.Used s7).bind fun v14=>(Af v10.Items v14.Items).bind fun v15=>(if v15 then some false else some true))):Option Bool).bind (fun y11=>(if y11 then some (.inr (.inl false)) else some (.inl (w64 (s7+1))))) else some (.inr (.inr ())))
noncomputable def Bs (x0:List Int):Option Bool :=
 (Ee x0).bind fun v1=>(if v1 then some true else (Cl x0).bind fun v2=>(R7 v2.Disk).bind fun v3=>(W1 v2).bind fun v4=>(Y1 v2.Disk v4).bind fun v5=>(R7 v5.1).bind fun v6=>(iter (T6 v2) 0).bind (Sum.elim (fun r=>some r) (fun _=>((if v3.2 then (V8 v3.1 v2).bind fun v18=>(if v18 then (if v5.2 then (if v6.2 then (V8 v6.1 v2).bind fun v19=>(if v19 then some (v6.1.Stamp==(w64 (v2.Stamp+1))) else some false) else some false) else some false) else some false) else some false):Option Bool).bind (fun y17=>some y17))))
noncomputable def Dj (x0:TSeg) (x1:Int):Option Bool :=
 some (x0.No==x1)
noncomputable def M3 (x0:List TSeg) (x1:Int) (s1:Int):Option (Int ⊕ (Int ⊕ Unit)) :=
 (if decide (s1<(x0.length:Int)) then (at? x0 s1).bind fun v3=>(Dj v3 x1).bind fun v4=>(if v4 then some (.inr (.inl s1)) else some (.inl (w64 (s1+1)))) else some (.inr (.inr ())))
noncomputable def M9 (x0:List TSeg) (x1:Int):Option Int :=
 (iter (M3 x0 x1) 0).bind (Sum.elim (fun r=>some r) (fun _=>some (-1)))
noncomputable def M0 (x0:List TSeg) (x1:Int):Option Bool :=
 (M9 x0 x1).bind fun v1=>some (decide (v1≥0))
noncomputable def Ex (x0:TLog) (s1:Int×(List Int)):Option ((Int×(List Int)) ⊕ (List Int)) :=
 (if decide (s1.1<(if 11<x0.Segs then 11 else x0.Segs)) then (M0 x0.Used s1.1).bind fun v3=>(if v3 then some (.inl (w64 (s1.1+1),s1.2)) else (app? 8 s1.2 [s1.1]).bind fun v4=>some (.inl (w64 (s1.1+1),v4))) else some (.inr s1.2))
noncomputable def Kv (x0:TLog):Option (List Int) :=
 (iter (Ex x0) (0,([]:List Int))).bind (fun y5=>some y5)
noncomputable def Db (x0:List TItem) (s1:Int) (s8:Int):Option (Int ⊕ (Bool ⊕ Unit)) :=
 (if decide (s8<s1) then ((at? x0 s8).bind fun v11=>(at? x0 s1).bind fun v12=>(if (v11.Seq==v12.Seq) then (at? x0 s8).bind fun v13=>(at? x0 s1).bind fun v14=>(if !(v13.Seq==v14.Seq&&(v13.Rec.Kind==v14.Rec.Kind&&(v13.Rec.Valid==v14.Rec.Valid&&(v13.Rec.Uid==v14.Rec.Uid&&(v13.Rec.Next==v14.Rec.Next&&(v13.Rec.Flags==v14.Rec.Flags&&(v13.Rec.User==v14.Rec.User&&(v13.Rec.Name==v14.Rec.Name&&(v13.Rec.Text==v14.Rec.Text&&true))))))))) then some true else some false) else some false):Option Bool).bind (fun y10=>(if y10 then some (.inr (.inl false)) else some (.inl (w64 (s8+1))))) else some (.inr (.inr ())))
noncomputable def Cw (x0:List TItem) (s1:Int):Option (Int ⊕ (Bool ⊕ Unit)) :=
 (if decide (s1<(x0.length:Int)) then ((at? x0 s1).bind fun v4=>(B8 v4.Seq 1 1000000000).bind fun v5=>(if v5 then (at? x0 s1).bind fun v6=>(Cu v6.Rec).bind fun v7=>(if v7 then some false else some true) else some true):Option Bool).bind (fun y3=>(if y3 then some (.inr (.inl false)) else (iter (Db x0 s1) 0).bind (Sum.elim (fun r=>some (.inr (.inl r))) (fun _=>some (.inl (w64 (s1+1))))))) else some (.inr (.inr ())))
noncomputable def Lu (x0:List TItem):Option Bool :=
 (iter (Cw x0) 0).bind (Sum.elim (fun r=>some r) (fun _=>some (decide ((x0.length:Int)≤200))))
noncomputable def U8 (x0:List UInt8) (x1:Int) (s2:Int×Int×Int):Option ((Int×Int×Int) ⊕ ((Int×Int×Bool) ⊕ Unit)) :=
 ((if decide (s2.2.2<(x0.length:Int)) then (if decide (s2.2.2<(w64 (x1+5))) then some true else some false) else some false):Option Bool).bind (fun y4=>(if y4 then (bt? x0 s2.2.2).bind fun v5=>(bt? x0 s2.2.2).bind fun v6=>(if decide ((v6.toNat:Int)<128) then ((if decide ((w64 (s2.1+(w64 ((Int.tmod (w64 (v5.toNat:Int)) 128)*s2.2.1))))>1000000000) then some true else (D8 (w64 (s2.1+(w64 ((Int.tmod (w64 (v5.toNat:Int)) 128)*s2.2.1))))).bind fun v8=>(sub? x0 x1 (w64 (s2.2.2+1))).bind fun v9=>(if (!(v8==v9)) then some true else some false)):Option Bool).bind (fun y7=>(if y7 then some (.inr (.inl (0,0,false))) else some (.inr (.inl (w64 (s2.1+(w64 ((Int.tmod (w64 (v5.toNat:Int)) 128)*s2.2.1))),w64 (s2.2.2+1),true))))) else some (.inl (w64 (s2.1+(w64 ((Int.tmod (w64 (v5.toNat:Int)) 128)*s2.2.1))),w64 (s2.2.1*128),w64 (s2.2.2+1)))) else some (.inr (.inr ()))))
noncomputable def Ag (x0:List UInt8) (x1:Int):Option (Int×Int×Bool) :=
 (B8 x1 0 (x0.length:Int)).bind fun v1=>(if v1 then (iter (U8 x0 x1) (0,1,x1)).bind (Sum.elim (fun r=>some r) (fun _=>some (0,0,false))) else some (0,0,false))
noncomputable def Q7 (x0:List UInt8) (x1:Int):Option ((List UInt8)×Int×Bool) :=
 (Ag x0 x1).bind fun v1=>((if !v1.2.2 then some true else (if decide (v1.1>20000) then some true else (if decide (v1.1>(w64 ((x0.length:Int) - v1.2.1))) then some true else some false))):Option Bool).bind (fun y2=>(if y2 then some ([],0,false) else (sub? x0 v1.2.1 (w64 (v1.2.1+v1.1))).bind fun v3=>some (v3,w64 (v1.2.1+v1.1),true)))
noncomputable def Gc (x0:List UInt8):Option ((List UInt8)×Bool) :=
 ((if decide ((w64 ((x0.length:Int) - 4))<0) then some true else (if decide ((w64 ((x0.length:Int) - 4))>20000) then some true else (sub? x0 (w64 ((x0.length:Int) - 4)) (x0.length:Int)).bind fun v2=>(sub? x0 0 (w64 ((x0.length:Int) - 4))).bind fun v3=>(Cz v3).bind fun v4=>(Bw v4).bind fun v5=>(if (!(v2==v5)) then some true else some false))):Option Bool).bind (fun y1=>(if y1 then some ([],false) else (sub? x0 0 (w64 ((x0.length:Int) - 4))).bind fun v6=>some (v6,true)))
noncomputable def D6 (x0:TL06Cur):Option (Int×TL06Cur) :=
 (Ag x0.mText x0.mAt).bind fun v1=>(if x0.mBad then some (0,({ mText:=x0.mText,mAt:=x0.mAt,mBad:=true }:TL06Cur)) else (if !v1.2.2 then some (0,({ mText:=x0.mText,mAt:=x0.mAt,mBad:=true }:TL06Cur)) else some (v1.1,({ mText:=x0.mText,mAt:=v1.2.1,mBad:=false }:TL06Cur))))
noncomputable def L1 (v7:Int×TL06Cur) (s8:Int×(List UInt8)×Int×Bool×(List TRef)):Option ((Int×(List UInt8)×Int×Bool×(List TRef)) ⊕ ((List UInt8)×Int×Bool×(List TRef))) :=
 ((if decide (s8.1<v7.1) then (if decide (s8.1<20) then some (!s8.2.2.2.1) else some false) else some false):Option Bool).bind (fun y10=>(if y10 then (D6 ({ mText:=s8.2.1,mAt:=s8.2.2.1,mBad:=s8.2.2.2.1 }:TL06Cur)).bind fun v11=>(D6 v11.2).bind fun v12=>(app? 16 s8.2.2.2.2 [({ No:=v11.1,Gen:=v12.1 }:TRef)]).bind fun v13=>some (.inl (w64 (s8.1+1),v12.2.mText,v12.2.mAt,v12.2.mBad,v13)) else some (.inr (s8.2.1,s8.2.2.1,s8.2.2.2.1,s8.2.2.2.2))))
noncomputable def U5 (x0:List UInt8):Option (TCheck×Bool) :=
 (Q7 x0 0).bind fun v1=>(Gc v1.1).bind fun v2=>(if !v1.2.2 then some (({ Stamp:=0,NextGen:=0,NextSeq:=0,NextValid:=0,Refs:=[] }:TCheck),false) else (if !v2.2 then some (({ Stamp:=0,NextGen:=0,NextSeq:=0,NextValid:=0,Refs:=[] }:TCheck),false) else (D6 ({ mText:=v2.1,mAt:=0,mBad:=false }:TL06Cur)).bind fun v3=>(D6 v3.2).bind fun v4=>(D6 v4.2).bind fun v5=>(D6 v5.2).bind fun v6=>(D6 v6.2).bind fun v7=>(iter (L1 v7) (0,v7.2.mText,v7.2.mAt,v7.2.mBad,([]:List TRef))).bind (fun y14=>(V1 ({ Stamp:=v3.1,NextGen:=v4.1,NextSeq:=v5.1,NextValid:=v6.1,Refs:=y14.2.2.2 }:TCheck)).bind fun v15=>((if y14.2.2.1 then some true else (if !v15.2 then some true else (sub? x0 0 v1.2.1).bind fun v17=>(if (!(v15.1==v17)) then some true else some false))):Option Bool).bind (fun y16=>(if y16 then some (({ Stamp:=0,NextGen:=0,NextSeq:=0,NextValid:=0,Refs:=[] }:TCheck),false) else some (({ Stamp:=v3.1,NextGen:=v4.1,NextSeq:=v5.1,NextValid:=v6.1,Refs:=y14.2.2.2 }:TCheck),true))))))
noncomputable def Fe (x0:List UInt8) (x1:Int):Option (TFrame×Int×Bool) :=
 (Ag x0 x1).bind fun v1=>(Ag x0 v1.2.1).bind fun v2=>(Q7 x0 v2.2.1).bind fun v3=>((if !v1.2.2 then some true else (if !v2.2.2 then some true else (if !v3.2.2 then some true else (if decide (v3.2.1>(w64 ((x0.length:Int) - 4))) then some true else (if decide (x1<0) then some true else some false))))):Option Bool).bind (fun y4=>(if y4 then some (({ Gen:=0,Seq:=0,Body:=[] }:TFrame),0,false) else (J7 ({ Gen:=v1.1,Seq:=v2.1,Body:=v3.1 }:TFrame)).bind fun v5=>((if !v5.2 then some true else (sub? x0 x1 (w64 (v3.2.1+4))).bind fun v7=>(if (!(v5.1==v7)) then some true else some false)):Option Bool).bind (fun y6=>(if y6 then some (({ Gen:=0,Seq:=0,Body:=[] }:TFrame),0,false) else some (({ Gen:=v1.1,Seq:=v2.1,Body:=v3.1 }:TFrame),w64 (v3.2.1+4),true)))))
noncomputable def J1 (x0:TL06Cur):Option ((List UInt8)×TL06Cur) :=
 (Q7 x0.mText x0.mAt).bind fun v1=>(if x0.mBad then some ([],({ mText:=x0.mText,mAt:=x0.mAt,mBad:=true }:TL06Cur)) else (if !v1.2.2 then some ([],({ mText:=x0.mText,mAt:=x0.mAt,mBad:=true }:TL06Cur)) else some (v1.1,({ mText:=x0.mText,mAt:=v1.2.1,mBad:=false }:TL06Cur))))
noncomputable def Ai (x0:List UInt8):Option (TRec×Bool) :=
 (if (x0==[]) then some (({ Kind:=0,Valid:=0,Uid:=0,Next:=0,Flags:=0,User:=[],Name:=[],Text:=[] }:TRec),false) else (bt? x0 0).bind fun v1=>(D6 ({ mText:=x0,mAt:=1,mBad:=false }:TL06Cur)).bind fun v2=>(D6 v2.2).bind fun v3=>(D6 v3.2).bind fun v4=>(D6 v4.2).bind fun v5=>(J1 v5.2).bind fun v6=>(J1 v6.2).bind fun v7=>(J1 v7.2).bind fun v8=>(Z8 ({ Kind:=w64 (v1.toNat:Int),Valid:=v2.1,Uid:=v3.1,Next:=v4.1,Flags:=v5.1,User:=v6.1,Name:=v7.1,Text:=v8.1 }:TRec)).bind fun v9=>((if v8.2.mBad then some true else (if !v9.2 then some true else (if (!(v9.1==x0)) then some true else some false))):Option Bool).bind (fun y10=>(if y10 then some (({ Kind:=0,Valid:=0,Uid:=0,Next:=0,Flags:=0,User:=[],Name:=[],Text:=[] }:TRec),false) else some (({ Kind:=w64 (v1.toNat:Int),Valid:=v2.1,Uid:=v3.1,Next:=v4.1,Flags:=v5.1,User:=v6.1,Name:=v7.1,Text:=v8.1 }:TRec),true))))
noncomputable def Cv (x0:TSeg) (x1:TSeg) (s2:Int):Option (Int ⊕ (Bool ⊕ Unit)) :=
 (if decide (s2<(x0.Items.length:Int)) then (at? x0.Items s2).bind fun v4=>(at? x1.Items s2).bind fun v5=>(if !(v4.Seq==v5.Seq&&(v4.Rec.Kind==v5.Rec.Kind&&(v4.Rec.Valid==v5.Rec.Valid&&(v4.Rec.Uid==v5.Rec.Uid&&(v4.Rec.Next==v5.Rec.Next&&(v4.Rec.Flags==v5.Rec.Flags&&(v4.Rec.User==v5.Rec.User&&(v4.Rec.Name==v5.Rec.Name&&(v4.Rec.Text==v5.Rec.Text&&true))))))))) then some (.inr (.inl false)) else some (.inl (w64 (s2+1)))) else some (.inr (.inr ())))
noncomputable def Hm (x0:TSeg) (x1:TSeg):Option Bool :=
 ((if (x0.No != x1.No) then some true else (if (x0.Gen != x1.Gen) then some true else (if (x0.End != x1.End) then some true else (if ((x0.Items.length:Int) != (x1.Items.length:Int)) then some true else some false)))):Option Bool).bind (fun y1=>(if y1 then some false else (iter (Cv x0 x1) 0).bind (Sum.elim (fun r=>some r) (fun _=>some true))))
noncomputable def Cy (x0:TLog) (x1:TLog) (s2:Int):Option (Int ⊕ (Bool ⊕ Unit)) :=
 (if decide (s2<(x0.Used.length:Int)) then (at? x0.Used s2).bind fun v4=>(at? x1.Used s2).bind fun v5=>(Hm v4 v5).bind fun v6=>(if v6 then some (.inl (w64 (s2+1))) else some (.inr (.inl false))) else some (.inr (.inr ())))
noncomputable def Lh (x0:TLog) (x1:TLog):Option Bool :=
 ((if ((x0.Used.length:Int) != (x1.Used.length:Int)) then some true else (if (x0.NextGen != x1.NextGen) then some true else (if (x0.NextSeq != x1.NextSeq) then some true else (if (x0.NextValid != x1.NextValid) then some true else some false)))):Option Bool).bind (fun y1=>(if y1 then some false else (iter (Cy x0 x1) 0).bind (Sum.elim (fun r=>some r) (fun _=>some true))))
noncomputable def Dg (x0:List UInt8) (x1:Int) (s1:Int×(List TFrame)):Option ((Int×(List TFrame)) ⊕ (((List TFrame)×Int) ⊕ Empty)) :=
 (Fe x0 s1.1).bind fun v3=>((if !v3.2.2 then some true else (if (v3.1.Gen != x1) then some true else some false)):Option Bool).bind (fun y4=>(if y4 then some (.inr (.inl (s1.2,s1.1))) else (app? 32 s1.2 [v3.1]).bind fun v5=>some (.inl (v3.2.1,v5))))
noncomputable def Jc (x0:List UInt8) (x1:Int):Option ((List TFrame)×Int) :=
 (iter (Dg x0 x1) (0,([]:List TFrame))).bind (Sum.elim (fun r=>some r) (fun y=>y.elim))
noncomputable def Y7 (x0:TDisk) (x1:Int) (x2:Int) (s2:(List UInt8)×Int):Option (((List UInt8)×Int) ⊕ (((List UInt8)×Bool) ⊕ (List UInt8))) :=
 (if decide (s2.2<x2) then ((if decide (x1<0) then some true else (if decide (x1>(x0.Sectors.length:Int)) then some true else some false)):Option Bool).bind (fun y4=>(if y4 then some (.inr (.inl ([],false))) else (K9 x0 (w64 (x1+s2.2))).bind fun v5=>(if !v5.2 then some (.inr (.inl ([],false))) else (cat? s2.1 v5.1).bind fun v6=>some (.inl (v6,w64 (s2.2+1)))))) else some (.inr (.inr s2.1)))
noncomputable def Ez (x0:TDisk) (x1:Int) (x2:Int):Option ((List UInt8)×Bool) :=
 (B8 x2 0 100).bind fun v1=>(if v1 then (iter (Y7 x0 x1 x2) ([],0)).bind (Sum.elim (fun r=>some r) (fun y3=>some (y3,true))) else some ([],false))
noncomputable def Li (x0:TDisk) (x1:Int):Option (List UInt8) :=
 (B8 x1 0 10).bind fun v1=>(if v1 then (T3 x1).bind fun v2=>(Ez x0 v2 8).bind fun v3=>some v3.1 else some [])
end Go.Proofs.YtldndhdohlfpgaaGreat.V
