/- The machine of values, part A. -/
import Derived.Orders
import Derived.Laws.AppendOwn
import Derived.Laws.MakeOwn
import Derived.Below
import Derived.WalkKit
import Derived.Laws.StructEq
import Derived.Laws.Tables
import Derived.Laws.Slices
import Derived.Laws.Strings
import Derived.Laws.BytesString
namespace Go.Proofs.YtldndhdohlfpgaaGreat.V
theorem qS {α:Type} (a b:α):(some a=some b)=(a=b):=Option.some.injEq a b
theorem qG {α:Type} {l:List α} {i:Nat} (h:i<l.length):l[i]?=some l[i]:=List.getElem?_eq_getElem h
theorem qI {α:Type} {l:List α} {i:Nat} {a:α} (h:l[i]?=some a):∃ h:i<l.length,l[i]=a:=List.getElem?_eq_some_iff.1 h
theorem qM {α:Type} {l:List α} {i:Nat} {a:α} (h:l[i]?=some a):a∈l:=List.mem_of_getElem? h
end Go.Proofs.YtldndhdohlfpgaaGreat.V
/- The values of the abstract machine, and how they stand to the model's: numbers, bools and texts as they are; slices by value (lst) or as own blocks (sl); pointers to own blocks. No program in sight. -/
namespace Go.Proofs.YtldndhdohlfpgaaGreat.V
open Go
structure Loc where
 B:Nat
 sz:Nat
 es:Nat
 fp:List Nat
inductive AV where
 | und
 | int (k:IntKind) (n:Int)
 | bool (b:Bool)
 | str (s:List UInt8)
 | ptr (b off:Nat)
 | el (cells:List AV) (off:Nat)
 | sl (b off n:Nat)
 | nils
 | lst (o:Bool) (es:Nat) (cells:List AV) (n:Nat)
 | pv (B off es:Nat) (cells:List AV) (n:Nat)
 | fn (f:FuncId) (cap:List AV)
 | agg (cells:List AV)
 | tup (vs:List AV)
 deriving Inhabited
structure ABlk where
 cells:List AV
 es:Nat
 deriving Inhabited
abbrev AH:=List (Option ABlk)
abbrev Bm:=Nat→Option Loc
def dead (H:AH) (b:Nat):Option Bool:=(H[b]?).map (·.isSome)
theorem G3 {H:AH} {b:Nat}:dead H b=some false↔H[b]?=some none:=by
 unfold dead
 cases H[b]? with
 | none=>simp
 | some x=>cases x <;> simp
theorem X8 {H:AH} {b:Nat}:dead H b≠none↔b<H.length:=by
 unfold dead
 cases h:H[b]? with
 | none=>simp at h ⊢; omega
 | some x=>simp; exact (qI h).1
def Bm.off (β:Bm) (k:Nat):Prop:=∀ b p,β b=some p→k ∉ p.B::p.fp
inductive VRel (w:World) (β:Bm) (dd:Nat→Option Bool):AV→Value→Prop
 | und {cv}:VRel w β dd .und cv
 | int {k n}:VRel w β dd (.int k n) (.int k n)
 | bool {b}:VRel w β dd (.bool b) (.bool b)
 | str {s}:VRel w β dd (.str s) (.string ⟨⟨s⟩⟩)
 | ptr {b off p} (h:β b=some p):VRel w β dd (.ptr b off) (.pointer (some ⟨p.B,off,none⟩))
 | ptrd {b off cv} (h:dd b=some false) (h1:cv.oneCell'=true):VRel w β dd (.ptr b off) cv
 | el {cells off B o} (cvs:Nat→Value) (hB:B<w.heap.size) (hm:β.off B) (hc:∀ i v,cells[i]?=some v→w.cell? ⟨B,o+i,none⟩=some (cvs i)∧(cvs i).oneCell'=true) (hr:∀ i v,cells[i]?=some v→VRel w β dd v (cvs i)):VRel w β dd (.el cells off) (.pointer (some ⟨B,o+off,none⟩))
 | sl {b off n p cap} (h:β b=some p) (hn:n≤cap) (hm:cap≤maxLen) (hc:off=0→cap*p.es=p.sz):VRel w β dd (.sl b off n) (.slice (some ⟨p.B,off,none⟩) n cap)
 | sl0 {b off a} (h:dd b≠none):VRel w β dd (.sl b off 0) (.slice a 0 0)
 | sld {b off n cv} (h:dd b=some false) (h1:cv.oneCell'=true):VRel w β dd (.sl b off n) cv
 | nils {a}:VRel w β dd .nils (.slice a 0 0)
 | lst0 {o es a cap}:VRel w β dd (.lst o es [] 0) (.slice a 0 cap)
 | lst {o es cells n B off cap} (hl:cells.length=n*es) (hn:n≤cap) (cvs:Nat→Value) (hB:B<w.heap.size) (hm:β.off B) (hc:∀ i v,cells[i]?=some v→w.cell? ⟨B,off+i,none⟩=some (cvs i)∧(cvs i).oneCell'=true) (hr:∀ i v,cells[i]?=some v→VRel w β dd v (cvs i)):VRel w β dd (.lst o es cells n) (.slice (some ⟨B,off,none⟩) n cap)
 | pv {B off es cells n cap} (h:VRel w β dd (.lst false es cells n) (.slice (some ⟨B,off,none⟩) n cap)):VRel w β dd (.pv B off es cells n) (.slice (some ⟨B,off,none⟩) n cap)
 | pv0 {B off es a cap}:VRel w β dd (.pv B off es [] 0) (.slice a 0 cap)
 | fn {f cap} {cap':Array Value} (hs:cap.length=cap'.size) (h:∀ (i:Nat) v cv,cap[i]?=some v→cap'[i]?=some cv→VRel w β dd v cv):VRel w β dd (.fn f cap) (.func (.func f) #[] cap')
 | agg {vs} {cvs:Array Value} (hs:vs.length=cvs.size) (h:∀ (i:Nat) v cv,vs[i]?=some v→cvs[i]?=some cv→VRel w β dd v cv) (h1:∀ (i:Nat) cv,cvs[i]?=some cv→cv.oneCell'=true):VRel w β dd (.agg vs) (.agg cvs)
 | tup {vs} {cvs:Array Value} (hs:vs.length=cvs.size) (h:∀ (i:Nat) v cv,vs[i]?=some v→cvs[i]?=some cv→VRel w β dd v cv):VRel w β dd (.tup vs) (.tuple cvs)
inductive FT (w:World):AV→Value→List Nat→Prop
 | und {cv}:FT w .und cv []
 | int {k n}:FT w (.int k n) (.int k n) []
 | bool {b}:FT w (.bool b) (.bool b) []
 | str {s}:FT w (.str s) (.string ⟨⟨s⟩⟩) []
 | nils {a}:FT w .nils (.slice a 0 0) []
 | lst0 {es a}:FT w (.lst true es [] 0) (.slice a 0 0) []
 | lst {es cells n B cap} {c:Array Value} {T} (hl:cells.length=n*es) (cvs:Nat→Value) (fps:Nat→List Nat) (hb:w.heap[B]?=some (.cells c T (0,0))) (hn:n≤cap) (hm:cap≤maxLen) (hsz:c.size=cap*es) (hc:∀ (i:Nat) v,cells[i]?=some v→c[i]?=some (cvs i)∧(cvs i).oneCell'=true) (hr:∀ (i:Nat) v,cells[i]?=some v→FT w v (cvs i) (fps i)):FT w (.lst true es cells n) (.slice (some ⟨B,0,none⟩) n cap) (B::(List.range cells.length).flatMap fps)
 | lst0v {es a cap}:FT w (.lst false es [] 0) (.slice a 0 cap) []
 | lstv {es cells n B off cap} {c:Array Value} {T} (hl:cells.length=n*es) (cvs:Nat→Value) (fps:Nat→List Nat) (hb:w.heap[B]?=some (.cells c T (0,0))) (hn:n≤cap) (hc:∀ (i:Nat) v,cells[i]?=some v→c[off+i]?=some (cvs i)∧(cvs i).oneCell'=true) (hr:∀ (i:Nat) v,cells[i]?=some v→FT w v (cvs i) (fps i)):FT w (.lst false es cells n) (.slice (some ⟨B,off,none⟩) n cap) (B::(List.range cells.length).flatMap fps)
 | agg {vs} {cvs:Array Value} (fps:Nat→List Nat) (hs:vs.length=cvs.size) (h:∀ (i:Nat) v cv,vs[i]?=some v→cvs[i]?=some cv→FT w v cv (fps i)) (h1:∀ (i:Nat) cv,cvs[i]?=some cv→cv.oneCell'=true):FT w (.agg vs) (.agg cvs) ((List.range vs.length).flatMap fps)
 | tup {vs} {cvs:Array Value} (fps:Nat→List Nat) (hs:vs.length=cvs.size) (h:∀ (i:Nat) v cv,vs[i]?=some v→cvs[i]?=some cv→FT w v cv (fps i)):FT w (.tup vs) (.tuple cvs) ((List.range vs.length).flatMap fps)
inductive CRel (w:World) (β:Bm) (dd:Nat→Option Bool):AV→Value→List Nat→Prop
 | own {v cv fp} (h:FT w v cv fp) (ho:∀ es cells n,v≠.lst false es cells n):CRel w β dd v cv fp
 | shr {v cv fp} (h:VRel w β dd v cv) (hn:∀ es cells n,v≠.lst true es cells n) (hf:fp=[]):CRel w β dd v cv fp
structure BRel (w:World) (β:Bm) (dd:Nat→Option Bool) (k:ABlk) (p:Loc):Prop where
 es:k.es=p.es
 ex:∃ (c:Array Value) (T:TypeId) (cvs:Nat→Value) (fps:Nat→List Nat),w.heap[p.B]?=some (.cells c T (0,0))∧c.size=p.sz∧k.cells.length≤p.sz ∧
  (∀ (i:Nat) v,k.cells[i]?=some v→c[i]?=some (cvs i)∧(cvs i).oneCell'=true∧CRel w β dd v (cvs i) (fps i))∧p.fp=(List.range k.cells.length).flatMap fps
structure SRel (base:Nat) (β:Bm) (H:AH) (w:World):Prop where
 blk:∀ b p,β b=some p→∃ k,H[b]?=some (some k)∧BRel w β (dead H) k p
 nodup:∀ b p,β b=some p→(p.B::p.fp).Nodup
 ge:∀ b p,β b=some p→∀ k∈p.B::p.fp,base≤k∧k<w.heap.size
 disj:∀ b p b' p',β b=some p→β b'=some p'→b≠b'→∀ k∈p.B::p.fp,k ∉ p'.B::p'.fp
structure Ext (nw:Nat) (β:Bm) (H:AH) (w:World) (β':Bm) (H':AH) (w':World):Prop where
 len:H.length≤H'.length
 keep:∀ b p,β b=some p→∀ k,H'[b]?=some (some k)→∃ p',β' b=some p'∧p'.B=p.B∧p'.sz=p.sz∧p'.es=p.es
 old:∀ b p',b<H.length→β' b=some p'→∃ p,β b=some p∧p'.B=p.B
 dead:∀ b:Nat,H[b]?=some none→H'[b]?=some none
 own:∀ b p,β' b=some p→∀ k∈p.B::p.fp,w.heap.size≤k∨∃ b0 p0,β b0=some p0∧k∈p0.B::p0.fp∧(b0=b∨nw≤b0)
 wsz:w.heap.size≤w'.heap.size
 os:w'.os=w.os
 tape:w'.tape=w.tape
 output:w'.output=w.output
 frame:∀ k,k<w.heap.size→(∀ b p,nw≤b→β b=some p→k ∉ p.B::p.fp)→w'.heap[k]?=w.heap[k]?
theorem Ext.refl (nw:Nat) (β:Bm) (H:AH) (w:World) (_:∀ b p,β b=some p→b<H.length):Ext nw β H w β H w :=
 ⟨Nat.le_refl _,fun _ p hb _ _=>⟨p,hb,rfl,rfl,rfl⟩,fun _ p _ hp=>⟨p,hp,rfl⟩,fun _ h=>h,fun b p hp _ hk=>.inr ⟨b,p,hp,hk,.inl rfl⟩,Nat.le_refl _,rfl,rfl,rfl,fun _ _ _=>rfl⟩
theorem SRel.lt {base:Nat} {β:Bm} {H:AH} {w:World} (h:SRel base β H w) {b:Nat} {p:Loc} (hb:β b=some p):b<H.length:=by
 obtain ⟨k,hk,_⟩:=h.blk b p hb
 exact (qI hk).1
theorem Ext.trans {nw:Nat} {β β1 β2:Bm} {H H1 H2:AH} {w w1 w2:World} {base:Nat} (s:SRel base β H w) (h:Ext nw β H w β1 H1 w1) (h2:Ext nw β1 H1 w1 β2 H2 w2):Ext nw β H w β2 H2 w2 where
 len:=Nat.le_trans h.len h2.len
 keep:=by
  intro b p hb k hk
  have hlt:=s.lt hb
  have h1:∃ k1,H1[b]?=some (some k1):=by
   have hb1:b<H1.length:=Nat.lt_of_lt_of_le hlt h.len
   cases hq:H1[b]? with
   | none=>simp at hq; omega
   | some q =>
    cases q with
    | none=>have:=h2.dead b hq; rw [hk] at this; cases this
    | some k1=>exact ⟨k1,rfl⟩
  obtain ⟨k1,hk1⟩:=h1
  obtain ⟨p1,hp1,e1,e2,e3⟩:=h.keep b p hb k1 hk1
  obtain ⟨p2,hp2,f1,f2,f3⟩:=h2.keep b p1 hp1 k hk
  exact ⟨p2,hp2,f1.trans e1,f2.trans e2,f3.trans e3⟩
 old:=by
  intro b p2 hb hp2
  obtain ⟨p1,hp1,e1⟩:=h2.old b p2 (Nat.lt_of_lt_of_le hb h.len) hp2
  obtain ⟨p,hp,e⟩:=h.old b p1 hb hp1
  exact ⟨p,hp,e1.trans e⟩
 dead:=fun b hb=>h2.dead b (h.dead b hb)
 own:=by
  intro b p hp k hk
  rcases h2.own b p hp k hk with hf | ⟨b1,p1,hp1,hk1,e1⟩
  ·exact .inl (Nat.le_trans h.wsz hf)
  ·rcases h.own b1 p1 hp1 k hk1 with hf | ⟨b0,p0,hp0,hk0,e0⟩
   ·exact .inl hf
   ·refine .inr ⟨b0,p0,hp0,hk0,?_⟩
    rcases e0 with rfl | e0
    ·exact e1
    ·exact .inr e0
 wsz:=Nat.le_trans h.wsz h2.wsz
 os:=h2.os.trans h.os
 tape:=h2.tape.trans h.tape
 output:=h2.output.trans h.output
 frame:=by
  intro k hk hf
  refine (h2.frame k (Nat.lt_of_lt_of_le hk h.wsz) ?_).trans (h.frame k hk hf)
  intro b p1 hn hp1 e
  rcases h.own b p1 hp1 k e with hfr | ⟨b0,p0,hp0,hk0,e0⟩
  ·omega
  ·refine hf b0 p0 ?_ hp0 hk0
   rcases e0 with rfl | e0
   ·exact hn
   ·exact e0
theorem Bm.off_ext {nw:Nat} {β β':Bm} {H H':AH} {w w':World} (h:Ext nw β H w β' H' w') {B:Nat} (hB:B<w.heap.size) (ho:β.off B):β'.off B:=by
 intro b p hp e
 rcases h.own b p hp B e with hf | ⟨b0,p0,hp0,hk0,_⟩
 ·omega
 ·exact ho b0 p0 hp0 hk0
theorem Ext.cell {nw:Nat} {β β':Bm} {H H':AH} {w w':World} (h:Ext nw β H w β' H' w') {B i:Nat} {cv:Value} (ho:β.off B) (hc:w.cell? ⟨B,i,none⟩=some cv):w'.cell? ⟨B,i,none⟩=some cv:=by
 have hB:B<w.heap.size:=World.block_lt_of_cell? w ⟨B,i,none⟩ hc
 rw [World.cell?_of_block (w:=w) (w':=w') (a:=⟨B,i,none⟩) (h.frame B hB fun b p _ hp=>ho b p hp)]
 exact hc
theorem VRel.ext {nw base:Nat} {β β':Bm} {H H':AH} {w w':World} (s:SRel base β H w) (h:Ext nw β H w β' H' w') {v:AV} {cv:Value} (hv:VRel w β (dead H) v cv):VRel w' β' (dead H') v cv:=by
 have live:∀ b p,β b=some p→dead H' b=some false∨∃ p',β' b=some p'∧p'.B=p.B∧p'.sz=p.sz∧p'.es=p.es:=by
  intro b p hb
  have hlt:=Nat.lt_of_lt_of_le (s.lt hb) h.len
  cases hq:H'[b]? with
  | none=>simp at hq; omega
  | some q =>
   cases q with
   | none=>exact .inl (G3.2 hq)
   | some k=>exact .inr (h.keep b p hb k hq)
 induction hv with
 | und=>exact .und
 | int=>exact .int
 | bool=>exact .bool
 | str=>exact .str
 | ptr hb =>
  rcases live _ _ hb with hd | ⟨p',hp',e,_⟩
  ·exact .ptrd hd rfl
  ·rw [← e]; exact .ptr hp'
 | ptrd hd h1=>exact .ptrd (G3.2 (h.dead _ (G3.1 hd))) h1
 | el cvs hB hm hc _ ih=>exact .el cvs (Nat.lt_of_lt_of_le hB h.wsz) (Bm.off_ext h hB hm) (fun i v hi=>⟨h.cell hm (hc i v hi).1,(hc i v hi).2⟩) ih
 | sl hb hn hm hc =>
  rcases live _ _ hb with hd | ⟨p',hp',e,e2,e3⟩
  ·exact .sld hd rfl
  ·rw [← e]; exact .sl hp' hn hm (by rw [e2,e3]; exact hc)
 | sl0 hi=>exact .sl0 (X8.2 (Nat.lt_of_lt_of_le (X8.1 hi) h.len))
 | sld hd h1=>exact .sld (G3.2 (h.dead _ (G3.1 hd))) h1
 | nils=>exact .nils
 | lst0=>exact .lst0
 | lst hl hn cvs hB hm hc _ ih=>exact .lst hl hn cvs (Nat.lt_of_lt_of_le hB h.wsz) (Bm.off_ext h hB hm) (fun i v hi=>⟨h.cell hm (hc i v hi).1,(hc i v hi).2⟩) ih
 | pv _ ih=>exact .pv ih
 | pv0=>exact .pv0
 | fn hs _ ih=>exact .fn hs ih
 | agg hs _ h1 ih=>exact .agg hs ih h1
 | tup hs _ ih=>exact .tup hs ih
theorem VRel.unpin {w:World} {β:Bm} {dd:Nat→Option Bool} {B off es n:Nat} {cells:List AV} {cv:Value} (h:VRel w β dd (.pv B off es cells n) cv):VRel w β dd (.lst false es cells n) cv:=by
 cases h with
 | pv h=>exact h
 | pv0=>exact .lst0
theorem VRel.pin {w:World} {β:Bm} {dd:Nat→Option Bool} {es n:Nat} {cells:List AV} {cv:Value} (h:VRel w β dd (.lst false es cells n) cv):∃ B off,VRel w β dd (.pv B off es cells n) cv:=by
 cases h with
 | lst0=>exact ⟨0,0,.pv0⟩
 | lst hl hn cvs hB hm hc hr=>exact ⟨_,_,.pv (.lst hl hn cvs hB hm hc hr)⟩
end Go.Proofs.YtldndhdohlfpgaaGreat.V
/- The abstract machine's operations that touch no memory of their own: their text, and that the model's operations come to what they say. -/
namespace Go.Proofs.YtldndhdohlfpgaaGreat.V
open Go
def szT (P:Program) (t:TypeId):Nat:=((P.info? t).map (·.size)).getD 0
def hasT (P:Program) (t:TypeId):Bool:=(P.info? t).isSome
def aggT (P:Program) (t:TypeId):Bool:=match P.underlying t with | some (.struct _) | some (.array _ _)=>true | _=>false
def undT (P:Program) (t:TypeId):Bool:=(P.underlying t).isSome
def fldT (P:Program) (t:TypeId):Option (List (Nat×TypeId)):=match P.underlying t with | some (.struct fs)=>some (fs.toList.map fun f=>(f.offset,f.type)) | _=>none
def elT (P:Program) (t:TypeId):Option TypeId:=match P.underlying t with | some (.slice e)=>some e | _=>none
def byT (P:Program) (t:TypeId):Nat:=((P.info? t).map (·.bytes)).getD 0
def cstC:Value→AV
 | .int k n=>.int k n
 | .bool b=>.bool b
 | .string s=>.str s.data.toList
 | .slice none 0 0=>.nils
 | _=>.und
def cst:Value→AV
 | .agg cs=>if cs.all (·.oneCell') then .agg (cs.toList.map cstC) else .und
 | v=>cstC v
section
variable {w:World} {β:Bm} {dd:Nat→Option Bool}
theorem A3o (v:Value):VRel w β dd (cstC v) v:=by
 unfold cstC
 split
 ·exact .int
 ·exact .bool
 ·exact .str
 ·exact .nils
 ·exact .und
theorem A5c (v:Value):VRel w β dd (cst v) v:=by
 unfold cst
 split
 ·rename_i cs
  split
  ·rename_i hall
   refine .agg (by simp) ?_ ?_
   ·intro i v cv hv hcv
    simp only [List.getElem?_map,Array.getElem?_toList,hcv,Option.map_some,qS] at hv
    subst hv
    exact A3o _
   ·intro i cv hcv
    exact (Array.all_eq_true'.1 hall) cv (Array.mem_of_getElem? hcv)
  ·exact .und
 ·exact A3o v
end
def zeroT (P:Program) (t:TypeId):Option (List AV):=match (P.info? t).bind (·.zero) with | some z=>(match cst z with | .agg cs=>some cs | .und=>(match z with | .pointer none=>some [.und] | _=>none) | v=>some [v]) | none=>none
abbrev Asg:=List (Nat×AV)
def get:Asg→Nat→Option AV
 | [],_=>none
 | (t,v)::r,x=>if x=t then some v else get r x
theorem get_cons (t:Nat) (v:AV) (r:Asg) (x:Nat):get ((t,v)::r) x=if x=t then some v else get r x:=rfl
def aev (a:Asg):Operand→Option AV
 | .tmp t=>get a t
 | .const v=>some (cst v)
 | .func f=>some (.fn f [])
 | .global _=>none
structure TRel (N:Nat) (w:World) (β:Bm) (dd:Nat→Option Bool) (a:Asg) (ca:Act):Prop where
 defers:ca.defers=[]
 size:ca.tmps.size=N
 get:∀ t v,get a t=some v→t<N∧VRel w β dd v (ca.tmps.getD t undef)
section
variable {N:Nat} {w:World} {β:Bm} {dd:Nat→Option Bool} {a:Asg} {ca:Act}
theorem TRel.aev (h:TRel N w β dd a ca) {x:Operand} {v:AV} (hx:aev a x=some v):VRel w β dd v (ca.eval x):=by
 cases x with
 | tmp t=>exact (h.get t v hx).2
 | const c=>simp only [V.aev,qS] at hx; subst hx; exact A5c c
 | func f=>simp only [V.aev,qS] at hx; subst hx; exact .fn (by simp) (by simp)
 | global g=>simp [V.aev] at hx
theorem TRel.put (h:TRel N w β dd a ca) {d:Nat} (hd:d<N) {v:AV} {cv:Value} (hv:VRel w β dd v cv):TRel N w β dd ((d,v)::a) (ca.put (some d) cv):=by
 refine ⟨h.defers,by simp [Act.put,h.size],?_⟩
 intro t u ht
 simp only [V.get_cons] at ht
 by_cases e:t=d
 ·subst e
  simp only [if_true,qS] at ht
  subst ht
  refine ⟨hd,?_⟩
  have:(ca.put (some t) cv).tmps.getD t undef=cv:=by simp [Act.put,Array.getD,h.size,hd]
  rw [this]
  exact hv
 ·simp only [e,if_false] at ht
  obtain ⟨h1,h2⟩:=h.get t u ht
  refine ⟨h1,?_⟩
  have:(ca.put (some d) cv).tmps.getD t undef=ca.tmps.getD t undef:=by
   simp only [Act.put,Array.getD_eq_getD_getElem?,Array.getElem?_setIfInBounds_ne (fun x=>e x.symm)]
  rw [this]
  exact h2
end
def AV.one:AV→Bool
 | .und | .agg _ | .tup _=>false
 | _=>true
theorem VRel.one {w:World} {β:Bm} {dd:Nat→Option Bool} {v:AV} {cv:Value} (h:VRel w β dd v cv) (hv:v.one=true):cv.oneCell'=true:=by
 cases h <;> first | rfl | (simp [AV.one] at hv; done) | assumption
def AV.hide:AV→AV
 | .lst true _ _ _=>.und
 | .pv _ _ es cells n=>.lst false es cells n
 | v=>v
def AV.cells:AV→List AV
 | .agg cs=>cs
 | v=>[v]
structure LRel (w:World) (β:Bm) (dd:Nat→Option Bool) (vs:List AV) (cvs:List Value):Prop where
 len:vs.length=cvs.length
 rel:∀ (i:Nat) v cv,vs[i]?=some v→cvs[i]?=some cv→VRel w β dd v cv
 one:∀ cv∈cvs,cv.oneCell'=true
section
variable {w:World} {β:Bm} {dd:Nat→Option Bool}
theorem LRel.nil:LRel w β dd [] []:=⟨rfl,by simp,by simp⟩
theorem LRel.cons {v:AV} {cv:Value} {vs:List AV} {cvs:List Value} (h:VRel w β dd v cv) (h1:cv.oneCell'=true) (hs:LRel w β dd vs cvs):LRel w β dd (v::vs) (cv::cvs):=by
 refine ⟨by simp [hs.len],?_,?_⟩
 ·intro i u cu hu hcu
  cases i with
  | zero=>simp at hu hcu; subst hu; subst hcu; exact h
  | succ i=>simp at hu hcu; exact hs.rel i u cu hu hcu
 ·intro c hc
  simp at hc
  rcases hc with rfl | hc
  ·exact h1
  ·exact hs.one c hc
theorem LRel.append {vs us:List AV} {cvs cus:List Value} (h:LRel w β dd vs cvs) (h2:LRel w β dd us cus):LRel w β dd (vs++us) (cvs++cus):=by
 refine ⟨by simp [h.len,h2.len],?_,?_⟩
 ·intro i v cv hv hcv
  by_cases hi:i<vs.length
  ·rw [List.getElem?_append_left hi] at hv
   rw [List.getElem?_append_left (h.len ▸ hi)] at hcv
   exact h.rel i v cv hv hcv
  ·rw [List.getElem?_append_right (by omega)] at hv
   rw [List.getElem?_append_right (by have:=h.len; omega),← h.len] at hcv
   exact h2.rel _ v cv hv hcv
 ·intro c hc
  rcases List.mem_append.1 hc with hc | hc
  ·exact h.one c hc
  ·exact h2.one c hc
theorem LRel.take {vs:List AV} {cvs:List Value} (h:LRel w β dd vs cvs) (n:Nat):LRel w β dd (vs.take n) (cvs.take n):=by
 refine ⟨by simp [h.len],?_,fun c hc=>h.one c (List.mem_of_mem_take hc)⟩
 intro i v cv hv hcv
 rw [List.getElem?_take] at hv hcv
 by_cases hi:i<n
 ·simp [hi] at hv hcv; exact h.rel i v cv hv hcv
 ·simp [hi] at hv
theorem LRel.drop {vs:List AV} {cvs:List Value} (h:LRel w β dd vs cvs) (n:Nat):LRel w β dd (vs.drop n) (cvs.drop n):=by
 refine ⟨by simp [h.len],?_,fun c hc=>h.one c (List.mem_of_mem_drop hc)⟩
 intro i v cv hv hcv
 rw [List.getElem?_drop] at hv hcv
 exact h.rel _ v cv hv hcv
theorem VRel.cells {v:AV} {cv:Value} (h:VRel w β dd v cv) (h1:v.one=true∨∃ cs,v=.agg cs):LRel w β dd v.cells cv.cells.toList:=by
 rcases h1 with h1 | ⟨cs,rfl⟩
 ·have hc:cv.cells=#[cv]:=by
   have:=h.one h1
   cases cv <;> first | rfl | (simp [Value.oneCell'] at this; done)
  have hv:v.cells=[v]:=by cases v <;> first | rfl | (simp [AV.one] at h1; done)
  rw [hc,hv]
  exact LRel.cons h (h.one h1) .nil
 ·cases h with
  | agg hs hr h1 =>
   refine ⟨by simpa [AV.cells,Value.cells] using hs,?_,?_⟩
   ·intro i u cu hu hcu
    exact hr i u cu hu (by simpa [Value.cells] using hcu)
   ·intro c hc
    simp [Value.cells] at hc
    obtain ⟨i,hi⟩:=Array.mem_iff_getElem?.1 hc
    exact h1 i c hi
theorem LRel.agg {vs:List AV} {cvs:List Value} (h:LRel w β dd vs cvs):VRel w β dd (.agg vs) (.agg cvs.toArray) :=
 .agg (by simp [h.len]) (fun i v cv hv hcv=>h.rel i v cv hv (by simpa using hcv)) (fun i cv hcv=>h.one cv (qM (by simpa using hcv)))
end
end Go.Proofs.YtldndhdohlfpgaaGreat.V
/- The abstract machine's operations that touch no memory of their own: their text, and that the model's operations come to what they say. -/
namespace Go.Proofs.YtldndhdohlfpgaaGreat.V
open Go
def aint (op:BinOp) (k:IntKind) (x y:Int):Option AV :=
 match op with
 | .add=>some (.int k (k.wrap (x+y)))
 | .sub=>some (.int k (k.wrap (x - y)))
 | .mul=>some (.int k (k.wrap (x*y)))
 | .quo=>if y=0 then none else some (.int k (k.wrap (x.tdiv y)))
 | .rem=>if y=0 then none else some (.int k (x.tmod y))
 | .and=>some (.int k (k.wrap (BitVec.ofInt k.bits x &&& BitVec.ofInt k.bits y).toNat))
 | .or=>some (.int k (k.wrap (BitVec.ofInt k.bits x ||| BitVec.ofInt k.bits y).toNat))
 | .xor=>some (.int k (k.wrap (BitVec.ofInt k.bits x ^^^ BitVec.ofInt k.bits y).toNat))
 | .eql=>some (.bool (x==y))
 | .neq=>some (.bool (x != y))
 | .lss=>some (.bool (decide (x<y)))
 | .leq=>some (.bool (decide (x≤y)))
 | .gtr=>some (.bool (decide (x>y)))
 | .geq=>some (.bool (decide (x≥y)))
 | _=>none
def ashift (op:BinOp) (k:IntKind) (x y:Int):Option AV :=
 if y<0 then none else
 match op with
 | .shl=>some (.int k (k.wrap (x*2 ^ (min y.toNat k.bits))))
 | .shr=>some (.int k (x.fdiv (2 ^ (min y.toNat k.bits))))
 | _=>none
def astr (op:BinOp) (x y:List UInt8):Option AV :=
 match op with
 | .add=>if x.length+y.length≤4611686018427387904 then some (.str (x++y)) else none
 | .eql=>some (.bool (x==y))
 | .neq=>some (.bool (!(x==y)))
 | .lss=>some (.bool (Op.bytesLess x y))
 | .leq=>some (.bool (Op.bytesLess x y||x==y))
 | .gtr=>some (.bool (!(Op.bytesLess x y||x==y)))
 | .geq=>some (.bool (!(Op.bytesLess x y)))
 | _=>none
def apart (P:Program) (t:TypeId) (cs:List AV) (off:Nat):Option AV :=
 if undT P t&&hasT P t then (if aggT P t then some (.agg ((cs.drop off).take (szT P t))) else cs[off]?) else none
def aeqFs (P:Program) (eq:TypeId→AV→AV→Option Bool) (xs ys:List AV):List Field→Option Bool
 | []=>some true
 | f::fs =>
  if f.name ≠ "_" then
   match apart P f.type xs f.offset,apart P f.type ys f.offset with
   | some x,some y=>match eq f.type x y,aeqFs P eq xs ys fs with
    | some a,some b=>some (a&&b)
    | _,_=>none
   | _,_=>none
  else none
def aeq (P:Program):Nat→TypeId→AV→AV→Option Bool
 | 0,_,_,_=>none
 | d+1,t,x,y =>
  match P.underlying t,x,y with
  | some .bool,.bool a,.bool b=>some (a==b)
  | some (.int _),.int k a,.int k' b=>if k=k' then some (a==b) else none
  | some .string,.str a,.str b=>some (a==b)
  | some (.struct fs),.agg xs,.agg ys=>if P.stoodInHeld t then none else aeqFs P (aeq P d) xs ys fs.toList
  | _,_,_=>none
def abin (P:Program) (op:BinOp) (T:TypeId) (x y:AV):Option AV :=
 match x,y with
 | .int k a,.int k' b=>if op=.shl∨op=.shr then ashift op k a b else if k=k' then aint op k a b else none
 | .str a,.str b=>astr op a b
 | .bool _,.bool _=>if op=.eql then (aeq P 10000 T x y).map .bool else if op=.neq then (aeq P 10000 T x y).map fun b=>.bool (!b) else none
 | .agg _,.agg _=>if P.eqGuardType P.depth T then none else if op=.eql then (aeq P 10000 T x y).map .bool else if op=.neq then (aeq P 10000 T x y).map fun b=>.bool (!b) else none
 | _,_=>none
def aun (op:UnOp) (x:AV):Option AV :=
 match op,x with
 | .not,.bool b=>some (.bool (!b))
 | .neg,.int k n=>some (.int k (k.wrap (0 - n)))
 | _,_=>none
def byteOf:AV→Option UInt8
 | .int .u8 n=>some (UInt8.ofNat n.toNat)
 | _=>none
def bytesOf:List AV→Option (List UInt8)
 | []=>some []
 | c::cs=>match byteOf c,bytesOf cs with | some b,some bs=>some (b::bs) | _,_=>none
def aconv (P:Program) (src dst:TypeId) (x:AV):Option AV :=
 match P.underlying src,P.underlying dst,x with
 | some _,some (.int k),.int _ n=>some (.int k (k.wrap n))
 | some _,some .string,.str s=>some (.str s)
 | some (.slice e),some .string,.lst _ es cells _=>match P.underlying e with
  | some (.int .u8)=>if es=1 then (bytesOf cells).map .str else none
  | _=>none
 | some (.slice e),some .string,.nils=>match P.underlying e with
  | some (.int .u8)=>some (.str [])
  | _=>none
 | _,_,_=>none
def abnd (n:Nat) (lo hi:Option AV):Option (Nat×Nat) :=
 match (match lo with | none=>some 0 | some (.int _ l)=>some l | _=>none),(match hi with | none=>some (n:Int) | some (.int _ h)=>some h | _=>none) with
 | some l,some h=>if 0≤l∧l≤h∧h≤(n:Int) then some (l.toNat,h.toNat) else none
 | _,_=>none
def liveB (H:AH) (b:Nat):Bool:=match H[b]? with | some (some _)=>true | _=>false
def aslice (P:Program) (H:AH) (T:TypeId) (x:AV) (lo hi mx:Option AV):Option AV :=
 match mx with
 | none=>match P.underlying T,x with
  | some .string,.str s=>(abnd s.length lo hi).map fun (l,h)=>.str ((s.take h).drop l)
  | some (.slice e),.lst _ es cells n=>if szT P e=es&&hasT P e then (abnd n lo hi).map fun (l,h)=>.lst false es ((cells.take (h*es)).drop (l*es)) (h - l) else none
  | some (.slice e),.sl b off n=>if liveB H b&&(0<szT P e&&hasT P e) then (abnd n lo hi).map fun (l,h)=>.sl b (off+l*szT P e) (h - l) else none
  | some (.slice e),.nils=>if hasT P e then (abnd 0 lo hi).map fun _=>.nils else none
  | _,_=>none
 | some (.int _ 0)=>match lo,hi,P.underlying T,x with
  | none,some (.int _ 0),some (.slice e),.lst _ _ _ _=>if hasT P e then some .nils else none
  | none,some (.int _ 0),some (.slice e),.sl b _ _=>if liveB H b&&hasT P e then some .nils else none
  | none,some (.int _ 0),some (.slice e),.nils=>if hasT P e then some .nils else none
  | _,_,_,_=>none
 | _=>none
def aidx (P:Program) (H:AH) (T:TypeId) (x ix:AV):Option AV :=
 match P.underlying T,x,ix with
 | some (.slice e),.sl b off n,.int _ i=>if (0≤i∧i<(n:Int))∧(hasT P e=true∧liveB H b=true) then some (.ptr b (off+i.toNat*szT P e)) else none
 | some (.slice e),.lst _ _ cells n,.int _ i=>if (0≤i∧i<(n:Int))∧hasT P e=true then some (.el cells (i.toNat*szT P e)) else none
 | some (.slice e),.pv _ _ _ cells n,.int _ i=>if (0≤i∧i<(n:Int))∧hasT P e=true then some (.el cells (i.toNat*szT P e)) else none
 | _,_,_=>none
def afld (P:Program) (H:AH) (s:TypeId) (x:AV) (f:Nat):Option AV :=
 match fldT P s with
 | some fs=>match fs[f]? with
  | some (o,t)=>if szT P t≠0 then (match x with | .ptr b off=>if liveB H b then some (.ptr b (off+o)) else none | .el cells off=>some (.el cells (off+o)) | _=>none) else none
  | none=>none
 | none=>none
def aloadEl (P:Program) (t:TypeId) (cells:List AV) (off:Nat):Option AV :=
 if undT P t&&hasT P t then (if aggT P t then (if off+szT P t≤cells.length then some (.agg ((cells.drop off).take (szT P t))) else none) else cells[off]?) else none
def aix (P:Program) (T:TypeId) (x ix:AV):Option AV :=
 match P.underlying T,x,ix with
 | some .string,.str s,.int _ i=>if 0≤i then (s[i.toNat]?).map fun b=>.int .u8 b.toNat else none
 | _,_,_=>none
def afield (P:Program) (T:TypeId) (x:AV) (f:Nat):Option AV :=
 match fldT P T,x with
 | some fs,.agg cs=>match fs[f]? with
  | some (o,t)=>if o+szT P t≤cs.length then apart P t cs o else none
  | none=>none
 | _,_=>none
def AV.isAgg:AV→Bool | .agg _=>true | _=>false
def splice (cells:List AV) (off:Nat) (vs:List AV):List AV:=cells.take off++vs++cells.drop (off+vs.length)
def afill (place:Nat→Option (Nat×Nat)):List AV→List (Nat×AV)→Option (List AV)
 | cells,[]=>some cells
 | cells,(i,v)::rest =>
  match place i with
  | none=>none
  | some (off,size) =>
   if v.cells.length=size∧off+size≤cells.length∧(v.one||v.isAgg)=true then afill place (splice cells off v.cells) rest else none
def abuild (P:Program) (t:TypeId) (parts:List (Nat×AV)):Option AV :=
 match fldT P t,zeroT P t with
 | some fs,some z=>if fs.all fun f=>hasT P f.2 then (afill (fun i=>(fs[i]?).map fun f=>(f.1,szT P f.2)) z parts).map .agg else none
 | _,_=>none
def alen (P:Program) (H:AH) (T:TypeId) (x:AV):Option AV :=
 match P.underlying T,x with
 | some .string,.str s=>some (.int .i64 s.length)
 | some (.slice _),.sl b _ n=>if liveB H b then some (.int .i64 n) else none
 | some (.slice _),.lst _ _ _ n=>some (.int .i64 n)
 | some (.slice _),.pv _ _ _ _ n=>some (.int .i64 n)
 | some (.slice _),.nils=>some (.int .i64 0)
 | _,_=>none
def aparts (a:Asg):List (Nat×Operand)→Option (List (Nat×AV))
 | []=>some []
 | (i,x)::r=>match aev a x,aparts a r with | some v,some vs=>some ((i,v)::vs) | _,_=>none
def aevs (a:Asg):List Operand→Option (List AV)
 | []=>some []
 | x::r=>match aev a x,aevs a r with | some v,some vs=>some (v::vs) | _,_=>none
def aevo (a:Asg):Option Operand→Option (Option AV)
 | none=>some none
 | some x=>(aev a x).map some
def afree (P:Program) (a:Asg) (o:Oper):Option AV :=
 match o.op with
 | .move x=>aev a x
 | .assign x=>aev a x
 | .pick c x y=>match aev a c with | some (.bool true)=>aev a x | some (.bool false)=>aev a y | _=>none
 | .binOp op T x y _=>match aev a x,aev a y with | some x,some y=>abin P op T x y | _,_=>none
 | .unOp op _ x=>(aev a x).bind (aun op)
 | .convert s d x=>(aev a x).bind (aconv P s d)
 | .makeFunc (.func f) first captured=>if first.size=0 then (aevs a captured.toList).map (.fn f) else none
 | .field T x f=>(aev a x).bind fun x=>afield P T x f
 | .index T x ix=>match aev a x,aev a ix with | some x,some i=>aix P T x i | _,_=>none
 | .extract x i=>match aev a x with | some (.tup vs)=>vs[i]? | _=>none
 | .build T parts=>(aparts a parts.toList).bind (abuild P T)
 | .call { callee:=.builtin .min,args,argTypes:=_ }=>match args.toList with | [x,y]=>(match aev a x,aev a y with | some (.int k m),some (.int _ n)=>some (.int k (if n<m then n else m)) | _,_=>none) | _=>none
 | .call { callee:=.builtin .max,args,argTypes:=_ }=>match args.toList with | [x,y]=>(match aev a x,aev a y with | some (.int k m),some (.int _ n)=>some (.int k (if n>m then n else m)) | _,_=>none) | _=>none
 | _=>none
def aread (P:Program) (H:AH) (a:Asg) (o:Oper):Option AV :=
 match o.op with
 | .slice T x lo hi mx=>match aev a x,aevo a lo,aevo a hi,aevo a mx with | some x,some lo,some hi,some mx=>aslice P H T x lo hi mx | _,_,_,_=>none
 | .fieldAddr s x f=>(aev a x).bind fun x=>afld P H s x f
 | .indexAddr T x ix=>match aev a x,aev a ix with | some x,some i=>aidx P H T x i | _,_=>none
 | .load t x=>match aev a x with
  | some (.el cells off)=>aloadEl P t cells off
  | some (.ptr b off)=>(match H[b]? with | some (some k)=>aloadEl P t (k.cells.map AV.hide) off | _=>none)
  | _=>none
 | .nilCheck x=>match aev a x with | some (.ptr b off)=>if liveB H b then some (.ptr b off) else none | some (.el cells off)=>some (.el cells off) | _=>none
 | .call { callee:=.builtin .len,args,argTypes }=>match args.toList,argTypes.toList with | [x],[t]=>(aev a x).bind (alen P H t) | _,_=>none
 | .convert s d x=>match aev a x,P.underlying s,P.underlying d with
  | some (.sl b off n),some (.slice e),some .string=>(match H[b]?,P.underlying e with
   | some (some k),some (.int .u8)=>if k.es=1∧off+n≤k.cells.length then (bytesOf ((k.cells.drop off).take n)).map .str else none
   | _,_=>none)
  | _,_,_=>none
 | _=>none
end Go.Proofs.YtldndhdohlfpgaaGreat.V
/- The model's operations come to what the abstract machine's free operations say. -/
namespace Go.Proofs.YtldndhdohlfpgaaGreat.V
open Go
section
variable {P:Program} {w:World} {β:Bm} {dd:Nat→Option Bool}
theorem lenL {s:List UInt8}:(ByteArray.mk ⟨s⟩).size=s.length:=rfl
theorem A7u {op:BinOp} {k:IntKind} {x y:Int} {v:AV} (h:aint op k x y=some v) (hs:¬ (op=.shl∨op=.shr)) (T:TypeId) :
  ∃ cv,(binOp op T (.int k x) (.int k y)).run P w=.ok cv w∧VRel w β dd v cv:=by
 cases op <;> simp only [aint,qS,reduceCtorEq] at h
 case add | sub | mul=>subst h; exact ⟨_,by simp only [binOp,ne_eq,not_true_eq_false,if_false,Op.intArith]; rfl,.int⟩
 case quo | rem =>
  split at h
  ·cases h
  ·rename_i hy
   simp only [qS] at h
   subst h
   exact ⟨_,by simp only [binOp,ne_eq,not_true_eq_false,if_false,Op.intDiv]; rw [if_neg hy]; rfl,.int⟩
 case and | or | xor=>subst h; exact ⟨_,by simp only [binOp,ne_eq,not_true_eq_false,if_false,Op.intBits]; rfl,.int⟩
 case eql | neq | lss | leq | gtr | geq=>subst h; exact ⟨_,by simp only [binOp,ne_eq,not_true_eq_false,if_false,Op.intCmp]; rfl,.bool⟩
theorem A4v {op:BinOp} {k k':IntKind} {x y:Int} {v:AV} (h:ashift op k x y=some v) (T:TypeId) :
  ∃ cv,(binOp op T (.int k x) (.int k' y)).run P w=.ok cv w∧VRel w β dd v cv:=by
 unfold ashift at h
 split at h
 ·cases h
 ·rename_i hy
  cases op <;> simp only [qS,reduceCtorEq] at h
  ·subst h; exact ⟨_,by simp [binOp,Op.shift,hy]; rfl,by constructor⟩
  ·subst h; exact ⟨_,by simp [binOp,Op.shift,hy]; rfl,by constructor⟩
theorem A8f {op:BinOp} {x y:List UInt8} {v:AV} (h:astr op x y=some v) (T:TypeId) :
  ∃ cv,(binOp op T (.string ⟨⟨x⟩⟩) (.string ⟨⟨y⟩⟩)).run P w=.ok cv w∧VRel w β dd v cv:=by
 have hb:∀ z:List UInt8,(ByteArray.mk ⟨z⟩).toList=z:=fun z=>ByteArray.toList_mk z
 cases op <;> simp only [astr,qS,reduceCtorEq] at h
 case add =>
  split at h
  ·rename_i hl
   simp only [qS] at h
   subst h
   refine ⟨.string (⟨⟨x⟩⟩++⟨⟨y⟩⟩),?_,?_⟩
   ·have:¬ (((ByteArray.mk ⟨x⟩).size+(ByteArray.mk ⟨y⟩).size:Nat):Int)>IntKind.i64.max:=by
     rw [lenL,lenL]
     have hm:IntKind.i64.max=9223372036854775807:=by decide
     rw [hm]; omega
    simp only [binOp,Op.stringOp]
    rw [if_neg this]
    rfl
   ·have e:(ByteArray.mk ⟨x⟩++ByteArray.mk ⟨y⟩)=ByteArray.mk ⟨x++y⟩:=by
     apply ByteArray.ext
     simp
    rw [e]
    exact .str
  ·cases h
 all_goals (subst h; exact ⟨_,by simp only [binOp,Op.stringOp,hb]; rfl,by constructor⟩)
end
end Go.Proofs.YtldndhdohlfpgaaGreat.V
/- The model's operations come to what the abstract machine's free operations say: structs, comparisons, conversions. -/
namespace Go.Proofs.YtldndhdohlfpgaaGreat.V
open Go
section
variable {P:Program} {w:World} {β:Bm} {dd:Nat→Option Bool}
theorem Tu {t:TypeId} (h:undT P t=true):(isAgg t).run P w=.ok (aggT P t) w:=by
 unfold undT at h
 obtain ⟨d,hd⟩:=Option.isSome_iff_exists.1 h
 unfold isAgg aggT
 simp only [Sem.run_bind,run_underlying hd,Result.andThen_ok,hd]
 cases d <;> rfl
theorem V4 {t:TypeId} (h:hasT P t=true):(sizeOf t).run P w=.ok (szT P t) w:=by
 unfold hasT at h
 obtain ⟨i,hi⟩:=Option.isSome_iff_exists.1 h
 simp [sizeOf,typeInfo,hi,szT]
theorem VRel.aggL {vs:List AV} {cv:Value} (h:VRel w β dd (.agg vs) cv):∃ cvs:Array Value,cv=.agg cvs∧LRel w β dd vs cvs.toList:=by
 cases h with
 | agg hs hr h1 =>
  rename_i cvs
  exact ⟨cvs,rfl,by simpa using hs,fun i v cv hv hcv=>hr i v cv hv (by simpa using hcv),fun c hc=>by
   obtain ⟨i,hi⟩:=List.getElem?_of_mem hc
   exact h1 i c (by simpa using hi)⟩
theorem LRel.get {vs:List AV} {cvs:List Value} (h:LRel w β dd vs cvs) {i:Nat} {v:AV} (hv:vs[i]?=some v):∃ cv,cvs[i]?=some cv∧VRel w β dd v cv∧cv.oneCell'=true:=by
 have hi:i<cvs.length:=by rw [← h.len]; exact (qI hv).1
 exact ⟨cvs[i],qG hi,h.rel i v _ hv (qG hi),h.one _ (List.getElem_mem hi)⟩
theorem Zm {t:TypeId} {cs:List AV} {ccs:Array Value} {off:Nat} {x:AV} (h:apart P t cs off=some x) (hl:LRel w β dd cs ccs.toList) :
  ∃ cx,(part t ccs off).run P w=.ok cx w∧VRel w β dd x cx:=by
 unfold apart at h
 split at h
 ·rename_i hc
  simp only [Bool.and_eq_true] at hc
  simp only [part,Sem.run_bind,Tu hc.1,Result.andThen_ok]
  split at h
  ·rename_i ha
   simp only [qS] at h
   subst h
   refine ⟨.agg (ccs.extract off (off+szT P t)),?_,?_⟩
   ·simp only [ha,if_true,Sem.run_bind,V4 hc.2,Result.andThen_ok,Sem.run_pure]
   ·have:=((hl.drop off).take (szT P t)).agg
    have e:(ccs.extract off (off+szT P t))=((ccs.toList.drop off).take (szT P t)).toArray:=by
     apply Array.ext'
     simp
    rw [e]
    exact this
  ·rename_i ha
   obtain ⟨cv,hcv,hr,_⟩:=hl.get h
   refine ⟨cv,?_,hr⟩
   have:ccs[off]?=some cv:=by simpa using hcv
   simp only [ha,this]
   rfl
 ·cases h
theorem A2p:∀ (d:Nat) (t:TypeId) (x y:AV) (cx cy:Value) (b:Bool),aeq P d t x y=some b→VRel w β dd x cx→VRel w β dd y cy→(Op.equalIn d t cx cy).run P w=.ok b w:=by
 intro d
 induction d with
 | zero=>intro t x y cx cy b h; simp [aeq] at h
 | succ d ih =>
  intro t x y cx cy b h hx hy
  simp only [aeq] at h
  split at h
  ·rename_i a a' hu
   cases hx; cases hy
   simp only [qS] at h
   subst h
   exact run_equalIn_bool w d t a a' hu
  ·rename_i k0 k a k' a' hu
   cases hx; cases hy
   split at h
   ·rename_i hk
    subst hk
    simp only [qS] at h
    subst h
    exact run_equalIn_int w d t k k0 a a' hu
   ·cases h
  ·rename_i a a' hu
   cases hx; cases hy
   simp only [qS] at h
   subst h
   have:=run_equalIn_string (P:=P) w d t ⟨⟨a⟩⟩ ⟨⟨a'⟩⟩ hu
   rwa [ByteArray.toList_mk,ByteArray.toList_mk] at this
  ·rename_i fs xs ys hu
   obtain ⟨cxs,rfl,lx⟩:=hx.aggL
   obtain ⟨cys,rfl,ly⟩:=hy.aggL
   split at h
   ·cases h
   ·rename_i hp
    have hf:P.fieldsOf t=fs:=by simp [Program.fieldsOf,hu]
    rw [run_equalIn_struct w d t cxs cys (by rw [hf]; exact hu) (by simpa using hp),hf]
    generalize fs.toList=l at h
    clear hf hu
    induction l generalizing b with
    | nil=>simp only [aeqFs,qS] at h; subst h; rfl
    | cons f fl ihl =>
     simp only [aeqFs] at h
     split at h
     ·rename_i hn
      split at h
      ·rename_i px py hpx hpy
       split at h
       ·rename_i a c ha hc
        simp only [qS] at h
        subst h
        obtain ⟨cpx,hrx,hvx⟩:=Zm (P:=P) hpx lx
        obtain ⟨cpy,hry,hvy⟩:=Zm (P:=P) hpy ly
        have h1:=ih f.type px py cpx cpy a ha hvx hvy
        have h2:=ihl c hc
        simp only [Op.eqFields,Sem.run_ite,Sem.run_bind,hrx,hry,h1,Result.andThen_ok]
        rw [if_pos hn]
        cases a
        ·simp
        ·simp [h2]
       ·cases h
      ·cases h
     ·cases h
  ·cases h
theorem Fw {op:BinOp} {T:TypeId} {x y:Operand} {a b:Value} (h:∀ xs,a≠.agg xs) (h2:a≠.nilIface):(eqGuard op T x y a b).run P w=.ok () w:=by
 cases a <;> first | (exact absurd rfl h2) | (exact absurd rfl (h _)) | (cases op <;> rfl)
theorem A7k {op:BinOp} {T:TypeId} {x y:AV} {cx cy:Value} {v:AV} {ox oy:Operand} (h:abin P op T x y=some v) (hx:VRel w β dd x cx) (hy:VRel w β dd y cy) :
  ∃ cv,(eqGuard op T ox oy cx cy).run P w=.ok () w∧(binOp op T cx cy).run P w=.ok cv w∧VRel w β dd v cv:=by
 unfold abin at h
 split at h
 ·cases hx; cases hy
  rename_i k a k' b
  refine Exists.imp (fun cv hh=>⟨Fw (by simp) (by simp),hh⟩) ?_
  split at h
  ·exact A4v h T
  ·rename_i hs
   split at h
   ·rename_i hk; subst hk; exact A7u h hs T
   ·cases h
 ·cases hx; cases hy
  exact Exists.imp (fun cv hh=>⟨Fw (by simp) (by simp),hh⟩) (A8f h T)
 ·rename_i a b
  cases hx; cases hy
  have key:∀ r,aeq P 10000 T (.bool a) (.bool b)=some r→(Op.equal T (.bool a) (.bool b)).run P w=.ok r w:=fun r hr=>A2p (β:=β) (dd:=dd) 10000 T _ _ _ _ r hr .bool .bool
  split at h
  ·rename_i ho
   subst ho
   simp only [Option.map_eq_some_iff] at h
   obtain ⟨r,hr,rfl⟩:=h
   exact ⟨.bool r,Fw (by simp) (by simp),by simp [binOp,key r hr],.bool⟩
  ·split at h
   ·rename_i ho
    subst ho
    simp only [Option.map_eq_some_iff] at h
    obtain ⟨r,hr,rfl⟩:=h
    exact ⟨.bool (!r),Fw (by simp) (by simp),by simp [binOp,key r hr],.bool⟩
   ·cases h
 ·rename_i xs ys
  obtain ⟨cxs,rfl,lx⟩:=hx.aggL
  obtain ⟨cys,rfl,ly⟩:=hy.aggL
  split at h
  ·cases h
  ·rename_i hg
   have hg':(eqGuard op T ox oy (.agg cxs) (.agg cys)).run P w=.ok () w:=run_eqGuard_agg w op T ox oy cxs cys (by simpa using hg)
   split at h
   ·rename_i ho
    subst ho
    simp only [Option.map_eq_some_iff] at h
    obtain ⟨r,hr,rfl⟩:=h
    exact ⟨.bool r,hg',by rw [run_eql_struct,A2p 10000 T _ _ _ _ r hr hx hy]; rfl,.bool⟩
   ·split at h
    ·rename_i ho
     subst ho
     simp only [Option.map_eq_some_iff] at h
     obtain ⟨r,hr,rfl⟩:=h
     exact ⟨.bool (!r),hg',by rw [run_neq_struct,A2p 10000 T _ _ _ _ r hr hx hy]; rfl,.bool⟩
    ·cases h
 ·cases h
theorem A8y {op:UnOp} {x v:AV} {cx:Value} (h:aun op x=some v) (hx:VRel w β dd x cx):∃ cv,(Op.unary op cx).run P w=.ok cv w∧VRel w β dd v cv:=by
 unfold aun at h
 split at h
 ·cases hx
  simp only [qS] at h
  subst h
  exact ⟨_,rfl,.bool⟩
 ·cases hx
  simp only [qS] at h
  subst h
  exact ⟨_,by simp [Op.unary,Op.intArith]; rfl,by simp; exact .int⟩
 ·cases h
end
end Go.Proofs.YtldndhdohlfpgaaGreat.V
/- The model's operations come to what the abstract machine says: conversions, cuts, places, fields, loads, struct values, lengths. -/
namespace Go.Proofs.YtldndhdohlfpgaaGreat.V
open Go
section
variable {P:Program} {w:World} {β:Bm} {dd:Nat→Option Bool}
theorem Kc:∀ (cs:List AV) (bs:List UInt8),bytesOf cs=some bs→∃ ns:List Int,cs=ns.map (AV.int .u8)∧bs=ns.map fun n=>UInt8.ofNat n.toNat
 | [],bs,h=>by simp [bytesOf] at h; subst h; exact ⟨[],rfl,rfl⟩
 | c::cs,bs,h=>by
  simp only [bytesOf] at h
  split at h
  ·rename_i b bs' hb hbs
   simp only [qS] at h
   subst h
   obtain ⟨ns,rfl,rfl⟩:=Kc cs bs' hbs
   unfold byteOf at hb
   split at hb
   ·rename_i n
    simp only [qS] at hb
    subst hb
    exact ⟨n::ns,rfl,rfl⟩
   ·cases hb
  ·cases h
theorem Hu (cs:List AV) (bs:List UInt8) (h:bytesOf cs=some bs):bs.length=cs.length:=by
 obtain ⟨ns,rfl,rfl⟩:=Kc cs bs h
 simp
theorem A41 (ns:List Int):∀ l:List UInt8,ns.foldl (fun r n=>r.push (UInt8.ofNat n.toNat)) (ByteArray.mk ⟨l⟩)=ByteArray.mk ⟨l++ns.map fun n=>UInt8.ofNat n.toNat⟩:=by
 induction ns with
 | nil=>intro l; simp
 | cons n ns ih =>
  intro l
  simp only [List.foldl_cons,List.map_cons]
  have:(ByteArray.mk ⟨l⟩).push (UInt8.ofNat n.toNat)=ByteArray.mk ⟨l++[UInt8.ofNat n.toNat]⟩:=by
   apply ByteArray.ext; simp [ByteArray.push]
  rw [this,ih]
  simp
theorem Jp {cells:List AV} {bs:List UInt8} (h:bytesOf cells=some bs) (A:Addr) (cap:Nat) (hc:∀ (i:Nat) v,cells[i]?=some v→∃ cv,w.cell? (A.add i)=some cv∧VRel w β dd v cv) :
  (Conv.bytesToString (.slice (some A) bs.length cap)).run P w=.ok (.string ⟨⟨bs⟩⟩) w:=by
 have hl:=Hu cells bs h
 obtain ⟨ns,rfl,rfl⟩:=Kc cells bs h
 have hload:(loadCells A (ns.map fun n=>UInt8.ofNat n.toNat).length).run P w=.ok (ns.map (Value.int .u8)).toArray w:=by
  have:=run_loadCells_list (P:=P) w A (ns.map (Value.int .u8)) (by
   intro j v hj
   simp only [List.getElem?_map,Option.map_eq_some_iff] at hj
   obtain ⟨n,hn,rfl⟩:=hj
   obtain ⟨cv,hcv,hr⟩:=hc j (.int .u8 n) (by simp [hn])
   cases hr
   exact hcv)
  simpa using this
 rw [run_bytesToString w A _ cap ns hload]
 have:=A41 ns []
 simp only [List.nil_append] at this
 rw [show ByteArray.empty=ByteArray.mk ⟨[]⟩ from rfl,this]
theorem A6j {s d:TypeId} {x v:AV} {cx:Value} (h:aconv P s d x=some v) (hx:VRel w β dd x cx):∃ cv,(convert s d cx).run P w=.ok cv w∧VRel w β dd v cv:=by
 unfold aconv at h
 split at h
 ·rename_i us k k' n hs hd
  cases hx
  simp only [qS] at h
  subst h
  exact ⟨_,by unfold convert; simp only [Sem.run_bind,run_underlying hs,run_underlying hd,Result.andThen_ok]; rfl,.int⟩
 ·rename_i us s' hs hd
  cases hx
  simp only [qS] at h
  subst h
  exact ⟨_,by unfold convert; simp only [Sem.run_bind,run_underlying hs,run_underlying hd,Result.andThen_ok]; rfl,.str⟩
 ·rename_i e o es cells n hs hd
  split at h
  ·rename_i he
   split at h
   ·rename_i hes
    subst hes
    simp only [Option.map_eq_some_iff] at h
    obtain ⟨bs,hbs,rfl⟩:=h
    have hl:=Hu cells bs hbs
    refine ⟨.string ⟨⟨bs⟩⟩,?_,.str⟩
    unfold convert
    cases hx with
    | lst0 =>
     simp [bytesOf] at hbs
     subst hbs
     rename_i a cap
     simp only [Sem.run_bind,run_underlying hs,run_underlying hd,Result.andThen_ok,run_underlying he]
     cases a with
     | none=>rfl
     | some A=>exact Jp (β:=β) (dd:=dd) (cells:=[]) rfl A cap (by simp)
    | lst hl' hn cvs hB hm hc hr =>
     rename_i B off cap
     simp only [Sem.run_bind,run_underlying hs,run_underlying hd,Result.andThen_ok,run_underlying he]
     have hn':n=bs.length:=by omega
     subst hn'
     refine Jp (β:=β) (dd:=dd) hbs ⟨B,off,none⟩ cap (fun i v hi=>⟨cvs i,?_,hr i v hi⟩)
     have:=(hc i v hi).1
     have e:(⟨B,off,none⟩:Addr).add i=⟨B,off+i,none⟩:=by unfold Addr.add; split <;> simp_all
     rw [e]; exact this
   ·cases h
  ·cases h
 ·rename_i e hs hd
  split at h
  ·rename_i he
   simp only [qS] at h
   subst h
   cases hx
   rename_i a
   refine ⟨.string ⟨⟨[]⟩⟩,?_,.str⟩
   unfold convert
   simp only [Sem.run_bind,run_underlying hs,run_underlying hd,Result.andThen_ok,run_underlying he]
   cases a with
   | none=>rfl
   | some A=>exact Jp (β:=β) (dd:=dd) (cells:=[]) rfl A 0 (by simp)
  ·cases h
 ·cases h
theorem addAddr (B off i:Nat):(⟨B,off,none⟩:Addr).add i=⟨B,off+i,none⟩:=by unfold Addr.add; split <;> simp_all
theorem Vv {n:Nat} {lo hi:Option AV} {l h:Nat} (hb:abnd n lo hi=some (l,h)):l≤h∧h≤n:=by
 unfold abnd at hb
 split at hb
 ·split at hb
  ·simp only [qS,Prod.mk.injEq] at hb
   omega
  ·cases hb
 ·cases hb
theorem A7t {isS:Bool} {n cap:Nat} {lo hi:Option AV} {clo chi:Option Value} {l h:Nat} (hb:abnd n lo hi=some (l,h)) (hn:n≤cap)
  (hlo:∀ v,lo=some v→∃ cv,clo=some cv∧VRel w β dd v cv) (hlo':lo=none→clo=none) (hhi:∀ v,hi=some v→∃ cv,chi=some cv∧VRel w β dd v cv) (hhi':hi=none→chi=none) :
  (Instr.sliceBounds isS n cap clo chi none).run P w=.ok (l,h,cap) w:=by
 unfold abnd at hb
 split at hb
 ·rename_i l0 h0 el eh
  split at hb
  ·rename_i hc
   simp only [qS,Prod.mk.injEq] at hb
   obtain ⟨rfl,rfl⟩:=hb
   have hh:h0.toNat≤cap:=by omega
   have ehn:(h0.toNat:Int)=h0:=by omega
   cases hi with
   | none =>
    simp only [qS] at eh
    subst eh
    rw [hhi' rfl]
    cases lo with
    | none =>
     simp only [qS] at el
     subst el
     rw [hlo' rfl]
     simp [Instr.sliceBounds]
    | some lv =>
     obtain ⟨clv,rfl,hr⟩:=hlo lv rfl
     cases lv <;> simp only [qS,reduceCtorEq] at el
     subst el
     cases hr
     simp [Instr.sliceBounds,run_sliceBound,hc.1,hc.2.1]
   | some hv =>
    obtain ⟨chv,rfl,hr2⟩:=hhi hv rfl
    have h0':(0:Int)≤h0:=by omega
    have hcap:h0≤(cap:Int):=by omega
    have hsb:=fun (k:IntKind) (c:BoundsCode)=>run_sliceBound (P:=P) w k h0 cap c h0' hcap
    cases hv <;> simp only [qS,reduceCtorEq] at eh
    subst eh
    cases hr2
    cases lo with
    | none =>
     simp only [qS] at el
     subst el
     rw [hlo' rfl]
     simp [Instr.sliceBounds,hsb]
    | some lv =>
     obtain ⟨clv,rfl,hr⟩:=hlo lv rfl
     cases lv <;> simp only [qS,reduceCtorEq] at el
     subst el
     cases hr
     have hs2:=fun (k:IntKind) (c:BoundsCode)=>run_sliceBound (P:=P) w k _ _ c hc.1 (show _≤((Int.toNat _:Nat):Int) from by rw [ehn]; exact hc.2.1)
     simp [Instr.sliceBounds,hsb,hs2]
  ·cases hb
 ·cases hb
theorem Tk (s:List UInt8) (l h:Nat):(ByteArray.mk ⟨s⟩).extract l h=ByteArray.mk ⟨(s.take h).drop l⟩:=by
 apply ByteArray.ext
 rw [ByteArray.data_extract]
 simp [List.extract_eq_take_drop,List.drop_take]
end
end Go.Proofs.YtldndhdohlfpgaaGreat.V
/- The model's operations come to what the abstract machine says: cuts, places, fields, loads, struct values, lengths. -/
namespace Go.Proofs.YtldndhdohlfpgaaGreat.V
open Go
section
variable {P:Program} {w:World} {β:Bm} {H:AH}
def ORel (w:World) (β:Bm) (dd:Nat→Option Bool) (lo:Option AV) (clo:Option Value):Prop:=(lo=none∧clo=none)∨∃ v cv,lo=some v∧clo=some cv∧VRel w β dd v cv
theorem Gx {dd:Nat→Option Bool} {isS:Bool} {n cap:Nat} {lo hi:Option AV} {clo chi:Option Value} {l h:Nat} (hb:abnd n lo hi=some (l,h)) (hn:n≤cap) (hlo:ORel w β dd lo clo) (hhi:ORel w β dd hi chi) :
  (Instr.sliceBounds isS n cap clo chi none).run P w=.ok (l,h,cap) w:=by
 refine A7t (β:=β) (dd:=dd) hb hn ?_ ?_ ?_ ?_
 ·intro v hv; rcases hlo with ⟨h1,_⟩ | ⟨v',cv,h1,h2,h3⟩
  ·rw [h1] at hv; cases hv
  ·rw [h1] at hv; cases hv; exact ⟨cv,h2,h3⟩
 ·intro hv; rcases hlo with ⟨_,h2⟩ | ⟨v',cv,h1,h2,h3⟩
  ·exact h2
  ·rw [h1] at hv; cases hv
 ·intro v hv; rcases hhi with ⟨h1,_⟩ | ⟨v',cv,h1,h2,h3⟩
  ·rw [h1] at hv; cases hv
  ·rw [h1] at hv; cases hv; exact ⟨cv,h2,h3⟩
 ·intro hv; rcases hhi with ⟨_,h2⟩ | ⟨v',cv,h1,h2,h3⟩
  ·exact h2
  ·rw [h1] at hv; cases hv
theorem Gy {b:Nat} (h:liveB H b=true):¬ dead H b=some false:=by
 unfold liveB at h
 unfold dead
 split at h
 ·rename_i k hk; rw [hk]; simp
 ·cases h
theorem A7v {b:Nat} (h:liveB H b=true):dead H b≠none:=by
 unfold liveB at h
 unfold dead
 split at h
 ·rename_i k hk; rw [hk]; simp
 ·cases h
theorem R1 {T e:TypeId} (hT:P.underlying T=some (.slice e)) (he:hasT P e=true) (a:Option Addr) (n cap:Nat) (clo chi cmx:Option Value) (l h m:Nat) (hb:(Instr.sliceBounds true n cap clo chi cmx).run P w=.ok (l,h,m) w) :
  (Instr.sliceAt T (.slice a n cap) clo chi cmx).run P w=.ok (.slice (if m=l then a else a.map (·.add (l*szT P e))) (h - l) (m - l)) w:=by
 simp only [Instr.sliceAt,Sem.run_bind,run_underlying hT,Result.andThen_ok,Instr.slice,hb,V4 he,Sem.run_pure]
theorem A4p {T:TypeId} {x v:AV} {lo hi mx:Option AV} {cx:Value} {clo chi cmx:Option Value} (h:aslice P H T x lo hi mx=some v) (hx:VRel w β (dead H) x cx) (hlo:ORel w β (dead H) lo clo) (hhi:ORel w β (dead H) hi chi) (hmx:ORel w β (dead H) mx cmx) :
  ∃ cv,(Instr.sliceAt T cx clo chi cmx).run P w=.ok cv w∧VRel w β (dead H) v cv:=by
 unfold aslice at h
 split at h
 ·rcases hmx with ⟨_,rfl⟩ | ⟨_,_,h1,_,_⟩
  case inr=>cases h1
  split at h
  ·rename_i s hT
   simp only [Option.map_eq_some_iff,Prod.exists] at h
   obtain ⟨l,hh,hb,rfl⟩:=h
   cases hx
   have hr:=Gx (P:=P) (isS:=false) hb (Nat.le_refl _) hlo hhi
   refine ⟨.string ⟨⟨(s.take hh).drop l⟩⟩,?_,.str⟩
   simp only [Instr.sliceAt,Sem.run_bind,run_underlying hT,Result.andThen_ok,Instr.slice,Option.isSome_none,Bool.false_eq_true,if_false,lenL,hr,Sem.run_pure]
   rw [Tk]
  ·rename_i e o es cells n hT
   split at h
   ·rename_i hc
    simp only [Bool.and_eq_true,decide_eq_true_eq] at hc
    obtain ⟨hes,hhas⟩:=hc
    subst hes
    simp only [Option.map_eq_some_iff,Prod.exists] at h
    obtain ⟨l,hh,hb,rfl⟩:=h
    obtain ⟨b1,b2⟩:=Vv hb
    cases hx with
    | lst0 =>
     rename_i a cap
     have hr:=Gx (P:=P) (isS:=true) hb (Nat.zero_le cap) hlo hhi
     refine ⟨_,R1 hT hhas a 0 cap _ _ _ l hh cap hr,?_⟩
     have:hh - l=0:=by omega
     rw [this]
     simp only [List.take_nil,List.drop_nil]
     exact .lst0
    | lst hl hn cvs hB hm hc hr' =>
     rename_i B off cap
     have hr:=Gx (P:=P) (isS:=true) hb hn hlo hhi
     refine ⟨_,R1 hT hhas _ n cap _ _ _ l hh cap hr,?_⟩
     by_cases hcap:cap=l
     ·have e0:hh - l=0:=by omega
      have e1:((cells.take (hh*szT P e)).drop (l*szT P e))=[]:=by
       apply List.drop_eq_nil_of_le
       simp only [List.length_take]
       have:hh=l:=by omega
       subst this
       omega
      rw [e0,e1]
      exact .lst0
     ·rw [if_neg hcap]
      simp only [Option.map_some,addAddr]
      refine .lst ?_ (by omega) (fun i=>cvs (l*szT P e+i)) hB hm ?_ ?_
      ·have hmul:hh*szT P e≤n*szT P e:=Nat.mul_le_mul_right _ b2
       simp only [List.length_drop,List.length_take,hl]
       rw [Nat.min_eq_left hmul,Nat.sub_mul]
      ·intro i v hi
       rw [List.getElem?_drop,List.getElem?_take] at hi
       split at hi
       ·rw [Nat.add_assoc]; exact hc _ v hi
       ·cases hi
      ·intro i v hi
       rw [List.getElem?_drop,List.getElem?_take] at hi
       split at hi
       ·exact hr' _ v hi
       ·cases hi
   ·cases h
  ·rename_i e b off n hT
   split at h
   ·rename_i hc
    simp only [Bool.and_eq_true,decide_eq_true_eq] at hc
    obtain ⟨hlive,hsz,hhas⟩:=hc
    simp only [Option.map_eq_some_iff,Prod.exists] at h
    obtain ⟨l,hh,hb,rfl⟩:=h
    obtain ⟨b1,b2⟩:=Vv hb
    cases hx with
    | sl hp hn hm hc =>
     rename_i p cap
     have hr:=Gx (P:=P) (isS:=true) hb hn hlo hhi
     refine ⟨_,R1 hT hhas _ n cap _ _ _ l hh cap hr,?_⟩
     by_cases hcap:cap=l
     ·rw [if_pos hcap]
      have e0:hh - l=0:=by omega
      have e1:cap - l=0:=by omega
      rw [e0,e1]
      exact .sl0 (A7v hlive)
     ·rw [if_neg hcap]
      simp only [Option.map_some,addAddr]
      refine .sl hp (by omega) (by omega) ?_
      intro h0
      have hl0:l=0:=by
       rcases Nat.eq_zero_or_pos l with h | h
       ·exact h
       ·have:=Nat.mul_pos h hsz; omega
      subst hl0
      simpa using hc (by omega)
    | sl0 hin =>
     rename_i a
     have hr:=Gx (P:=P) (isS:=true) hb (Nat.le_refl 0) hlo hhi
     refine ⟨_,R1 hT hhas _ 0 0 _ _ _ l hh 0 hr,?_⟩
     have e0:hh - l=0:=by omega
     rw [e0,Nat.zero_sub]
     exact .sl0 hin
    | sld hd=>exact absurd hd (Gy hlive)
   ·cases h
  ·rename_i e hT
   split at h
   ·rename_i hhas
    simp only [Option.map_eq_some_iff,Prod.exists] at h
    obtain ⟨l,hh,hb,rfl⟩:=h
    obtain ⟨b1,b2⟩:=Vv hb
    cases hx
    have hr:=Gx (P:=P) (isS:=true) hb (Nat.le_refl 0) hlo hhi
    refine ⟨_,R1 hT hhas _ 0 0 _ _ _ l hh 0 hr,?_⟩
    have e0:hh - l=0:=by omega
    rw [e0,Nat.zero_sub]
    exact .nils
   ·cases h
  ·cases h
 ·rcases hmx with ⟨h1,_⟩ | ⟨mv,cmv,h1,rfl,hmr⟩
  ·cases h1
  cases h1
  cases hmr
  have bnd:∀ (n cap:Nat) (k k':IntKind),(Instr.sliceBounds true n cap none (some (.int k 0)) (some (.int k' 0))).run P w=.ok (0,0,0) w:=by
   intro n cap k k'
   have h1:=run_sliceBound (P:=P) w k' 0 cap .slice3Acap (Int.le_refl 0) (by omega)
   have h2:=run_sliceBound (P:=P) w k 0 0 .slice3B (Int.le_refl 0) (by omega)
   simp [Instr.sliceBounds,h1,h2]
  have hlo':lo=none→clo=none:=by
   intro hv; rcases hlo with ⟨_,h2⟩ | ⟨_,_,h1,_,_⟩
   ·exact h2
   ·rw [h1] at hv; cases hv
  split at h
  all_goals try (cases h; done)
  all_goals
   rename_i hT
   rw [hlo' rfl]
   rcases hhi with ⟨h1,_⟩ | ⟨hv,chv,h1,rfl,hhr⟩
   ·cases h1
   cases h1
   cases hhr
  ·split at h
   ·rename_i hhas
    simp only [qS] at h
    subst h
    cases hx
    ·exact ⟨_,R1 hT hhas _ _ _ _ _ _ 0 0 0 (bnd _ _ _ _),.nils⟩
    ·exact ⟨_,R1 hT hhas _ _ _ _ _ _ 0 0 0 (bnd _ _ _ _),.nils⟩
   ·cases h
  ·split at h
   ·rename_i hc
    simp only [Bool.and_eq_true] at hc
    simp only [qS] at h
    subst h
    cases hx with
    | sl=>exact ⟨_,R1 hT hc.2 _ _ _ _ _ _ 0 0 0 (bnd _ _ _ _),.nils⟩
    | sl0=>exact ⟨_,R1 hT hc.2 _ _ _ _ _ _ 0 0 0 (bnd _ _ _ _),.nils⟩
    | sld hd=>exact absurd hd (Gy hc.1)
   ·cases h
  ·split at h
   ·rename_i hhas
    simp only [qS] at h
    subst h
    cases hx
    exact ⟨_,R1 hT hhas _ _ _ _ _ _ 0 0 0 (bnd _ _ _ _),.nils⟩
   ·cases h
 ·cases h
end
end Go.Proofs.YtldndhdohlfpgaaGreat.V
/- The model's operations come to what the abstract machine says: places, fields, loads, struct values, lengths; and all together. -/
namespace Go.Proofs.YtldndhdohlfpgaaGreat.V
open Go
theorem FT.vrel {w:World} {β:Bm} {dd:Nat→Option Bool} {v:AV} {cv:Value} {fp:List Nat} (h:FT w v cv fp):(∀ B∈fp,β.off B)→VRel w β dd v cv:=by
 induction h with
 | und=>exact fun _=>.und
 | int=>exact fun _=>.int
 | bool=>exact fun _=>.bool
 | str=>exact fun _=>.str
 | nils=>exact fun _=>.nils
 | lst0=>exact fun _=>.lst0
 | lst hl cvs fps hb hn hm hsz hc hr ih =>
  rename_i es cells n B cap c T
  intro ho
  refine .lst hl hn cvs ?_ (ho B (by simp)) ?_ ?_
  ·exact (Array.getElem?_eq_some_iff.1 hb).1
  ·intro i v hi
   refine ⟨?_,(hc i v hi).2⟩
   rw [Nat.zero_add,cell_of_row w B i c T (0,0) hb]
   exact (hc i v hi).1
  ·intro i v hi
   refine ih i v hi fun B' hB'=>ho B' ?_
   refine List.mem_cons_of_mem _ (List.mem_flatMap.2 ⟨i,?_,hB'⟩)
   exact List.mem_range.2 (qI hi).1
 | lst0v=>exact fun _=>.lst0
 | lstv hl cvs fps hb hn hc hr ih =>
  rename_i es cells n B off cap c T
  intro ho
  refine .lst hl hn cvs ?_ (ho B (by simp)) ?_ ?_
  ·exact (Array.getElem?_eq_some_iff.1 hb).1
  ·intro i v hi
   refine ⟨?_,(hc i v hi).2⟩
   rw [cell_of_row w B (off+i) c T (0,0) hb]
   exact (hc i v hi).1
  ·intro i v hi
   refine ih i v hi fun B' hB'=>ho B' ?_
   refine List.mem_cons_of_mem _ (List.mem_flatMap.2 ⟨i,?_,hB'⟩)
   exact List.mem_range.2 (qI hi).1
 | agg fps hs hr h1 ih =>
  intro ho
  refine .agg hs ?_ h1
  intro i v cv hv hcv
  exact ih i v cv hv hcv fun B' hB'=>ho B' (List.mem_flatMap.2 ⟨i,List.mem_range.2 (qI hv).1,hB'⟩)
 | tup fps hs hr ih =>
  intro ho
  refine .tup hs ?_
  intro i v cv hv hcv
  exact ih i v cv hv hcv fun B' hB'=>ho B' (List.mem_flatMap.2 ⟨i,List.mem_range.2 (qI hv).1,hB'⟩)
theorem CRel.vrel {w:World} {β:Bm} {dd:Nat→Option Bool} {v:AV} {cv:Value} {fp:List Nat} (h:CRel w β dd v cv fp) (h1:cv.oneCell'=true):VRel w β dd v.hide cv:=by
 cases h with
 | own h ho =>
  cases h with
  | und=>exact .und
  | int=>exact .int
  | bool=>exact .bool
  | str=>exact .str
  | nils=>exact .nils
  | lst0=>exact .und
  | lst=>exact .und
  | lst0v=>exact absurd rfl (ho _ _ _)
  | lstv=>exact absurd rfl (ho _ _ _)
  | agg=>simp [Value.oneCell'] at h1
  | tup=>simp [Value.oneCell'] at h1
 | shr h hn hf =>
  unfold AV.hide
  split
  ·exact absurd rfl (hn _ _ _)
  ·exact h.unpin
  ·exact h
theorem CRel.data {w:World} {β:Bm} {dd:Nat→Option Bool} {v:AV} {cv:Value} {fp:List Nat} (h:CRel w β dd v cv fp):VRel w β dd v cv∨VRel w (fun _=>none) (fun _=>none) v cv:=by
 cases h with
 | own h _=>exact .inr (h.vrel fun B _ b p hp=>by cases hp)
 | shr h _ _=>exact .inl h
theorem SRel.cell' {base:Nat} {β:Bm} {H:AH} {w:World} (s:SRel base β H w) {b:Nat} {p:Loc} (hp:β b=some p) {k:ABlk} (hk:H[b]?=some (some k)) {i:Nat} {v:AV} (hv:k.cells[i]?=some v) :
  ∃ cv fp,w.cell? ⟨p.B,i,none⟩=some cv∧cv.oneCell'=true∧CRel w β (dead H) v cv fp:=by
 obtain ⟨k',hk',_,c,T,cvs,fps,hb,_,_,hc,hfp⟩:=s.blk b p hp
 rw [hk] at hk'
 cases hk'
 obtain ⟨h1,h2,h3⟩:=hc i v hv
 exact ⟨cvs i,fps i,by rw [cell_of_row w p.B i c T (0,0) hb]; exact h1,h2,h3⟩
theorem SRel.cell {base:Nat} {β:Bm} {H:AH} {w:World} (s:SRel base β H w) {b:Nat} {p:Loc} (hp:β b=some p) {k:ABlk} (hk:H[b]?=some (some k)) {i:Nat} {v:AV} (hv:(k.cells.map AV.hide)[i]?=some v) :
  ∃ cv,w.cell? ⟨p.B,i,none⟩=some cv∧cv.oneCell'=true∧VRel w β (dead H) v cv:=by
 simp only [List.getElem?_map,Option.map_eq_some_iff] at hv
 obtain ⟨u,hu,rfl⟩:=hv
 obtain ⟨cv,fp,h1,h2,h3⟩:=s.cell' hp hk hu
 exact ⟨cv,h1,h2,h3.vrel h2⟩
theorem Rq:∀ {l:List AV} {bs:List UInt8},bytesOf l=some bs→bytesOf (l.map AV.hide)=some bs
 | [],bs,h=>h
 | v::l,bs,h=>by
  simp only [bytesOf] at h
  split at h
  ·rename_i b bs' hb hbs
   have hv:byteOf v.hide=some b:=by
    unfold byteOf at hb
    split at hb
    ·exact hb
    ·cases hb
   simp only [List.map_cons,bytesOf,hv,Rq hbs]
   exact h
  ·cases h
section
variable {P:Program} {w:World} {β:Bm} {dd:Nat→Option Bool} {H:AH}
theorem A7z {T:TypeId} {x ix v:AV} {cx ci:Value} (h:aidx P H T x ix=some v) (hx:VRel w β (dead H) x cx) (hi:VRel w β (dead H) ix ci):∃ cv,(Instr.indexAt T cx ci).run P w=.ok cv w∧VRel w β (dead H) v cv:=by
 unfold aidx at h
 split at h
 ·rename_i e b off n k i hT
  cases hi
  split at h
  ·rename_i hc
   simp only [qS] at h
   subst h
   obtain ⟨⟨h0,h1⟩,h2,h3⟩:=hc
   cases hx with
   | sl hp hn hm hcap =>
    rename_i p cap
    refine ⟨.pointer (some (Addr.add ⟨p.B,off,none⟩ (i.toNat*szT P e))),?_,?_⟩
    ·simp [Instr.indexAt,asIntOf,run_underlying hT,V4 h2,h0,h1]
    ·rw [addAddr]; exact .ptr hp
   | sl0=>omega
   | sld hd=>exact absurd hd (Gy h3)
  ·cases h
 ·rename_i e o es cells n k i hT
  cases hi
  split at h
  ·rename_i hc
   simp only [qS] at h
   subst h
   obtain ⟨⟨h0,h1⟩,h2⟩:=hc
   cases hx with
   | lst0=>omega
   | lst hl hn cvs hB hm hc hr =>
    rename_i B off cap
    refine ⟨.pointer (some (Addr.add ⟨B,off,none⟩ (i.toNat*szT P e))),?_,?_⟩
    ·simp [Instr.indexAt,asIntOf,run_underlying hT,V4 h2,h0,h1]
    ·rw [addAddr]; exact .el cvs hB hm hc hr
  ·cases h
 ·rename_i e B0 off0 es cells n k i hT
  cases hi
  split at h
  ·rename_i hc
   simp only [qS] at h
   subst h
   obtain ⟨⟨h0,h1⟩,h2⟩:=hc
   cases hx.unpin with
   | lst0=>omega
   | lst hl hn cvs hB hm hc hr =>
    rename_i B off cap
    refine ⟨.pointer (some (Addr.add ⟨B,off,none⟩ (i.toNat*szT P e))),?_,?_⟩
    ·simp [Instr.indexAt,asIntOf,run_underlying hT,V4 h2,h0,h1]
    ·rw [addAddr]; exact .el cvs hB hm hc hr
  ·cases h
 ·cases h
theorem Vh {s:TypeId} {fs:List (Nat×TypeId)} (h:fldT P s=some fs):∃ F:Array Field,P.underlying s=some (.struct F)∧fs=F.toList.map fun f=>(f.offset,f.type):=by
 unfold fldT at h
 split at h
 ·rename_i F hF
  simp only [qS] at h
  exact ⟨F,hF,h.symm⟩
 ·cases h
theorem A3s {t:TypeId} (h:szT P t≠0):hasT P t=true:=by
 unfold szT at h
 unfold hasT
 cases hq:P.info? t with
 | none=>simp [hq] at h
 | some i=>rfl
theorem A8j {s:TypeId} {x v:AV} {f:Nat} {cx:Value} (h:afld P H s x f=some v) (hx:VRel w β (dead H) x cx):∃ cv,(Instr.fieldAt s cx f).run P w=.ok cv w∧VRel w β (dead H) v cv:=by
 unfold afld at h
 split at h
 ·rename_i fs hfs
  obtain ⟨F,hF,rfl⟩:=Vh hfs
  split at h
  ·rename_i o t hft
   simp only [List.getElem?_map,Option.map_eq_some_iff,Prod.mk.injEq,Array.getElem?_toList] at hft
   obtain ⟨fd,hfd,rfl,rfl⟩:=hft
   split at h
   ·rename_i hsz
    have hplace:∀ B off,(fieldPlace ⟨B,off,none⟩ fd).run P w=.ok ⟨B,off+fd.offset,none⟩ w:=by
     intro B off
     simp only [fieldPlace,Sem.run_bind,V4 (A3s hsz),Result.andThen_ok,hsz,if_false,addAddr,Sem.run_pure]
    have run:∀ B off,(Instr.fieldAt s (.pointer (some ⟨B,off,none⟩)) f).run P w=.ok (.pointer (some ⟨B,off+fd.offset,none⟩)) w:=by
     intro B off
     simp [Instr.fieldAt,run_underlying hF,hfd,Instr.sureAddr,hplace]
    split at h
    ·rename_i b off
     split at h
     ·rename_i hl
      simp only [qS] at h
      subst h
      cases hx with
      | ptr hp=>exact ⟨_,run _ _,.ptr hp⟩
      | ptrd hd=>exact absurd hd (Gy hl)
     ·cases h
    ·rename_i cells off
     simp only [qS] at h
     subst h
     cases hx with
     | el cvs hB hm hc hr=>exact ⟨_,run _ _,by rw [Nat.add_assoc]; exact .el cvs hB hm hc hr⟩
    ·cases h
   ·cases h
  ·cases h
 ·cases h
theorem Vp {t:TypeId} {cells:List AV} {off:Nat} {v:AV} {A:Addr} (h:aloadEl P t cells off=some v) (hc:∀ (i:Nat) u,cells[i]?=some u→∃ cv,w.cell? (A.add i)=some cv∧cv.oneCell'=true∧VRel w β dd u cv) :
  ∃ cv,(loadVar t (A.add off)).run P w=.ok cv w∧VRel w β dd v cv:=by
 unfold aloadEl at h
 split at h
 ·rename_i hu
  simp only [Bool.and_eq_true] at hu
  split at h
  ·rename_i ha
   split at h
   ·rename_i hlen
    simp only [qS] at h
    subst h
    have hcv:∃ cvs:Nat→Value,∀ (i:Nat) u,cells[i]?=some u→w.cell? (A.add i)=some (cvs i)∧(cvs i).oneCell'=true∧VRel w β dd u (cvs i):=by
     refine ⟨fun i=>(w.cell? (A.add i)).getD undef,?_⟩
     intro i u hu'
     obtain ⟨cv,h1,h2,h3⟩:=hc i u hu'
     simp only [h1,Option.getD_some]
     exact ⟨trivial,h2,h3⟩
    obtain ⟨cvs,hcvs⟩:=hcv
    have addadd:∀ j,(A.add off).add j=A.add (off+j):=by
     intro j
     unfold Addr.add
     by_cases h1:off=0
     ·subst h1; simp
     ·by_cases h2:j=0
      ·subst h2; simp [h1]
      ·simp [h1,h2,Nat.add_assoc]
    have hl:=run_loadCells (P:=P) w (A.add off) (szT P t) (fun j=>cvs (off+j)) (by
     intro j hj
     rw [addadd]
     exact (hcvs (off+j) cells[off+j] (qG (by omega))).1)
    refine ⟨_,by simp only [loadVar,Sem.run_bind,Tu hu.1,Result.andThen_ok,ha,if_true,V4 hu.2,hl,Sem.run_pure]; rfl,?_⟩
    refine .agg ?_ ?_ ?_
    ·simp; omega
    ·intro i u cv hu' hcv
     rw [List.getElem?_take] at hu'
     split at hu'
     ·rename_i hi
      rw [List.getElem?_drop] at hu'
      have:cv=cvs (off+i):=by
       simp [hi] at hcv
       exact hcv.symm
      subst this
      exact (hcvs _ u hu').2.2
     ·cases hu'
    ·intro i cv hcv
     have hi:i<szT P t:=by
      have:=(Array.getElem?_eq_some_iff.1 hcv).1
      simpa using this
     have:cv=cvs (off+i):=by
      simp [hi] at hcv
      exact hcv.symm
     subst this
     exact (hcvs (off+i) cells[off+i] (qG (by omega))).2.1
   ·cases h
  ·rename_i ha
   obtain ⟨cv,h1,h2,h3⟩:=hc off v h
   refine ⟨cv,?_,h3⟩
   have ha':aggT P t=false:=by simpa using ha
   simp [loadVar,Tu hu.1,ha',h1]
 ·cases h
end
end Go.Proofs.YtldndhdohlfpgaaGreat.V
/- The model's operations come to what the abstract machine says: struct values, lengths; and all together. -/
namespace Go.Proofs.YtldndhdohlfpgaaGreat.V
open Go
inductive F2 {α β:Type} (R:α→β→Prop):List α→List β→Prop
 | nil:F2 R [] []
 | cons {a b l m} (h:R a b) (t:F2 R l m):F2 R (a::l) (b::m)
theorem A35 (off:Nat):∀ (l:List Value) (k:Nat) (cs:Array Value),off+k+l.length≤cs.size →
  ((l.zipIdx k).foldl (fun (cs:Array Value) (x:Value×Nat)=>cs.setIfInBounds (off+x.2) x.1) cs).toList=cs.toList.take (off+k)++l++cs.toList.drop (off+k+l.length)
 | [],k,cs,_=>by simp
 | c::l,k,cs,h=>by
  simp only [List.length_cons] at h
  simp only [List.zipIdx_cons,List.foldl_cons]
  rw [A35 off l (k+1) _ (by simp; omega)]
  have hk:off+k<cs.toList.length:=by simp; omega
  have e1:(cs.setIfInBounds (off+k) c).toList=cs.toList.set (off+k) c:=by simp
  rw [e1]
  have e2:(cs.toList.set (off+k) c).take (off+(k+1))=cs.toList.take (off+k)++[c]:=by
   rw [← Nat.add_assoc,List.take_succ_eq_append_getElem (by simpa using hk)]
   simp [List.take_set_of_le]
  have e3:(cs.toList.set (off+k) c).drop (off+(k+1)+l.length)=cs.toList.drop (off+k+(c::l).length):=by
   rw [List.drop_set_of_lt (by omega)]
   congr 1
   simp; omega
  rw [e2,e3]
  simp
section
variable {P:Program} {w:World} {β:Bm} {dd:Nat→Option Bool} {H:AH}
theorem Ce {t:TypeId} {z:List AV} (h:zeroT P t=some z):∃ it zv,P.info? t=some it∧it.zero=some zv∧LRel w β dd z zv.cells.toList:=by
 unfold zeroT at h
 split at h
 ·rename_i zv hz
  simp only [Option.bind_eq_some_iff] at hz
  obtain ⟨it,hit,hz⟩:=hz
  refine ⟨it,zv,hit,hz,?_⟩
  have hr:=A5c (w:=w) (β:=β) (dd:=dd) zv
  split at h
  ·rename_i cs hc
   simp only [qS] at h
   subst h
   rw [hc] at hr
   have:=hr.cells (.inr ⟨_,rfl⟩)
   exact this
  ·split at h
   ·cases h
    refine ⟨rfl,?_,?_⟩
    ·intro i v cv hv _
     cases i with
     | zero=>simp at hv; subst hv; exact .und
     | succ i=>simp at hv
    ·intro c hc
     have:c=.pointer none:=by simpa [Value.cells] using hc
     subst this; rfl
   ·cases h
  ·rename_i h1 h2
   simp only [qS] at h
   subst h
   have hone:(cst zv).one=true:=by
    have:∀ vs,cst zv≠.tup vs:=by
     intro vs e
     unfold cst at e
     split at e
     ·split at e <;> cases e
     ·unfold cstC at e
      split at e <;> cases e
    cases hq:cst zv <;> first | rfl | (exact absurd hq h2) | (exact absurd hq (h1 _)) | (exact absurd hq (this _))
   have:=hr.cells (.inl hone)
   have e:(cst zv).cells=[cst zv]:=by
    cases hq:cst zv <;> first | rfl | (rw [hq] at hone; simp [AV.one] at hone)
   rwa [e] at this
 ·cases h
theorem Tp:∀ (parts:List (Nat×AV)) (cparts:List (Nat×Value)) (place:Nat→Option (Nat×Nat)) (z cells:List AV) (cz:Array Value),afill place z parts=some cells→LRel w β dd z cz.toList →
  F2 (fun (a:Nat×AV) (b:Nat×Value)=>a.1=b.1∧VRel w β dd a.2 b.2) parts cparts→∃ cc,Instr.fill place cz cparts=some cc∧LRel w β dd cells cc.toList
 | [],cparts,place,z,cells,cz,h,hz,hp=>by
  cases hp
  simp only [afill,qS] at h
  subst h
  exact ⟨cz,rfl,hz⟩
 | (i,v)::rest,cparts,place,z,cells,cz,h,hz,hp=>by
  cases hp with
  | cons h1 h2 =>
   rename_i b crest
   obtain ⟨i',cv⟩:=b
   obtain ⟨rfl,hv⟩:=h1
   simp only [afill] at h
   split at h
   ·cases h
   ·rename_i off size hpl
    split at h
    ·rename_i hc
     obtain ⟨c1,c2,c3⟩:=hc
     have hone:v.one=true∨∃ cs,v=.agg cs:=by
      simp only [Bool.or_eq_true] at c3
      rcases c3 with c3 | c3
      ·exact .inl c3
      ·cases v <;> simp [AV.isAgg] at c3
       exact .inr ⟨_,rfl⟩
     have hl:=hv.cells hone
     have hlen:cv.cells.size=size:=by rw [← c1,hl.len]; simp
     have hzl:=hz.len
     simp only [Array.length_toList] at hzl
     have hfold:(cv.cells.zipIdx.foldl (fun (cs:Array Value) (x:Value×Nat)=>cs.setIfInBounds (off+x.2) x.1) cz).toList=cz.toList.take off++cv.cells.toList++cz.toList.drop (off+cv.cells.toList.length):=by
      rw [← Array.foldl_toList,Array.toList_zipIdx]
      have:=A35 off cv.cells.toList 0 cz (by simp; omega)
      simpa using this
     obtain ⟨cc,hcc,hr⟩:=Tp rest crest place _ cells (cv.cells.zipIdx.foldl (fun (cs:Array Value) (x:Value×Nat)=>cs.setIfInBounds (off+x.2) x.1) cz) h (by
      rw [hfold,← hl.len]
      exact ((hz.take off).append hl).append (hz.drop _)) h2
     refine ⟨cc,?_,hr⟩
     simp only [Instr.fill,hpl]
     rw [if_neg (by simp [hlen]; omega)]
     exact hcc
    ·cases h
theorem Vx:∀ (fs:List Field),(fs.all fun f=>hasT P f.type)=true→fs.mapM (fun f=>(P.info? f.type).map fun i=>(f.offset,i.size))=some (fs.map fun f=>(f.offset,szT P f.type))
 | [],_=>rfl
 | f::fs,h=>by
  simp only [List.all_cons,Bool.and_eq_true] at h
  obtain ⟨h1,h2⟩:=h
  unfold hasT at h1
  obtain ⟨i,hi⟩:=Option.isSome_iff_exists.1 h1
  simp [List.mapM_cons,hi,Vx fs h2,szT]
theorem A47 {t:TypeId} {parts:List (Nat×AV)} {cparts:Array (Nat×Value)} {v:AV} (h:abuild P t parts=some v) (hp:F2 (fun (a:Nat×AV) (b:Nat×Value)=>a.1=b.1∧VRel w β dd a.2 b.2) parts cparts.toList) :
  ∃ cv,(Instr.build t cparts).run P w=.ok cv w∧VRel w β dd v cv:=by
 unfold abuild at h
 split at h
 ·rename_i fs z hfs hz
  obtain ⟨F,hF,rfl⟩:=Vh hfs
  obtain ⟨it,zv,hit,hzv,hzr⟩:=Ce (w:=w) (β:=β) (dd:=dd) hz
  split at h
  ·rename_i hall
   simp only [Option.map_eq_some_iff] at h
   obtain ⟨cells,hfill,rfl⟩:=h
   obtain ⟨cc,hcc,hr⟩:=Tp parts cparts.toList _ z cells zv.cells hfill hzr hp
   refine ⟨.agg cc,run_build w t cparts cc ?_,?_⟩
   ·have hm:=Vx (P:=P) F.toList (by simpa [List.all_map] using hall)
    unfold Program.built
    simp only [hit,hF,hzv,hm]
    rw [← hcc]
    congr 1
    funext i
    simp [Function.comp_def]
   ·have:=hr.agg
    simpa using this
  ·cases h
 ·cases h
theorem A80 {T ty:TypeId} {x v:AV} {cx:Value} (h:alen P H T x=some v) (hx:VRel w β (dead H) x cx):∃ cv,(Builtin.len_ #[T] ty #[cx]).run P w=.ok cv w∧VRel w β (dead H) v cv:=by
 unfold alen at h
 split at h
 ·rename_i s hT
  cases hx
  simp only [qS] at h
  subst h
  exact ⟨_,by simp [Builtin.len_,run_underlying hT,goInt,lenL],.int⟩
 ·rename_i e b off n hT
  split at h
  ·rename_i hl
   simp only [qS] at h
   subst h
   cases hx with
   | sl=>exact ⟨_,by simp [Builtin.len_,run_underlying hT,goInt],.int⟩
   | sl0=>exact ⟨_,by simp [Builtin.len_,run_underlying hT,goInt],.int⟩
   | sld hd=>exact absurd hd (Gy hl)
  ·cases h
 ·rename_i e o es cells n hT
  simp only [qS] at h
  subst h
  cases hx <;> exact ⟨_,by simp [Builtin.len_,run_underlying hT,goInt],.int⟩
 ·rename_i e B0 off0 es cells n hT
  simp only [qS] at h
  subst h
  cases hx.unpin <;> exact ⟨_,by simp [Builtin.len_,run_underlying hT,goInt],.int⟩
 ·rename_i e hT
  simp only [qS] at h
  subst h
  cases hx
  exact ⟨_,by simp [Builtin.len_,run_underlying hT,goInt],.int⟩
 ·cases h
theorem A92 {T:TypeId} {x ix v:AV} {cx ci:Value} (h:aix P T x ix=some v) (hx:VRel w β dd x cx) (hi:VRel w β dd ix ci):∃ cv,(Instr.index T cx ci).run P w=.ok cv w∧VRel w β dd v cv:=by
 unfold aix at h
 split at h
 ·rename_i s k i hT
  cases hx; cases hi
  split at h
  ·rename_i h0
   simp only [Option.map_eq_some_iff] at h
   obtain ⟨b,hb,rfl⟩:=h
   have hlt:i.toNat<s.length:=(qI hb).1
   refine ⟨.int .u8 b.toNat,?_,.int⟩
   have e:(ByteArray.mk ⟨s⟩)[i.toNat]?=some b:=by
    rw [ByteArray.getElem?_lt' _ _ hlt]
    have:=(qI hb).2
    rw [← this]
    rfl
   simp [Instr.index,asIntOf,run_underlying hT,h0,e]
  ·cases h
 ·cases h
theorem A4y {T:TypeId} {x v:AV} {f:Nat} {cx:Value} (h:afield P T x f=some v) (hx:VRel w β dd x cx):∃ cv,(Instr.field T cx f).run P w=.ok cv w∧VRel w β dd v cv:=by
 unfold afield at h
 split at h
 ·rename_i fs cs hfs
  obtain ⟨F,hF,rfl⟩:=Vh hfs
  split at h
  ·rename_i o t hft
   simp only [List.getElem?_map,Option.map_eq_some_iff,Prod.mk.injEq,Array.getElem?_toList] at hft
   obtain ⟨fd,hfd,rfl,rfl⟩:=hft
   split at h
   ·obtain ⟨ccs,rfl,hl⟩:=hx.aggL
    obtain ⟨cv,hcv,hr⟩:=Zm (P:=P) h hl
    exact ⟨cv,by simp [Instr.field,run_underlying hF,hfd,asAgg,hcv],hr⟩
   ·cases h
  ·cases h
 ·cases h
end
end Go.Proofs.YtldndhdohlfpgaaGreat.V
/- What an operation comes to that looks at values alone, or reads own blocks: the model's run. -/
namespace Go.Proofs.YtldndhdohlfpgaaGreat.V
open Go
section
variable {P:Program} {w:World} {β:Bm} {dd:Nat→Option Bool} {H:AH} {a:Asg} {ca:Act}
theorem Xw (hr:∀ x v,aev a x=some v→VRel w β dd v (ca.eval x)):∀ (xs:List Operand) (vs:List AV),aevs a xs=some vs→F2 (fun v cv=>VRel w β dd v cv) vs (xs.map ca.eval)
 | [],vs,h=>by simp only [aevs,qS] at h; subst h; exact .nil
 | x::xs,vs,h=>by
  simp only [aevs] at h
  split at h
  ·rename_i v vs' hv hvs
   simp only [qS] at h
   subst h
   exact .cons (hr x v hv) (Xw hr xs vs' hvs)
  ·cases h
theorem Qj (hr:∀ x v,aev a x=some v→VRel w β dd v (ca.eval x)):∀ (xs:List (Nat×Operand)) (vs:List (Nat×AV)),aparts a xs=some vs→F2 (fun (p:Nat×AV) (q:Nat×Value)=>p.1=q.1∧VRel w β dd p.2 q.2) vs (xs.map fun p=>(p.1,ca.eval p.2))
 | [],vs,h=>by simp only [aparts,qS] at h; subst h; exact .nil
 | (i,x)::xs,vs,h=>by
  simp only [aparts] at h
  split at h
  ·rename_i v vs' hv hvs
   simp only [qS] at h
   subst h
   exact .cons ⟨rfl,hr x v hv⟩ (Qj hr xs vs' hvs)
  ·cases h
theorem Yy (hr:∀ x v,aev a x=some v→VRel w β dd v (ca.eval x)) {x:Option Operand} {v:Option AV} (h:aevo a x=some v):ORel w β dd v (x.map ca.eval):=by
 cases x with
 | none=>simp only [aevo,qS] at h; subst h; exact .inl ⟨rfl,rfl⟩
 | some x =>
  simp only [aevo,Option.map_eq_some_iff] at h
  obtain ⟨u,hu,rfl⟩:=h
  exact .inr ⟨u,_,rfl,rfl,hr x u hu⟩
theorem F2.len {α β:Type} {R:α→β→Prop} {l:List α} {m:List β} (h:F2 R l m):l.length=m.length:=by
 induction h with
 | nil=>rfl
 | cons _ _ ih=>simp [ih]
theorem F2.get {α β:Type} {R:α→β→Prop} {l:List α} {m:List β} (h:F2 R l m):∀ (i:Nat) a b,l[i]?=some a→m[i]?=some b→R a b:=by
 induction h with
 | nil=>intro i a b h; simp at h
 | cons hh _ ih =>
  intro i a b ha hb
  cases i with
  | zero=>simp at ha hb; subst ha; subst hb; exact hh
  | succ i=>simp at ha hb; exact ih i a b ha hb
theorem We {o:Oper} {v:AV} (h:afree P a o=some v) (hr:∀ x v,aev a x=some v→VRel w β dd v (ca.eval x)) :
  ∃ cv,(execOp ca.eval o).run P w=.ok (.value cv) w∧VRel w β dd v cv:=by
 obtain ⟨dst,op,type,pos,after,guard⟩:=o
 unfold afree at h
 simp only at h
 split at h
 ·exact ⟨_,rfl,hr _ _ h⟩
 ·exact ⟨_,rfl,hr _ _ h⟩
 ·rename_i c x y
  split at h
  ·rename_i hc
   have:=hr _ _ hc
   generalize hcc:ca.eval c=cc at this
   cases this
   exact ⟨_,by simp [execOp,hcc,asBool],hr _ _ h⟩
  ·rename_i hc
   have:=hr _ _ hc
   generalize hcc:ca.eval c=cc at this
   cases this
   exact ⟨_,by simp [execOp,hcc,asBool],hr _ _ h⟩
  ·cases h
 ·rename_i op T x y yt
  split at h
  ·rename_i x' y' hx hy
   obtain ⟨cv,h1,h2,h3⟩:=A7k (P:=P) (ox:=x) (oy:=y) h (hr _ _ hx) (hr _ _ hy)
   exact ⟨cv,by simp [execOp,h1,h2],h3⟩
  ·cases h
 ·rename_i op T x
  simp only [Option.bind_eq_some_iff] at h
  obtain ⟨x',hx,h⟩:=h
  obtain ⟨cv,h1,h2⟩:=A8y (P:=P) h (hr _ _ hx)
  exact ⟨cv,by simp [execOp,h1],h2⟩
 ·rename_i s d x
  simp only [Option.bind_eq_some_iff] at h
  obtain ⟨x',hx,h⟩:=h
  obtain ⟨cv,h1,h2⟩:=A6j (P:=P) h (hr _ _ hx)
  exact ⟨cv,by simp [execOp,h1],h2⟩
 ·rename_i f first captured
  split at h
  ·rename_i hf
   simp only [Option.map_eq_some_iff] at h
   obtain ⟨vs,hvs,rfl⟩:=h
   have hf':first=#[]:=by simpa using hf
   subst hf'
   have h2:=Xw hr _ _ hvs
   refine ⟨.func (.func f) #[] (captured.map ca.eval),by simp [execOp,Instr.makeFunc],?_⟩
   refine .fn (by have:=h2.len; simpa using this) ?_
   intro i v cv hv hcv
   refine h2.get i v cv hv ?_
   simpa using hcv
  ·cases h
 ·rename_i T x f
  simp only [Option.bind_eq_some_iff] at h
  obtain ⟨x',hx,h⟩:=h
  obtain ⟨cv,h1,h2⟩:=A4y (P:=P) h (hr _ _ hx)
  exact ⟨cv,by simp [execOp,h1],h2⟩
 ·rename_i T x ix
  split at h
  ·rename_i x' i' hx hi
   obtain ⟨cv,h1,h2⟩:=A92 (P:=P) h (hr _ _ hx) (hr _ _ hi)
   exact ⟨cv,by simp [execOp,h1],h2⟩
  ·cases h
 ·rename_i x i
  split at h
  ·rename_i vs hx
   have:=hr _ _ hx
   generalize hcc:ca.eval x=cc at this
   cases this with
   | tup hs ht =>
    rename_i cvs
    have hi:i<cvs.size:=by rw [← hs]; exact (qI h).1
    exact ⟨cvs[i],by simp [execOp,hcc,Instr.extract,hi],ht i v _ h (by simp [hi])⟩
  ·cases h
 ·rename_i T parts
  simp only [Option.bind_eq_some_iff] at h
  obtain ⟨vs,hvs,h⟩:=h
  have h2:=Qj hr _ _ hvs
  obtain ⟨cv,h3,h4⟩:=A47 (P:=P) (w:=w) (β:=β) (dd:=dd) (cparts:=parts.map fun p=>(p.1,ca.eval p.2)) h (by simpa using h2)
  exact ⟨cv,by simp [execOp,h3],h4⟩
 ·rename_i args at_
  split at h
  ·rename_i x y hxy
   split at h
   ·rename_i k m k' n hx hy
    simp only [qS] at h
    subst h
    have hx':=hr _ _ hx
    have hy':=hr _ _ hy
    generalize hcx:ca.eval x=cx at hx'
    generalize hcy:ca.eval y=cy at hy'
    cases hx'; cases hy'
    have e:args.map ca.eval=#[.int k m,.int k' n]:=by
     apply Array.ext'
     simp [hxy,hcx,hcy]
    exact ⟨_,by simp [execOp,resolve,invoke,builtin,e]; rw [run_min_int2]; rfl,.int⟩
   ·cases h
  ·cases h
 ·rename_i args at_
  split at h
  ·rename_i x y hxy
   split at h
   ·rename_i k m k' n hx hy
    simp only [qS] at h
    subst h
    have hx':=hr _ _ hx
    have hy':=hr _ _ hy
    generalize hcx:ca.eval x=cx at hx'
    generalize hcy:ca.eval y=cy at hy'
    cases hx'; cases hy'
    have e:args.map ca.eval=#[.int k m,.int k' n]:=by
     apply Array.ext'
     simp [hxy,hcx,hcy]
    exact ⟨_,by simp [execOp,resolve,invoke,builtin,e]; rw [run_max_int2]; rfl,.int⟩
   ·cases h
  ·cases h
 ·cases h
end
end Go.Proofs.YtldndhdohlfpgaaGreat.V
/- What an operation comes to that reads own blocks: the model's run. -/
namespace Go.Proofs.YtldndhdohlfpgaaGreat.V
open Go
section
variable {P:Program} {w:World} {β:Bm} {H:AH} {a:Asg} {ca:Act} {base:Nat}
theorem Rx {b:Nat} {off:Nat} {cv:Value} (hx:VRel w β (dead H) (.ptr b off) cv) (hl:¬ dead H b=some false):∃ p,β b=some p∧cv=.pointer (some ⟨p.B,off,none⟩):=by
 cases hx with
 | ptr hp=>exact ⟨_,hp,rfl⟩
 | ptrd hd=>exact absurd hd hl
theorem Aa {b:Nat} {k:ABlk} (h:H[b]?=some (some k)):¬ dead H b=some false:=by unfold dead; rw [h]; simp
theorem Wc {o:Oper} {v:AV} (s:SRel base β H w) (h:aread P H a o=some v) (hr:∀ x v,aev a x=some v→VRel w β (dead H) v (ca.eval x)) :
  ∃ cv,(execOp ca.eval o).run P w=.ok (.value cv) w∧VRel w β (dead H) v cv:=by
 obtain ⟨dst,op,type,pos,after,guard⟩:=o
 unfold aread at h
 simp only at h
 split at h
 ·rename_i T x lo hi mx
  split at h
  ·rename_i x' lo' hi' mx' hx hlo hhi hmx
   obtain ⟨cv,h1,h2⟩:=A4p h (hr _ _ hx) (Yy hr hlo) (Yy hr hhi) (Yy hr hmx)
   exact ⟨cv,by simp [execOp,h1],h2⟩
  ·cases h
 ·rename_i s' x f
  simp only [Option.bind_eq_some_iff] at h
  obtain ⟨x',hx,h⟩:=h
  obtain ⟨cv,h1,h2⟩:=A8j (P:=P) h (hr _ _ hx)
  exact ⟨cv,by simp [execOp,h1],h2⟩
 ·rename_i T x ix
  split at h
  ·rename_i x' i' hx hi
   obtain ⟨cv,h1,h2⟩:=A7z (P:=P) h (hr _ _ hx) (hr _ _ hi)
   exact ⟨cv,by simp [execOp,h1],h2⟩
  ·cases h
 ·rename_i t x
  split at h
  ·rename_i cells off hx
   have hx':=hr _ _ hx
   generalize hcx:ca.eval x=cx at hx'
   cases hx' with
   | el cvs hB hm hc hrr =>
    rename_i B o
    have:=Vp (P:=P) (w:=w) (β:=β) (dd:=dead H) (A:=⟨B,o,none⟩) h (fun i u hi=>⟨cvs i,by rw [addAddr]; exact (hc i u hi).1,(hc i u hi).2,hrr i u hi⟩)
    obtain ⟨cv,h1,h2⟩:=this
    rw [addAddr] at h1
    exact ⟨cv,by simp [execOp,hcx,Instr.loadAt,Instr.sureAddr,h1],h2⟩
  ·rename_i b off hx
   split at h
   ·rename_i k hk
    obtain ⟨p,hp,hcx⟩:=Rx (hr _ _ hx) (Aa hk)
    have:=Vp (P:=P) (w:=w) (β:=β) (dd:=dead H) (A:=⟨p.B,0,none⟩) h (fun i u hi=>by
     obtain ⟨cv,h1,h2,h3⟩:=s.cell hp hk hi
     exact ⟨cv,by rw [addAddr,Nat.zero_add]; exact h1,h2,h3⟩)
    obtain ⟨cv,h1,h2⟩:=this
    rw [addAddr,Nat.zero_add] at h1
    exact ⟨cv,by simp [execOp,hcx,Instr.loadAt,Instr.sureAddr,h1],h2⟩
   ·cases h
  ·cases h
 ·rename_i x
  split at h
  ·rename_i b off hx
   split at h
   ·rename_i hl
    simp only [qS] at h
    subst h
    obtain ⟨p,hp,hcx⟩:=Rx (hr _ _ hx) (Gy hl)
    exact ⟨_,by simp [execOp,hcx],.ptr hp⟩
   ·cases h
  ·rename_i cells off hx
   simp only [qS] at h
   subst h
   have hx':=hr _ _ hx
   generalize hcx:ca.eval x=cx at hx'
   cases hx' with
   | el cvs hB hm hc hrr=>exact ⟨_,by simp [execOp,hcx],.el cvs hB hm hc hrr⟩
  ·cases h
 ·rename_i args at_
  split at h
  ·rename_i x t hxs hts
   simp only [Option.bind_eq_some_iff] at h
   obtain ⟨x',hx,h⟩:=h
   obtain ⟨cv,h1,h2⟩:=A80 (P:=P) (ty:=type) h (hr _ _ hx)
   have e:args.map ca.eval=#[ca.eval x]:=by
    apply Array.ext'
    simp [hxs]
   have e2:at_=#[t]:=by apply Array.ext'; simp [hts]
   exact ⟨cv,by simp [execOp,resolve,invoke,builtin,e,e2,h1],h2⟩
  ·cases h
 ·rename_i s' d x
  split at h
  ·rename_i b off n e hx hs hd
   split at h
   ·rename_i k hk he
    split at h
    ·rename_i hc
     obtain ⟨hes,hlen⟩:=hc
     simp only [Option.map_eq_some_iff] at h
     obtain ⟨bs,hbs,rfl⟩:=h
     have hl:=Hu _ _ hbs
     have hx':=hr _ _ hx
     generalize hcx:ca.eval x=cx at hx'
     refine ⟨.string ⟨⟨bs⟩⟩,?_,.str⟩
     have hlb:bs.length=n:=by rw [hl]; simp; omega
     cases hx' with
     | sl hp hn hm hcap =>
      rename_i p cap
      have:=Jp (P:=P) (w:=w) (β:=β) (dd:=dead H) (Rq hbs) ⟨p.B,off,none⟩ cap (fun i v hi=>by
       rw [List.map_take,List.map_drop,List.getElem?_take] at hi
       split at hi
       ·rw [List.getElem?_drop] at hi
        obtain ⟨cv,h1,h2,h3⟩:=s.cell hp hk hi
        exact ⟨cv,by rw [addAddr]; exact h1,h3⟩
       ·cases hi)
      rw [hlb] at this
      simp [execOp,hcx,run_convert_bytes_string w s' d e _ _ _ hs he hd,this]
     | sl0 hin =>
      rename_i a'
      have hb0:bs=[]:=List.eq_nil_of_length_eq_zero hlb
      subst hb0
      cases a' with
      | none=>simp [execOp,hcx,run_convert_bytes_string w s' d e _ _ _ hs he hd]; rfl
      | some A =>
       have:=Jp (P:=P) (w:=w) (β:=β) (dd:=dead H) (cells:=[]) (bs:=[]) rfl A 0 (by simp)
       simp only [List.length_nil] at this
       simp [execOp,hcx,run_convert_bytes_string w s' d e _ _ _ hs he hd,this]
     | sld hd'=>exact absurd hd' (Aa hk)
    ·cases h
   ·cases h
  ·cases h
 ·cases h
end
end Go.Proofs.YtldndhdohlfpgaaGreat.V
/- New own blocks. -/
namespace Go.Proofs.YtldndhdohlfpgaaGreat.V
open Go
def AV.strip:AV→AV
 | .lst _ es cells n=>.lst false es cells n
 | v=>v
section
variable {w:World} {β:Bm} {dd:Nat→Option Bool}
theorem VRel.strip {v:AV} {cv:Value} (h:VRel w β dd v cv):VRel w β dd v.strip cv:=by
 cases h <;> try (constructor <;> assumption)
 all_goals (simp only [AV.strip]; constructor <;> assumption)
theorem AV.strip_ne (v:AV):∀ es cells n,v.strip≠.lst true es cells n:=by
 intro es cells n e
 cases v <;> simp [AV.strip] at e
theorem LRel.strip {vs:List AV} {cvs:List Value} (h:LRel w β dd vs cvs):LRel w β dd (vs.map AV.strip) cvs:=by
 refine ⟨by simp [h.len],?_,h.one⟩
 intro i v cv hv hcv
 simp only [List.getElem?_map,Option.map_eq_some_iff] at hv
 obtain ⟨u,hu,rfl⟩:=hv
 exact (h.rel i u cv hu hcv).strip
end
structure Pushed (w w':World) (o:Obj):Prop where
 heap:w'.heap=w.heap.push o
 os:w'.os=w.os
 tape:w'.tape=w.tape
 output:w'.output=w.output
theorem Pushed.alloc (w:World) (o:Obj):Pushed w (w.alloc o) o:=⟨rfl,rfl,rfl,rfl⟩
theorem Pushed.old {w w':World} {o:Obj} (h:Pushed w w' o) {k:Nat} (hk:k<w.heap.size):w'.heap[k]?=w.heap[k]?:=by
 rw [h.heap,Array.getElem?_push,if_neg (by omega)]
theorem Pushed.new {w w':World} {o:Obj} (h:Pushed w w' o):w'.heap[w.heap.size]?=some o:=by
 rw [h.heap,Array.getElem?_push,if_pos rfl]
theorem Pushed.size {w w':World} {o:Obj} (h:Pushed w w' o):w'.heap.size=w.heap.size+1:=by rw [h.heap]; simp
def Bm.add (β:Bm) (n:Nat) (p:Loc):Bm:=fun b=>if b=n then some p else β b
theorem Ext.push {nw:Nat} {β:Bm} {H:AH} {w w':World} {o:Obj} {p:Loc} {k:ABlk} (hlt:∀ b q,β b=some q→b<H.length) (h:Pushed w w' o) (hp:p.B=w.heap.size) (hpf:p.fp=[]):Ext nw β H w (β.add H.length p) (H++[some k]) w' where
 len:=by simp
 keep:=by
  intro b q hq k' _
  have hne:b≠H.length:=by have:=hlt b q hq; omega
  exact ⟨q,by simp [Bm.add,hne,hq],rfl,rfl,rfl⟩
 old:=by
  intro b p' hb hp'
  simp only [Bm.add] at hp'
  rw [if_neg (by omega)] at hp'
  exact ⟨p',hp',rfl⟩
 dead:=by
  intro b hb
  rw [List.getElem?_append_left (qI hb).1]
  exact hb
 own:=by
  intro b q hq j hj
  simp only [Bm.add] at hq
  split at hq
  ·simp only [qS] at hq
   subst hq
   rw [hpf] at hj
   simp only [List.mem_singleton] at hj
   exact .inl (by omega)
  ·exact .inr ⟨b,q,hq,hj,.inl rfl⟩
 wsz:=by rw [h.size]; omega
 os:=h.os
 tape:=h.tape
 output:=h.output
 frame:=fun k hk _=>h.old hk
theorem FT.ext {w w':World} {v:AV} {cv:Value} {fp:List Nat} (h:FT w v cv fp):(∀ B∈fp,w'.heap[B]?=w.heap[B]?)→FT w' v cv fp:=by
 induction h with
 | und=>exact fun _=>.und
 | int=>exact fun _=>.int
 | bool=>exact fun _=>.bool
 | str=>exact fun _=>.str
 | nils=>exact fun _=>.nils
 | lst0=>exact fun _=>.lst0
 | lst hl cvs fps hb hn hm hsz hc hr ih =>
  intro ho
  refine .lst hl cvs fps ((ho _ (by simp)).trans hb) hn hm hsz hc ?_
  intro i v hi
  refine ih i v hi fun B' hB'=>ho B' ?_
  exact List.mem_cons_of_mem _ (List.mem_flatMap.2 ⟨i,List.mem_range.2 (qI hi).1,hB'⟩)
 | lst0v=>exact fun _=>.lst0v
 | lstv hl cvs fps hb hn hc hr ih =>
  intro ho
  refine .lstv hl cvs fps ((ho _ (by simp)).trans hb) hn hc ?_
  intro i v hi
  refine ih i v hi fun B' hB'=>ho B' ?_
  exact List.mem_cons_of_mem _ (List.mem_flatMap.2 ⟨i,List.mem_range.2 (qI hi).1,hB'⟩)
 | agg fps hs hr h1 ih =>
  intro ho
  refine .agg fps hs ?_ h1
  intro i v cv hv hcv
  exact ih i v cv hv hcv fun B' hB'=>ho B' (List.mem_flatMap.2 ⟨i,List.mem_range.2 (qI hv).1,hB'⟩)
 | tup fps hs hr ih =>
  intro ho
  refine .tup fps hs ?_
  intro i v cv hv hcv
  exact ih i v cv hv hcv fun B' hB'=>ho B' (List.mem_flatMap.2 ⟨i,List.mem_range.2 (qI hv).1,hB'⟩)
theorem BRel.ext {nw base:Nat} {β β':Bm} {H H':AH} {w w':World} (s:SRel base β H w) (h:Ext nw β H w β' H' w') {p:Loc} {k:ABlk} (hb:BRel w β (dead H) k p) (hh:∀ B∈p.B::p.fp,w'.heap[B]?=w.heap[B]?):BRel w' β' (dead H') k p:=by
 obtain ⟨hes,c,T,cvs,fps,h1,h2,h3,h4,h5⟩:=hb
 refine ⟨hes,c,T,cvs,fps,(hh p.B (by simp)).trans h1,h2,h3,?_,h5⟩
 intro i v hi
 obtain ⟨g1,g2,g3⟩:=h4 i v hi
 refine ⟨g1,g2,?_⟩
 cases g3 with
 | own g ho =>
  refine .own (g.ext fun B hB=>hh B ?_) ho
  rw [h5]
  exact List.mem_cons_of_mem _ (List.mem_flatMap.2 ⟨i,List.mem_range.2 (qI hi).1,hB⟩)
 | shr g hn hf=>exact .shr (g.ext s h) hn hf
theorem Kx (n:Nat):(List.range n).flatMap (fun _=>([]:List Nat))=[]:=by
 rw [List.flatMap_eq_nil_iff]; simp
theorem SRel.push {base:Nat} {β:Bm} {H:AH} {w w':World} (s:SRel base β H w) {cc:Array Value} {T:TypeId} {cells:List AV} {es:Nat} (h:Pushed w w' (.cells cc T (0,0))) (hbase:base≤w.heap.size) (hl:cells.length≤cc.size)
  (hc:∀ (i:Nat) v,cells[i]?=some v→∃ cv,cc[i]?=some cv∧cv.oneCell'=true∧VRel w β (dead H) v cv) (hn:∀ v∈cells,∀ es' cells' n,v≠.lst true es' cells' n) :
  SRel base (β.add H.length ⟨w.heap.size,cc.size,es,[]⟩) (H++[some ⟨cells,es⟩]) w':=by
 have e:Ext 0 β H w (β.add H.length ⟨w.heap.size,cc.size,es,[]⟩) (H++[some ⟨cells,es⟩]) w':=Ext.push (fun b q hq=>s.lt hq) h rfl rfl
 have cases':∀ b q,(β.add H.length ⟨w.heap.size,cc.size,es,[]⟩) b=some q→(b=H.length∧q=⟨w.heap.size,cc.size,es,[]⟩)∨(b≠H.length∧β b=some q):=by
  intro b q hq
  simp only [Bm.add] at hq
  split at hq
  ·rename_i hb; simp only [qS] at hq; exact .inl ⟨hb,hq.symm⟩
  ·rename_i hb; exact .inr ⟨hb,hq⟩
 refine ⟨?_,?_,?_,?_⟩
 ·intro b q hq
  rcases cases' b q hq with ⟨rfl,rfl⟩ | ⟨hb,hq'⟩
  ·refine ⟨⟨cells,es⟩,by simp,rfl,cc,T,fun i=>cc.getD i undef,fun _=>[],h.new,rfl,hl,?_,by rw [Kx]⟩
   intro i v hi
   obtain ⟨cv,h1,h2,h3⟩:=hc i v hi
   have ecv:cc.getD i undef=cv:=by simp [Array.getD_eq_getD_getElem?,h1]
   simp only [ecv]
   exact ⟨h1,h2,.shr (h3.ext s e) (hn v (qM hi)) rfl⟩
  ·obtain ⟨k,hk,hbr⟩:=s.blk b q hq'
   refine ⟨k,?_,hbr.ext s e ?_⟩
   ·rw [List.getElem?_append_left (s.lt hq')]; exact hk
   ·intro B hB
    exact h.old (s.ge b q hq' B hB).2
 ·intro b q hq
  rcases cases' b q hq with ⟨rfl,rfl⟩ | ⟨hb,hq'⟩
  ·simp
  ·exact s.nodup b q hq'
 ·intro b q hq k hk
  rw [h.size]
  rcases cases' b q hq with ⟨rfl,rfl⟩ | ⟨hb,hq'⟩
  ·simp at hk; subst hk; exact ⟨hbase,by omega⟩
  ·have:=s.ge b q hq' k hk; exact ⟨this.1,by omega⟩
 ·intro b q b' q' hq hq' hne k hk hk'
  rcases cases' b q hq with ⟨rfl,rfl⟩ | ⟨hb,hq1⟩ <;> rcases cases' b' q' hq' with ⟨rfl,rfl⟩ | ⟨hb',hq2⟩
  ·exact hne rfl
  ·simp at hk; subst hk
   have:=(s.ge b' q' hq2 _ hk').2
   omega
  ·simp at hk'; subst hk'
   have:=(s.ge b q hq1 _ hk).2
   omega
  ·exact s.disj b q b' q' hq1 hq2 hne k hk hk'
end Go.Proofs.YtldndhdohlfpgaaGreat.V
/- Operations that make an own block. -/
namespace Go.Proofs.YtldndhdohlfpgaaGreat.V
open Go Go.RowKit
def zrep (z:List AV) (n:Nat):List AV:=(List.replicate n z).flatten
theorem Wi (z:List AV) (n:Nat):(zrep z n).length=n*z.length:=by simp [zrep]
theorem A64 (z:List AV) (n:Nat):zrep z (n+1)=z++zrep z n:=by simp [zrep,List.replicate_succ]
theorem A38 (z:List AV):∀ (n i:Nat),i<n*z.length→(zrep z n)[i]?=z[i%z.length]?
 | 0,i,h=>by simp at h
 | n+1,i,h=>by
  rw [A64]
  by_cases hi:i<z.length
  ·rw [List.getElem?_append_left hi,Nat.mod_eq_of_lt hi]
  ·have h':i<n*z.length+z.length:=by rw [Nat.add_mul,Nat.one_mul] at h; exact h
   rw [List.getElem?_append_right (by omega),A38 z n (i - z.length) (by omega)]
   congr 1
   exact (Nat.mod_eq_sub_mod (by omega)).symm
theorem Jo {nw base:Nat} {β:Bm} {H:AH} {w w':World} (_:SRel base β H w) (b:Below w.heap.size w w'):Ext nw β H w β H w' :=
 ⟨Nat.le_refl _,fun _ p hp _ _=>⟨p,hp,rfl,rfl,rfl⟩,fun _ p _ hp=>⟨p,hp,rfl⟩,fun _ h=>h,fun b p hp _ hj=>.inr ⟨b,p,hp,hj,.inl rfl⟩,b.size,b.os,b.tape,b.output,fun k hk _=>b.block k hk⟩
theorem SRel.below {base:Nat} {β:Bm} {H:AH} {w w':World} (s:SRel base β H w) (b:Below w.heap.size w w'):SRel base β H w':=by
 have e:=Jo (nw:=0) s b
 refine ⟨?_,s.nodup,fun b' p hp k hk=>⟨(s.ge b' p hp k hk).1,Nat.lt_of_lt_of_le (s.ge b' p hp k hk).2 b.size⟩,s.disj⟩
 intro b' p hp
 obtain ⟨k,hk,hb⟩:=s.blk b' p hp
 exact ⟨k,hk,hb.ext s e fun B hB=>b.block B (s.ge b' p hp B hB).2⟩
def amk (P:Program) (H:AH) (a:Asg) (o:Oper):Option (AV×AH) :=
 match o.op with
 | .alloc T=>(zeroT P T).map fun z=>(.ptr H.length 0,H++[some ⟨z,0⟩])
 | .box _ x=>match aev a x with
  | some v=>if (v.one||v.isAgg)=true then some (.ptr H.length 0,H++[some ⟨v.cells.map AV.strip,0⟩]) else none
  | none=>none
 | .buildSlice T len parts=>if len=0∧parts.toList=[] then (match elT P T with
  | some e=>match zeroT P e with
   | some z=>if hasT P e=true∧z.length=szT P e∧0<szT P e then some (.nils,H) else none
   | none=>none
  | none=>none) else match elT P T,aparts a parts.toList with
  | some e,some ps=>match zeroT P e with
   | some z=>if hasT P e=true∧z.length=szT P e∧len*szT P e≤16777216∧0<szT P e then (afill (fun i=>some (i*szT P e,szT P e)) (zrep z len) ps).map fun cells=>(.sl H.length 0 len,H++[some ⟨cells.map AV.strip,szT P e⟩]) else none
   | none=>none
  | _,_=>none
 | .makeSlice T l c=>match elT P T,aev a l,aev a c with
  | some e,some (.int _ n),some (.int _ m)=>match zeroT P e with
   | some z=>if 0≤n∧n=m∧(byT P e:Int)*n≤140737488355328∧n≤140737488355328∧z.length=szT P e∧0<szT P e then some (.sl H.length 0 n.toNat,H++[some ⟨zrep z n.toNat,szT P e⟩]) else none
   | none=>none
  | _,_,_=>none
 | _=>none
section
variable {P:Program} {w:World} {β:Bm} {dd:Nat→Option Bool} {H:AH} {a:Asg} {ca:Act} {base:Nat}
theorem Bm.add_self (β:Bm) (n:Nat) (p:Loc):β.add n p n=some p:=by simp [Bm.add]
theorem A5f (v:Value):∀ es cells n,cstC v≠.lst true es cells n:=by
 intro es cells n e
 unfold cstC at e
 split at e <;> cases e
theorem Zg {t:TypeId} {z:List AV} (h:zeroT P t=some z):∀ v∈z,∀ es cells n,v≠.lst true es cells n:=by
 unfold zeroT at h
 split at h
 ·rename_i zv hz
  split at h
  ·rename_i cs hc
   simp only [qS] at h
   subst h
   unfold cst at hc
   split at hc
   ·split at hc
    ·simp only [AV.agg.injEq] at hc
     subst hc
     intro v hv
     simp only [List.mem_map] at hv
     obtain ⟨c,_,rfl⟩:=hv
     exact A5f c
    ·cases hc
   ·unfold cstC at hc
    split at hc <;> cases hc
  ·split at h
   ·cases h
    intro v hv es cells n e
    simp at hv; subst hv; cases e
   ·cases h
  ·rename_i h1 h2
   simp only [qS] at h
   subst h
   intro v hv es cells n e
   simp only [List.mem_singleton] at hv
   subst hv
   unfold cst at e
   split at e
   ·split at e <;> cases e
   ·exact A5f _ _ _ _ e
 ·cases h
theorem LRel.zrep {z:List AV} {cz:Array Value} (h:LRel w β dd z cz.toList) (n:Nat):LRel w β dd (zrep z n) (madeCells cz (n*cz.size)).toList:=by
 have hl:z.length=cz.size:=by simpa using h.len
 have hm:∀ i,i<n*cz.size→(madeCells cz (n*cz.size))[i]?=cz[i%cz.size]?:=by
  intro i hi
  have hpos:0<cz.size:=by
   rcases Nat.eq_zero_or_pos cz.size with h0 | h0
   ·rw [h0] at hi; simp at hi
   ·exact h0
  have hlt:i%cz.size<cz.size:=Nat.mod_lt _ hpos
  simp [madeCells,hi,hlt]
 refine ⟨?_,?_,?_⟩
 ·rw [Wi,hl]; simp [size_madeCells]
 ·intro i v cv hv hcv
  have hi:i<n*z.length:=by
   have:=(qI hv).1
   rwa [Wi] at this
  rw [A38 z n i hi] at hv
  rw [Array.getElem?_toList,hm i (by rw [← hl]; exact hi)] at hcv
  rw [hl] at hv
  exact h.rel _ v cv hv (by simpa using hcv)
 ·intro c hc
  obtain ⟨i,hi⟩:=List.getElem?_of_mem hc
  have hlt:i<n*cz.size:=by
   have:=(qI hi).1
   simpa [size_madeCells] using this
  rw [Array.getElem?_toList,hm i hlt] at hi
  exact h.one c (qM (by simpa using hi))
theorem LRel.cell {vs:List AV} {cc:Array Value} (h:LRel w β dd vs cc.toList) {i:Nat} {v:AV} (hv:vs[i]?=some v):∃ cv,cc[i]?=some cv∧cv.oneCell'=true∧VRel w β dd v cv:=by
 obtain ⟨cv,h1,h2,h3⟩:=h.get hv
 exact ⟨cv,by simpa using h1,h3,h2⟩
theorem Xc {v:AV} {cells:List AV} {es:Nat} {cc:Array Value} {T:TypeId} {cv:Value} (s:SRel base β H w) (hb:base≤w.heap.size) (hl:LRel w β (dead H) cells cc.toList) (hn:∀ v∈cells,∀ es' cells' n,v≠.lst true es' cells' n)
  (hv:VRel (w.alloc (.cells cc T)) (β.add H.length ⟨w.heap.size,cc.size,es,[]⟩) (dead (H++[some ⟨cells,es⟩])) v cv) :
  ∃ β',SRel base β' (H++[some ⟨cells,es⟩]) (w.alloc (.cells cc T))∧VRel (w.alloc (.cells cc T)) β' (dead (H++[some ⟨cells,es⟩])) v cv∧∀ nw,Ext nw β H w β' (H++[some ⟨cells,es⟩]) (w.alloc (.cells cc T)) :=
 ⟨_,s.push (Pushed.alloc w _) hb (by have:=hl.len; simp at this; omega) (fun i v hv=>hl.cell hv) hn,hv,fun nw=>Ext.push (fun b q hq=>s.lt hq) (Pushed.alloc w _) rfl rfl⟩
theorem A5y {o:Oper} {v:AV} {H':AH} (s:SRel base β H w) (hb:base≤w.heap.size) (h:amk P H a o=some (v,H')) (hr:∀ x v,aev a x=some v→VRel w β (dead H) v (ca.eval x)) :
  ∃ cv w' β',(execOp ca.eval o).run P w=.ok (.value cv) w'∧SRel base β' H' w'∧VRel w' β' (dead H') v cv∧∀ nw,Ext nw β H w β' H' w':=by
 obtain ⟨dst,op,type,pos,after,guard⟩:=o
 unfold amk at h
 simp only at h
 split at h
 ·rename_i T
  simp only [Option.map_eq_some_iff,Prod.mk.injEq] at h
  obtain ⟨z,hz,rfl,rfl⟩:=h
  obtain ⟨it,zv,hit,hzv,hzr⟩:=Ce (w:=w) (β:=β) (dd:=dead H) hz
  obtain ⟨β',h1,h2,h3⟩:=Xc (T:=T) (es:=0) s hb hzr (Zg hz) (.ptr (Bm.add_self _ _ _))
  exact ⟨_,_,β',by simp [execOp,Instr.alloc,zeroValue,typeInfo,hit,hzv,newVar,newRow],h1,h2,h3⟩
 ·rename_i T x
  split at h
  ·rename_i u hu
   split at h
   ·rename_i hone
    simp only [qS,Prod.mk.injEq] at h
    obtain ⟨rfl,rfl⟩:=h
    have hone':u.one=true∨∃ cs,u=.agg cs:=by
     simp only [Bool.or_eq_true] at hone
     rcases hone with c3 | c3
     ·exact .inl c3
     ·cases u <;> simp [AV.isAgg] at c3
      exact .inr ⟨_,rfl⟩
    have hl:=((hr _ _ hu).cells hone').strip
    obtain ⟨β',h1,h2,h3⟩:=Xc (T:=T) (es:=0) s hb hl (by
     intro v hv
     simp only [List.mem_map] at hv
     obtain ⟨q,_,rfl⟩:=hv
     exact AV.strip_ne q) (.ptr (Bm.add_self _ _ _))
    exact ⟨_,_,β',by simp [execOp,Instr.box,newVar,newRow],h1,h2,h3⟩
   ·cases h
  ·cases h
 ·rename_i T len parts
  split at h
  ·rename_i h00
   obtain ⟨rfl,hp0⟩:=h00
   have hp1:parts=#[]:=by cases parts; simp at hp0; subst hp0; rfl
   subst hp1
   split at h
   ·rename_i e he
    split at h
    ·rename_i z hz
     split at h
     ·rename_i hc
      obtain ⟨hh,hzl,hpos⟩:=hc
      simp only [qS,Prod.mk.injEq] at h
      obtain ⟨rfl,rfl⟩:=h
      have hT:P.underlying T=some (.slice e):=by
       unfold elT at he
       split at he
       ·rename_i e' hq; simp only [qS] at he; subst he; exact hq
       ·cases he
      have hr0:Array.range 0=#[]:=by rw [Array.range_zero']
      have hrun:(Instr.buildSlice T 0 #[]).run P w=.ok (.slice (some ⟨w.heap.size,0,none⟩) 0 0) (w.alloc (.cells #[] e)):=by
       simp only [Instr.buildSlice,Sem.run_bind,run_underlying hT,Result.andThen_ok,V4 hh]
       simp [hr0,Instr.fill,newRow]
      have hbel:Below w.heap.size w (w.alloc (.cells #[] e)):=by
       refine ⟨rfl,rfl,rfl,?_,?_⟩
       ·show w.heap.size≤(w.heap.push _).size
        rw [Array.size_push]; omega
       ·intro k hk
        show (w.heap.push _)[k]?=w.heap[k]?
        rw [Array.getElem?_push,if_neg (by omega)]
      refine ⟨.slice (some ⟨w.heap.size,0,none⟩) 0 0,_,β,?_,s.below hbel,.nils,fun nw=>Jo s hbel⟩
      simp [execOp,hrun]
     ·cases h
    ·cases h
   ·cases h
  split at h
  ·rename_i e ps he hps
   split at h
   ·rename_i z hz
    split at h
    ·rename_i hc
     obtain ⟨hh,hzl,h24,hpos⟩:=hc
     simp only [Option.map_eq_some_iff,Prod.mk.injEq] at h
     obtain ⟨cells,hfill,rfl,rfl⟩:=h
     obtain ⟨it,zv,hit,hzv,hzr⟩:=Ce (w:=w) (β:=β) (dd:=dead H) hz
     have hsz:zv.cells.size=szT P e:=by rw [← hzl]; have:=hzr.len; simp at this; omega
     have hT:P.underlying T=some (.slice e):=by
      unfold elT at he
      split at he
      ·rename_i e' hq; simp only [qS] at he; subst he; exact hq
      ·cases he
     have hparts:=Qj hr _ _ hps
     obtain ⟨cc,hcc,hcr⟩:=Tp ps (parts.map fun p=>(p.1,ca.eval p.2)).toList _ _ cells (madeCells zv.cells (len*zv.cells.size)) hfill (hzr.zrep len) (by simpa using hparts)
     have hcl:=hcr.strip
     have hcsz:cc.size=len*szT P e:=by
      have h0:∀ (place:Nat→Option (Nat×Nat)) (l:List (Nat×Value)) (c0 c1:Array Value),Instr.fill place c0 l=some c1→c1.size=c0.size:=by
       intro place l
       induction l with
       | nil=>intro c0 c1 hq; simp only [Instr.fill,qS] at hq; rw [hq]
       | cons x l ih =>
        intro c0 c1 hq
        obtain ⟨i,v⟩:=x
        simp only [Instr.fill] at hq
        split at hq
        ·cases hq
        ·split at hq
         ·cases hq
         ·have:=ih _ _ hq
          rw [this,← Array.foldl_toList]
          generalize v.cells.zipIdx.toList=ll
          clear this hq
          rename_i hnn
          clear hnn
          induction ll generalizing c0 with
          | nil=>rfl
          | cons y ll ih2=>simp only [List.foldl_cons]; rw [ih2]; simp
      rw [h0 _ _ _ _ hcc,size_madeCells,hsz]
     obtain ⟨β',h1,h2,h3⟩:=Xc (T:=e) (es:=szT P e) (cc:=cc) s hb hcl (by
      intro v hv
      simp only [List.mem_map] at hv
      obtain ⟨q,_,rfl⟩:=hv
      exact AV.strip_ne q) (.sl (off:=0) (n:=len) (cap:=len) (Bm.add_self _ _ _) (Nat.le_refl _) (by
       have:len≤len*szT P e:=Nat.le_mul_of_pos_right _ hpos
       simp only [maxLen]; omega) (by intro _; simp [hcsz]))
     refine ⟨_,_,β',?_,h1,h2,h3⟩
     have hne:¬ (16777216<len*szT P e):=by omega
     have hmade:(if len*szT P e=0 then (#[]:Array Value) else zv.cells)=zv.cells∨len*szT P e=0:=by
      by_cases h0:len*szT P e=0
      ·exact .inr h0
      ·exact .inl (by simp [h0])
     have hrun:(Instr.buildSlice T len (parts.map fun p=>(p.1,ca.eval p.2))).run P w=.ok (.slice (some ⟨w.heap.size,0,none⟩) len len) (w.alloc (.cells cc e)):=by
      have hcc':Instr.fill (fun i=>some (i*szT P e,szT P e)) ((Array.range (len*szT P e)).map (zv.cells[·%zv.cells.size]!)) (parts.map fun p=>(p.1,ca.eval p.2)).toList=some cc:=by
       rw [← hcc]; simp [madeCells,hsz]
      by_cases h0:len*szT P e=0
      ·have hcc0:Instr.fill (fun i=>some (i*szT P e,szT P e)) ((Array.range (len*szT P e)).map ((#[]:Array Value)[·%(#[]:Array Value).size]!)) (parts.map fun p=>(p.1,ca.eval p.2)).toList=some cc:=by
        have hr0:Array.range 0=#[]:=by rw [Array.range_zero']
        rw [← hcc',h0,hr0,Array.map_empty,Array.map_empty]
       simp only [Instr.buildSlice,Sem.run_bind,run_underlying hT,Result.andThen_ok,V4 hh,h0,if_true] at hcc0 ⊢
       rw [h0] at hne
       simp only [if_neg hne,Sem.run_bind,Sem.run_pure,Result.andThen_ok]
       rw [hcc0]
       rfl
      ·simp only [Instr.buildSlice,Sem.run_bind,run_underlying hT,Result.andThen_ok,V4 hh,if_neg hne,if_neg h0,Sem.run_pure,zeroValue,typeInfo,run_program,hit,hzv]
       rw [hcc']
       rfl
     simp [execOp,hrun]
    ·cases h
   ·cases h
  ·cases h
 ·rename_i T l c
  split at h
  ·rename_i e k n k' m he hl hc
   split at h
   ·rename_i z hz
    split at h
    ·rename_i hcd
     obtain ⟨h0,rfl,hby,hn,hzl,hpos⟩:=hcd
     simp only [qS,Prod.mk.injEq] at h
     obtain ⟨rfl,rfl⟩:=h
     obtain ⟨it,zv,hit,hzv,hzr⟩:=Ce (w:=w) (β:=β) (dd:=dead H) hz
     have hsz:zv.cells.size=szT P e:=by rw [← hzl]; have:=hzr.len; simp at this; omega
     have hT:P.underlying T=some (.slice e):=by
      unfold elT at he
      split at he
      ·rename_i e' hq; simp only [qS] at he; subst he; exact hq
      ·cases he
     have hits:it.size=szT P e:=by simp [szT,hit]
     have hitb:it.bytes=byT P e:=by simp [byT,hit]
     have hl':=hr _ _ hl
     have hc':=hr _ _ hc
     generalize hcl:ca.eval l=cl at hl'
     generalize hcc:ca.eval c=cc at hc'
     cases hl'; cases hc'
     have hrun:=run_make (P:=P) w T e it zv hT hit hzv k k' n n h0 (Int.le_refl _) (by rw [hitb]; omega) (by omega)
     obtain ⟨β',h1,h2,h3⟩:=Xc (T:=e) (es:=szT P e) s hb (hzr.zrep n.toNat) (by
      intro v hv
      unfold zrep at hv
      rw [List.mem_flatten] at hv
      obtain ⟨zz,hzz,hv⟩:=hv
      rw [List.mem_replicate] at hzz
      rw [hzz.2] at hv
      exact Zg hz v hv) (.sl (off:=0) (n:=n.toNat) (cap:=n.toNat) (Bm.add_self _ _ _) (Nat.le_refl _) (by simp only [maxLen]; omega) (by intro _; simp [size_madeCells,hsz]))
     rw [hits,← hsz] at hrun
     exact ⟨_,_,β',by simp [execOp,hcl,hcc,hrun],h1,h2,h3⟩
    ·cases h
   ·cases h
  ·cases h
 ·cases h
end
end Go.Proofs.YtldndhdohlfpgaaGreat.V
