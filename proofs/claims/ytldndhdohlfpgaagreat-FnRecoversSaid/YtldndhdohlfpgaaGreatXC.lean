/- The machine of values, part C. -/
import Derived.Test.YtldndhdohlfpgaaGreatXB
/- Calls by value: what is handed over is data, what comes back is new data; and how it becomes own blocks. -/
namespace Go.Proofs.YtldndhdohlfpgaaGreat.V
open Go Go.RowKit
inductive Dat:AV→Prop
 | int {k n}:Dat (.int k n)
 | bool {b}:Dat (.bool b)
 | str {s}:Dat (.str s)
 | nils:Dat .nils
 | lst {o es cells n} (h:∀ v∈cells,Dat v):Dat (.lst o es cells n)
 | agg {vs} (h:∀ v∈vs,Dat v):Dat (.agg vs)
 | fn {f}:Dat (.fn f [])
inductive Own:AV→Prop
 | int {k n}:Own (.int k n)
 | bool {b}:Own (.bool b)
 | str {s}:Own (.str s)
 | nils:Own .nils
 | lst {es cells n} (h:∀ v∈cells,Own v):Own (.lst true es cells n)
def noB:Bm:=fun _=>none
theorem Dat.rel {w:World} {β:Bm} {dd:Nat→Option Bool} {v:AV} (hd:Dat v):∀ {cv:Value},VRel w β dd v cv→∀ dd',VRel w noB dd' v cv:=by
 induction hd with
 | int=>intro cv h dd'; cases h; exact .int
 | bool=>intro cv h dd'; cases h; exact .bool
 | str=>intro cv h dd'; cases h; exact .str
 | nils=>intro cv h dd'; cases h; exact .nils
 | lst hc ih =>
  intro cv h dd'
  cases h with
  | lst0=>exact .lst0
  | lst hl hn cvs hB hm hcc hr=>exact .lst hl hn cvs hB (fun b p hp=>by cases hp) hcc (fun i v hi=>ih v (qM hi) (hr i v hi) dd')
 | agg hc ih =>
  intro cv h dd'
  cases h with
  | agg hs hr h1=>exact .agg hs (fun i v cv hv hcv=>ih v (qM hv) (hr i v cv hv hcv) dd') h1
 | fn =>
  intro cv h dd'
  cases h with
  | fn hs hr=>exact .fn hs (fun i v cv hv hcv=>by simp at hv)
inductive DR (H:AH):AV→AV→Prop
 | dat {v} (h:Dat v):DR H v v
 | nil {o es}:DR H .nils (.lst o es [] 0)
 | sl {b off n o es k ds} (hk:H[b]?=some (some k)) (hes:k.es=es) (hl:off+n*es≤k.cells.length) (hd:ds.length=n*es) (h:∀ (i:Nat) v d,((k.cells.drop off).take (n*es))[i]?=some v→ds[i]?=some d→DR H v d):DR H (.sl b off n) (.lst o es ds n)
 | agg {vs ds} (hl:vs.length=ds.length) (h:∀ (i:Nat) v d,vs[i]?=some v→ds[i]?=some d→DR H v d):DR H (.agg vs) (.agg ds)
theorem DR.relN {w:World} {H:AH} {v d:AV} (hd:DR H v d):∀ {cv:Value},VRel w (fun _=>none) (fun _=>none) v cv→VRel w noB (dead []) d cv:=by
 induction hd with
 | dat h=>intro cv hv; exact h.rel hv _
 | nil=>intro cv hv; cases hv; exact .lst0
 | sl hk hes hl hdl h ih =>
  intro cv hv
  cases hv with
  | sl hp=>cases hp
  | sl0 hh=>exact absurd rfl hh
  | sld hh=>cases hh
 | agg hl h ih =>
  intro cv hv
  cases hv with
  | agg hs hr h1 =>
   refine .agg (by omega) ?_ h1
   intro i d cv hi hcv
   rename_i vs ds cvs
   have hil:i<vs.length:=by rw [hl]; exact (qI hi).1
   exact ih i vs[i] d (qG hil) hi (hr i vs[i] cv (qG hil) hcv)
theorem DR.rel {w:World} {β:Bm} {H:AH} {base:Nat} (s:SRel base β H w) {v d:AV} (hd:DR H v d):∀ {cv:Value},VRel w β (dead H) v cv→VRel w noB (dead []) d cv:=by
 induction hd with
 | dat h=>intro cv hv; exact h.rel hv _
 | nil=>intro cv hv; cases hv; exact .lst0
 | sl hk hes hl hdl h ih =>
  rename_i b off n o es k ds
  intro cv hv
  cases hv with
  | sl hp hn hm hc =>
   rename_i p cap
   have hcell:∀ (i:Nat) d,ds[i]?=some d→∃ cv,w.cell? ⟨p.B,off+i,none⟩=some cv∧cv.oneCell'=true∧VRel w noB (dead []) d cv:=by
    intro i d hi
    have hil:i<n*es:=by rw [← hdl]; exact (qI hi).1
    have hci:k.cells[off+i]?=some (k.cells[off+i]'(by omega)):=qG (by omega)
    have hget:((k.cells.drop off).take (n*es))[i]?=some (k.cells[off+i]'(by omega)):=by
     rw [List.getElem?_take,if_pos hil,List.getElem?_drop]; exact hci
    obtain ⟨cv,fp,h1,h2,h3⟩:=s.cell' hp hk hci
    rcases h3.data with h3 | h3
    ·exact ⟨cv,h1,h2,ih i _ d hget hi h3⟩
    ·exact ⟨cv,h1,h2,(h i _ d hget hi).relN h3⟩
   have hB:p.B<w.heap.size:=(s.ge _ p hp p.B (by simp)).2
   refine .lst hdl hn (fun i=>(w.cell? ⟨p.B,off+i,none⟩).getD undef) hB (fun b p hp=>by cases hp) ?_ ?_
   ·intro i d hi
    obtain ⟨cv,h1,h2,_⟩:=hcell i d hi
    simp only [h1,Option.getD_some]
    exact ⟨trivial,h2⟩
   ·intro i d hi
    obtain ⟨cv,h1,_,h3⟩:=hcell i d hi
    simp only [h1,Option.getD_some]
    exact h3
  | sl0 =>
   have:ds=[]:=List.eq_nil_of_length_eq_zero (by simpa using hdl)
   subst this
   exact .lst0
  | sld hd=>exact absurd hd (Aa hk)
 | agg hl h ih =>
  intro cv hv
  cases hv with
  | agg hs hr h1 =>
   refine .agg (by omega) ?_ h1
   intro i d cv hi hcv
   rename_i vs ds cvs
   have hil:i<vs.length:=by rw [hl]; exact (qI hi).1
   exact ih i vs[i] d (qG hil) hi (hr i vs[i] cv (qG hil) hcv)
def A7 (P:Program) (f:FuncId) (ds:List AV) (r:AV):Prop :=
 ∀ (w:World) (cargs:Array Value),F2 (fun v cv=>VRel w noB (dead []) v cv) ds cargs.toList →
  Calls P f cargs w fun e w'=>∃ cv fp,e=.returned cv∧Below w.heap.size w w'∧FT w' r cv fp∧fp.Nodup∧∀ B∈fp,w.heap.size≤B∧B<w'.heap.size
end Go.Proofs.YtldndhdohlfpgaaGreat.V
/- New data becomes own blocks. -/
namespace Go.Proofs.YtldndhdohlfpgaaGreat.V
open Go Go.RowKit
def impCell (H:AH) (v:AV):AV×AH :=
 match v with
 | .lst true es cells n=>(.sl H.length 0 n,H++[some ⟨cells,es⟩])
 | v=>(v,H)
def impCells (H:AH):List AV→List AV×AH
 | []=>([],H)
 | v::vs=>((impCell H v).1::(impCells (impCell H v).2 vs).1,(impCells (impCell H v).2 vs).2)
def impV (H:AH) (v:AV):AV×AH :=
 match v with
 | .agg vs=>(.agg (impCells H vs).1,(impCells H vs).2)
 | v=>impCell H v
def impVs (H:AH):List AV→List AV×AH
 | []=>([],H)
 | v::vs=>((impV H v).1::(impVs (impV H v).2 vs).1,(impVs (impV H v).2 vs).2)
def imp (H:AH) (v:AV):AV×AH :=
 match v with
 | .tup vs=>(.tup (impVs H vs).1,(impVs H vs).2)
 | v=>impV H v
def vOk:AV→Prop
 | .agg vs=>∀ v∈vs,Own v
 | v=>Own v
def impOk:AV→Prop
 | .tup vs=>∀ v∈vs,vOk v
 | v=>vOk v
theorem Own.cells {o:Bool} {es n:Nat} {cells:List AV} (h:Own (.lst o es cells n)):∀ v∈cells,Own v:=by cases h; assumption
theorem Own.ne {v:AV} (h:Own v):∀ es cells n,v≠.lst false es cells n:=by
 intro es cells n e
 subst e
 cases h
def locFp:Option Loc→List Nat
 | some p=>p.B::p.fp
 | none=>[]
structure Adopt (w':World) (n:Nat) (bs:List ABlk) (locs:List (Option Loc)) (fp:List Nat):Prop where
 len:bs.length=locs.length
 fp:locs.flatMap locFp=fp
 blk:∀ (i:Nat) p,locs[i]?=some (some p)→∃ k,bs[i]?=some k∧k.es=p.es∧∃ (c:Array Value) (T:TypeId) (cvs:Nat→Value) (fps:Nat→List Nat),w'.heap[p.B]?=some (.cells c T (0,0))∧c.size=p.sz∧k.cells.length≤p.sz ∧
  (∀ (j:Nat) v,k.cells[j]?=some v→c[j]?=some (cvs j)∧(cvs j).oneCell'=true∧FT w' v (cvs j) (fps j)∧∀ es cells n,v≠.lst false es cells n)∧p.fp=(List.range k.cells.length).flatMap fps
def agrees (β:Bm) (n:Nat) (locs:List (Option Loc)):Prop:=∀ (i:Nat) p,locs[i]?=some (some p)→β (n+i)=some p
theorem Adopt.nil (w':World) (n:Nat):Adopt w' n [] [] []:=⟨rfl,rfl,by simp⟩
theorem Adopt.append {w':World} {n:Nat} {bs bs':List ABlk} {locs locs':List (Option Loc)} {fp fp':List Nat} (h:Adopt w' n bs locs fp) (h':Adopt w' (n+bs.length) bs' locs' fp'):Adopt w' n (bs++bs') (locs++locs') (fp++fp'):=by
 refine ⟨by simp [h.len,h'.len],by rw [List.flatMap_append,h.fp,h'.fp],?_⟩
 intro i p hi
 by_cases hl:i<locs.length
 ·rw [List.getElem?_append_left hl] at hi
  obtain ⟨k,hk,r⟩:=h.blk i p hi
  exact ⟨k,by rw [List.getElem?_append_left (by rw [h.len]; exact hl)]; exact hk,r⟩
 ·rw [List.getElem?_append_right (by omega)] at hi
  obtain ⟨k,hk,r⟩:=h'.blk _ p hi
  exact ⟨k,by rw [List.getElem?_append_right (by rw [h.len]; omega),h.len]; exact hk,r⟩
theorem Pf {β:Bm} {n:Nat} {locs locs':List (Option Loc)} (h:agrees β n (locs++locs')):agrees β n locs∧agrees β (n+locs.length) locs':=by
 refine ⟨fun i p hi=>h i p ?_,fun i p hi=>?_⟩
 ·rw [List.getElem?_append_left (qI hi).1]; exact hi
 ·have:=h (locs.length+i) p (by rw [List.getElem?_append_right (by omega),Nat.add_sub_cancel_left]; exact hi)
  rwa [← Nat.add_assoc] at this
section
variable {w':World}
theorem Au {H:AH} {v:AV} {cv:Value} {fp:List Nat} (h:FT w' v cv fp) (ho:Own v):∃ bs locs,(impCell H v).2=H++bs.map some∧Adopt w' H.length bs locs fp∧∀ β dd,agrees β H.length locs→(∀ i,i<bs.length→dd (H.length+i)≠none)→VRel w' β dd (impCell H v).1 cv:=by
 cases h with
 | und=>cases ho
 | int=>exact ⟨[],[],by simp [impCell],.nil _ _,fun β dd _ _=>.int⟩
 | bool=>exact ⟨[],[],by simp [impCell],.nil _ _,fun β dd _ _=>.bool⟩
 | str=>exact ⟨[],[],by simp [impCell],.nil _ _,fun β dd _ _=>.str⟩
 | nils=>exact ⟨[],[],by simp [impCell],.nil _ _,fun β dd _ _=>.nils⟩
 | lst0 =>
  rename_i es a
  exact ⟨[⟨[],es⟩],[none],by simp [impCell],⟨rfl,rfl,by intro i p hi; cases i <;> simp at hi⟩,fun β dd _ hi=>.sl0 (by simpa using hi 0 (by simp))⟩
 | lst hl cvs fps hb hn hm hsz hc hr =>
  rename_i es cells n B cap c T
  refine ⟨[⟨cells,es⟩],[some ⟨B,c.size,es,(List.range cells.length).flatMap fps⟩],by simp [impCell],⟨rfl,by simp [locFp],?_⟩,?_⟩
  ·intro i p hi
   cases i with
   | zero =>
    simp only [List.getElem?_cons_zero,qS] at hi
    subst hi
    refine ⟨⟨cells,es⟩,rfl,rfl,c,T,cvs,fps,hb,rfl,?_,fun j v hj=>⟨(hc j v hj).1,(hc j v hj).2,hr j v hj,(ho.cells v (qM hj)).ne⟩,rfl⟩
    rw [hl,hsz]
    exact Nat.mul_le_mul_right _ hn
   | succ i=>simp at hi
  ·intro β dd ha _
   have:=ha 0 _ rfl
   exact .sl this hn hm (fun _=>hsz.symm)
 | lst0v=>cases ho
 | lstv=>cases ho
 | agg=>cases ho
 | tup=>cases ho
theorem Hs (n:Nat) (f:Nat→List Nat):(List.range (n+1)).flatMap f=f 0++(List.range n).flatMap fun i=>f (i+1):=by
 rw [List.range_succ_eq_map,List.flatMap_cons,List.flatMap_map]
theorem Pa:∀ (H:AH) (vs:List AV) (cvs:List Value) (fps:Nat→List Nat),vs.length=cvs.length→(∀ (i:Nat) v cv,vs[i]?=some v→cvs[i]?=some cv→FT w' v cv (fps i))→(∀ v∈vs,Own v) →
  ∃ bs locs,(impCells H vs).2=H++bs.map some∧Adopt w' H.length bs locs ((List.range vs.length).flatMap fps)∧(impCells H vs).1.length=cvs.length∧∀ β dd,agrees β H.length locs→(∀ i,i<bs.length→dd (H.length+i)≠none)→∀ (i:Nat) u cv,(impCells H vs).1[i]?=some u→cvs[i]?=some cv→VRel w' β dd u cv
 | H,[],cvs,fps,hl,_,_=>by
  refine ⟨[],[],by simp [impCells],.nil _ _,by simpa [impCells] using hl,?_⟩
  intro β dd _ _ i u cv hu
  simp [impCells] at hu
 | H,v::vs,[],fps,hl,_,_=>by simp at hl
 | H,v::vs,cv::cvs,fps,hl,hf,ho=>by
  obtain ⟨bs,locs,h1,h2,h3⟩:=Au (H:=H) (hf 0 v cv rfl rfl) (ho v (by simp))
  obtain ⟨bs',locs',g1,g2,g3,g4⟩:=Pa (impCell H v).2 vs cvs (fun i=>fps (i+1)) (by simpa using hl) (fun i u cu hu hcu=>hf (i+1) u cu (by simpa using hu) (by simpa using hcu)) (fun u hu=>ho u (List.mem_cons_of_mem _ hu))
  have hlen:(impCell H v).2.length=H.length+bs.length:=by rw [h1]; simp
  rw [hlen] at g2 g4
  refine ⟨bs++bs',locs++locs',?_,?_,?_,?_⟩
  ·simp only [impCells]
   rw [g1,h1]; simp
  ·have:=h2.append g2
   rw [List.length_cons,Hs]
   exact this
  ·simp only [impCells,List.length_cons,g3]
  ·intro β dd ha hdd i u cu hu hcu
   obtain ⟨a1,a2⟩:=Pf ha
   rw [← h2.len] at a2
   have d1:∀ i,i<bs.length→dd (H.length+i)≠none:=fun i hi=>hdd i (by simp; omega)
   have d2:∀ i,i<bs'.length→dd (H.length+bs.length+i)≠none:=fun i hi=>by rw [Nat.add_assoc]; exact hdd (bs.length+i) (by simp; omega)
   cases i with
   | zero=>simp [impCells] at hu hcu; subst hu; subst hcu; exact h3 β dd a1 d1
   | succ i=>simp [impCells] at hu hcu; exact g4 β dd a2 d2 i u cu hu hcu
theorem Ej {H:AH} {v:AV} {cv:Value} {fp:List Nat} (h:FT w' v cv fp) (ho:vOk v):∃ bs locs,(impV H v).2=H++bs.map some∧Adopt w' H.length bs locs fp∧∀ β dd,agrees β H.length locs→(∀ i,i<bs.length→dd (H.length+i)≠none)→VRel w' β dd (impV H v).1 cv:=by
 cases h with
 | agg fps hs hr h1 =>
  rename_i vs cvs
  obtain ⟨bs,locs,g1,g2,g3,g4⟩:=Pa (w':=w') H vs cvs.toList fps (by simpa using hs) (fun i v cv hv hcv=>hr i v cv hv (by simpa using hcv)) ho
  refine ⟨bs,locs,g1,g2,fun β dd ha hdd=>?_⟩
  refine .agg (by simpa using g3) ?_ h1
  intro i u cv hu hcv
  exact g4 β dd ha hdd i u cv hu (by simpa using hcv)
 | und=>cases ho
 | int=>exact Au .int .int
 | bool=>exact Au .bool .bool
 | str=>exact Au .str .str
 | nils=>exact Au .nils .nils
 | lst0=>exact Au .lst0 ho
 | lst hl cvs fps hb hn hm hsz hc hr=>exact Au (.lst hl cvs fps hb hn hm hsz hc hr) ho
 | lst0v=>cases ho
 | lstv=>cases ho
 | tup=>cases ho
theorem Xh:∀ (H:AH) (vs:List AV) (cvs:List Value) (fps:Nat→List Nat),vs.length=cvs.length→(∀ (i:Nat) v cv,vs[i]?=some v→cvs[i]?=some cv→FT w' v cv (fps i))→(∀ v∈vs,vOk v) →
  ∃ bs locs,(impVs H vs).2=H++bs.map some∧Adopt w' H.length bs locs ((List.range vs.length).flatMap fps)∧(impVs H vs).1.length=cvs.length∧∀ β dd,agrees β H.length locs→(∀ i,i<bs.length→dd (H.length+i)≠none)→∀ (i:Nat) u cv,(impVs H vs).1[i]?=some u→cvs[i]?=some cv→VRel w' β dd u cv
 | H,[],cvs,fps,hl,_,_=>by
  refine ⟨[],[],by simp [impVs],.nil _ _,by simpa [impVs] using hl,?_⟩
  intro β dd _ _ i u cv hu
  simp [impVs] at hu
 | H,v::vs,[],fps,hl,_,_=>by simp at hl
 | H,v::vs,cv::cvs,fps,hl,hf,ho=>by
  obtain ⟨bs,locs,h1,h2,h3⟩:=Ej (H:=H) (hf 0 v cv rfl rfl) (ho v (by simp))
  obtain ⟨bs',locs',g1,g2,g3,g4⟩:=Xh (impV H v).2 vs cvs (fun i=>fps (i+1)) (by simpa using hl) (fun i u cu hu hcu=>hf (i+1) u cu (by simpa using hu) (by simpa using hcu)) (fun u hu=>ho u (List.mem_cons_of_mem _ hu))
  have hlen:(impV H v).2.length=H.length+bs.length:=by rw [h1]; simp
  rw [hlen] at g2 g4
  refine ⟨bs++bs',locs++locs',?_,?_,?_,?_⟩
  ·simp only [impVs]
   rw [g1,h1]; simp
  ·have:=h2.append g2
   rw [List.length_cons,Hs]
   exact this
  ·simp only [impVs,List.length_cons,g3]
  ·intro β dd ha hdd i u cu hu hcu
   obtain ⟨a1,a2⟩:=Pf ha
   rw [← h2.len] at a2
   have d1:∀ i,i<bs.length→dd (H.length+i)≠none:=fun i hi=>hdd i (by simp; omega)
   have d2:∀ i,i<bs'.length→dd (H.length+bs.length+i)≠none:=fun i hi=>by rw [Nat.add_assoc]; exact hdd (bs.length+i) (by simp; omega)
   cases i with
   | zero=>simp [impVs] at hu hcu; subst hu; subst hcu; exact h3 β dd a1 d1
   | succ i=>simp [impVs] at hu hcu; exact g4 β dd a2 d2 i u cu hu hcu
theorem A87 {H:AH} {v:AV} {cv:Value} {fp:List Nat} (h:FT w' v cv fp) (ho:impOk v):∃ bs locs,(imp H v).2=H++bs.map some∧Adopt w' H.length bs locs fp∧∀ β dd,agrees β H.length locs→(∀ i,i<bs.length→dd (H.length+i)≠none)→VRel w' β dd (imp H v).1 cv:=by
 cases h with
 | tup fps hs hr =>
  rename_i vs cvs
  obtain ⟨bs,locs,g1,g2,g3,g4⟩:=Xh (w':=w') H vs cvs.toList fps (by simpa using hs) (fun i v cv hv hcv=>hr i v cv hv (by simpa using hcv)) ho
  refine ⟨bs,locs,g1,g2,fun β dd ha hdd=>?_⟩
  refine .tup (by simpa using g3) ?_
  intro i u cv hu hcv
  exact g4 β dd ha hdd i u cv hu (by simpa using hcv)
 | agg fps hs hr h1=>exact Ej (.agg fps hs hr h1) ho
 | und=>cases ho
 | int=>exact Ej .int .int
 | bool=>exact Ej .bool .bool
 | str=>exact Ej .str .str
 | nils=>exact Ej .nils .nils
 | lst0=>exact Ej .lst0 ho
 | lst hl cvs fps hb hn hm hsz hc hr=>exact Ej (.lst hl cvs fps hb hn hm hsz hc hr) ho
 | lst0v=>cases ho
 | lstv=>cases ho
end
theorem Kf:∀ (l:List (Option Loc)),(l.flatMap locFp).Nodup→(∀ (i:Nat) p,l[i]?=some (some p)→(p.B::p.fp).Nodup)∧∀ (i j:Nat) p q,l[i]?=some (some p)→l[j]?=some (some q)→i≠j→∀ B∈p.B::p.fp,B ∉ q.B::q.fp
 | [],_=>⟨by simp,by simp⟩
 | x::l,h=>by
  rw [List.flatMap_cons,List.nodup_append] at h
  obtain ⟨h1,h2,h3⟩:=h
  obtain ⟨g1,g2⟩:=Kf l h2
  have inl:∀ (j:Nat) q,l[j]?=some (some q)→∀ B∈q.B::q.fp,B∈l.flatMap locFp:=fun j q hj B hB=>List.mem_flatMap.2 ⟨some q,qM hj,hB⟩
  refine ⟨?_,?_⟩
  ·intro i p hi
   cases i with
   | zero=>simp at hi; subst hi; exact h1
   | succ i=>simp at hi; exact g1 i p hi
  ·intro i j p q hi hj hne B hB hB'
   cases i with
   | zero =>
    cases j with
    | zero=>exact hne rfl
    | succ j =>
     simp at hi hj
     subst hi
     exact h3 B hB B (inl j q hj B hB') rfl
   | succ i =>
    cases j with
    | zero =>
     simp at hi hj
     subst hj
     exact h3 B hB' B (inl i p hi B hB) rfl
    | succ j =>
     simp at hi hj
     exact g2 i j p q hi hj (fun e=>hne (by rw [e])) B hB hB'
def Bm.adopt (β:Bm) (n:Nat) (locs:List (Option Loc)):Bm:=fun b=>if b<n then β b else (locs[b - n]?).join
theorem A6w {nw base:Nat} {β:Bm} {H:AH} {w w':World} {bs:List ABlk} {locs:List (Option Loc)} {fp:List Nat} (s:SRel base β H w) (hb:base≤w.heap.size) (bel:Below w.heap.size w w') (ad:Adopt w' H.length bs locs fp) (hnd:fp.Nodup) (hge:∀ B∈fp,w.heap.size≤B∧B<w'.heap.size) :
  SRel base (β.adopt H.length locs) (H++bs.map some) w'∧Ext nw β H w (β.adopt H.length locs) (H++bs.map some) w'∧agrees (β.adopt H.length locs) H.length locs:=by
 have cases':∀ b p,(β.adopt H.length locs) b=some p→(b<H.length∧β b=some p)∨(H.length≤b∧locs[b - H.length]?=some (some p)):=by
  intro b p hp
  simp only [Bm.adopt] at hp
  split at hp
  ·rename_i h; exact .inl ⟨h,hp⟩
  ·rename_i h
   refine .inr ⟨by omega,?_⟩
   cases hq:locs[b - H.length]? with
   | none=>rw [hq] at hp; cases hp
   | some x=>rw [hq] at hp; simp at hp; rw [hp]
 have hmem:∀ b p,H.length≤b→locs[b - H.length]?=some (some p)→∀ B∈p.B::p.fp,B∈fp:=by
  intro b p _ hl B hB
  rw [← ad.fp]
  exact List.mem_flatMap.2 ⟨some p,qM hl,hB⟩
 have hkeep:∀ b p,β b=some p→(β.adopt H.length locs) b=some p:=by
  intro b p hp
  simp only [Bm.adopt]
  rw [if_pos (s.lt hp)]; exact hp
 have e:Ext nw β H w (β.adopt H.length locs) (H++bs.map some) w':=by
  refine ⟨by simp,?_,?_,?_,?_,bel.size,bel.os,bel.tape,bel.output,fun k hk _=>bel.block k hk⟩
  ·intro b p hp k _
   exact ⟨p,hkeep b p hp,rfl,rfl,rfl⟩
  ·intro b p' hb' hp'
   rcases cases' b p' hp' with ⟨_,h⟩ | ⟨h,_⟩
   ·exact ⟨p',h,rfl⟩
   ·omega
  ·intro b hb'
   rw [List.getElem?_append_left (qI hb').1]; exact hb'
  ·intro b p hp j hj
   rcases cases' b p hp with ⟨_,h⟩ | ⟨h,hl⟩
   ·exact .inr ⟨b,p,h,hj,.inl rfl⟩
   ·exact .inl (hge j (hmem b p h hl j hj)).1
 refine ⟨⟨?_,?_,?_,?_⟩,e,?_⟩
 ·intro b p hp
  rcases cases' b p hp with ⟨hb',h⟩ | ⟨hb',hl⟩
  ·obtain ⟨k,hk,hbr⟩:=s.blk b p h
   exact ⟨k,by rw [List.getElem?_append_left hb']; exact hk,hbr.ext s e fun B hB=>bel.block B (s.ge b p h B hB).2⟩
  ·obtain ⟨k,hk,hes,c,T,cvs,fps,h1,h2,h3,h4,h5⟩:=ad.blk _ p hl
   refine ⟨k,by rw [List.getElem?_append_right hb']; simp [hk],hes,c,T,cvs,fps,h1,h2,h3,?_,h5⟩
   intro j v hj
   obtain ⟨q1,q2,q3,q4⟩:=h4 j v hj
   exact ⟨q1,q2,.own q3 q4⟩
 ·intro b p hp
  rcases cases' b p hp with ⟨_,h⟩ | ⟨hb',hl⟩
  ·exact s.nodup b p h
  ·exact (Kf locs (by rw [ad.fp]; exact hnd)).1 _ p hl
 ·intro b p hp B hB
  rcases cases' b p hp with ⟨_,h⟩ | ⟨hb',hl⟩
  ·have:=s.ge b p h B hB
   exact ⟨this.1,Nat.lt_of_lt_of_le this.2 bel.size⟩
  ·have:=hge B (hmem b p hb' hl B hB)
   exact ⟨Nat.le_trans hb this.1,this.2⟩
 ·intro b p b2 p2 hp hp2 hne B hB hB2
  rcases cases' b p hp with ⟨_,h⟩ | ⟨hb',hl⟩ <;> rcases cases' b2 p2 hp2 with ⟨_,h2⟩ | ⟨hb2,hl2⟩
  ·exact s.disj b p b2 p2 h h2 hne B hB hB2
  ·have:=(s.ge b p h B hB).2
   have:=(hge B (hmem b2 p2 hb2 hl2 B hB2)).1
   omega
  ·have:=(s.ge b2 p2 h2 B hB2).2
   have:=(hge B (hmem b p hb' hl B hB)).1
   omega
  ·exact (Kf locs (by rw [ad.fp]; exact hnd)).2 _ _ p p2 hl hl2 (by omega) B hB hB2
 ·intro i p hi
  simp only [Bm.adopt]
  rw [if_neg (by omega),Nat.add_sub_cancel_left,hi]
  rfl
end Go.Proofs.YtldndhdohlfpgaaGreat.V
/- From a function's text to what its call does. -/
namespace Go.Proofs.YtldndhdohlfpgaaGreat.V
open Go Go.RowKit
def ares1 (P:Program) (a:Asg) (H:AH):ResultVar→Option AV
 | .tmp t=>get a t
 | .cell t ty=>match get a t with
  | some (.ptr b off)=>match H[b]? with | some (some k)=>aloadEl P ty (k.cells.map AV.hide) off | _=>none
  | _=>none
def aresL (P:Program) (a:Asg) (H:AH):List ResultVar→Option (List AV)
 | []=>some []
 | r::rs=>match ares1 P a H r,aresL P a H rs with | some v,some vs=>some (v::vs) | _,_=>none
def ares (P:Program) (a:Asg) (H:AH) (rs:List ResultVar):Option AV :=
 match aresL P a H rs with
 | some [v]=>some v
 | some vs=>some (.tup vs)
 | none=>none
def rres (ca:Act) (r:ResultVar):Sem Value :=
 match r with
 | .tmp t=>pure (ca.tmps.getD t undef)
 | .cell a t=>do loadVar t (← asAddr (ca.tmps.getD a undef))
section
variable {P:Program} {w:World} {β:Bm} {H:AH} {base N:Nat} {a:Asg} {ca:Act}
theorem A6i {r:ResultVar} {v:AV} (s:SRel base β H w) (t:TRel N w β (dead H) a ca) (h:ares1 P a H r=some v) :
  ∃ cv,(rres ca r).run P w=.ok cv w∧VRel w β (dead H) v cv:=by
 cases r with
 | tmp x=>exact ⟨_,rfl,(t.get x v h).2⟩
 | cell x ty =>
  simp only [ares1] at h
  split at h
  ·rename_i b off hx
   split at h
   ·rename_i k hk
    obtain ⟨p,hp,hcx⟩:=Rx (t.get x _ hx).2 (Aa hk)
    have:=Vp (P:=P) (w:=w) (β:=β) (dd:=dead H) (A:=⟨p.B,0,none⟩) h (fun i u hi=>by
     obtain ⟨cv,h1,h2,h3⟩:=s.cell hp hk hi
     exact ⟨cv,by rw [addAddr,Nat.zero_add]; exact h1,h2,h3⟩)
    obtain ⟨cv,h1,h2⟩:=this
    rw [addAddr,Nat.zero_add] at h1
    exact ⟨cv,by simp only [rres,hcx,Sem.run_bind,asAddr,Sem.run_pure,Result.andThen_ok,h1],h2⟩
   ·cases h
  ·cases h
theorem A14 (s:SRel base β H w) (t:TRel N w β (dead H) a ca):∀ (rs:List ResultVar) (vs:List AV),aresL P a H rs=some vs →
  ∃ cvs,(rs.mapM (rres ca)).run P w=.ok cvs w∧F2 (fun v cv=>VRel w β (dead H) v cv) vs cvs
 | [],vs,h=>by simp only [aresL,qS] at h; subst h; exact ⟨[],rfl,.nil⟩
 | r::rs,vs,h=>by
  simp only [aresL] at h
  split at h
  ·rename_i v vs' hv hvs
   simp only [qS] at h
   subst h
   obtain ⟨cv,h1,h2⟩:=A6i s t hv
   obtain ⟨cvs,g1,g2⟩:=A14 s t rs vs' hvs
   refine ⟨cv::cvs,?_,.cons h2 g2⟩
   rw [List.mapM_cons]
   simp only [Sem.run_bind,h1,Result.andThen_ok,g1,Sem.run_pure]
  ·cases h
theorem Zt {fn:Func} {v:AV} (s:SRel base β H w) (t:TRel N w β (dead H) a ca) (h:ares P a H fn.results.toList=some v) :
  ∃ cv,(results fn ca.tmps).run P w=.ok cv w∧VRel w β (dead H) v cv:=by
 have key:∀ vs,aresL P a H fn.results.toList=some vs→∃ cvs:List Value,(results fn ca.tmps).run P w=.ok (if h:cvs.toArray.size=1 then cvs.toArray[0] else .tuple cvs.toArray) w∧F2 (fun v cv=>VRel w β (dead H) v cv) vs cvs:=by
  intro vs hvs
  obtain ⟨cvs,g1,g2⟩:=A14 s t _ vs hvs
  refine ⟨cvs,?_,g2⟩
  have e:results fn ca.tmps=(do
    let vs ← fn.results.mapM (rres ca)
    pure (if h:vs.size=1 then vs[0] else .tuple vs)):=rfl
  rw [e,Array.mapM_eq_mapM_toList]
  simp only [Sem.run_bind,Sem.run_map,g1,Result.andThen_ok,Sem.run_pure]
 unfold ares at h
 split at h
 ·rename_i v' hvs
  simp only [qS] at h
  subst h
  obtain ⟨cvs,g1,g2⟩:=key _ hvs
  cases g2 with
  | cons hh t' =>
   cases t'
   exact ⟨_,by simpa using g1,hh⟩
 ·rename_i vs hne hvs
  simp only [qS] at h
  subst h
  obtain ⟨cvs,g1,g2⟩:=key _ hvs
  have hl:cvs.toArray.size≠1:=by
   intro h1
   have:vs.length=1:=by rw [g2.len]; simpa using h1
   obtain ⟨x,hx⟩:=List.length_eq_one_iff.1 this
   exact hne x hx
  rw [dif_neg hl] at g1
  exact ⟨_,g1,.tup (by simpa using g2.len) (fun i v cv hv hcv=>g2.get i v cv hv (by simpa using hcv))⟩
 ·cases h
theorem CRel.own_ft {dd:Nat→Option Bool} {v:AV} {cv:Value} {fp:List Nat} (h:CRel w β dd v cv fp) (ho:Own v):FT w v cv fp:=by
 cases h with
 | own g=>exact g
 | shr g hn hf =>
  subst hf
  cases ho with
  | int=>cases g; exact .int
  | bool=>cases g; exact .bool
  | str=>cases g; exact .str
  | nils=>cases g; exact .nils
  | lst=>exact absurd rfl (hn _ _ _)
end
inductive OutR (H:AH):AV→AV→List Nat→Prop
 | und {v}:OutR H v .und []
 | nilsv {es}:OutR H .nils (.lst false es [] 0) []
 | int {k n}:OutR H (.int k n) (.int k n) []
 | bool {b}:OutR H (.bool b) (.bool b) []
 | str {s}:OutR H (.str s) (.str s) []
 | nils {es}:OutR H .nils (.lst true es [] 0) []
 | sl {b n es k} (hk:H[b]?=some (some k)) (hes:k.es=es) (hl:k.cells.length=n*es) (hd:∀ v∈k.cells,Own v):OutR H (.sl b 0 n) (.lst true es k.cells n) [b]
 | slv {b off n es k cs} (hk:H[b]?=some (some k)) (hes:k.es=es) (hl:off+n*es≤k.cells.length) (hd:∀ v∈k.cells,Own v) (hc:cs=(k.cells.drop off).take (n*es)):OutR H (.sl b off n) (.lst false es cs n) [b]
 | agg {vs rs:List AV} (idss:Nat→List Nat) (hl:vs.length=rs.length) (h:∀ (i:Nat) v r,vs[i]?=some v→rs[i]?=some r→OutR H v r (idss i)):OutR H (.agg vs) (.agg rs) ((List.range vs.length).flatMap idss)
 | tup {vs rs:List AV} (idss:Nat→List Nat) (hl:vs.length=rs.length) (h:∀ (i:Nat) v r,vs[i]?=some v→rs[i]?=some r→OutR H v r (idss i)):OutR H (.tup vs) (.tup rs) ((List.range vs.length).flatMap idss)
theorem Km {α:Type} (f g:α→List Nat):∀ l:List α,(∀ x∈l,(f x).Sublist (g x))→(l.flatMap f).Sublist (l.flatMap g)
 | [],_=>by simp
 | x::l,h=>by
  simp only [List.flatMap_cons]
  exact (h x (by simp)).append (Km f g l fun y hy=>h y (List.mem_cons_of_mem _ hy))
def idFp (β:Bm) (b:Nat):List Nat:=locFp (β b)
theorem Wz (f:Nat→List Nat) (off m L:Nat) (h:off+m≤L):((List.range m).flatMap fun i=>f (off+i)).Sublist ((List.range L).flatMap f):=by
 obtain ⟨r,rfl⟩:∃ r,L=off+m+r:=⟨L - (off+m),by omega⟩
 rw [List.range_add,List.flatMap_append]
 refine List.Sublist.trans ?_ (List.sublist_append_left _ _)
 rw [List.range_add,List.flatMap_append]
 refine List.Sublist.trans ?_ (List.sublist_append_right _ _)
 rw [List.flatMap_map]
 exact List.Sublist.refl _
theorem OutR.ft {w:World} {β:Bm} {H:AH} {base:Nat} (s:SRel base β H w) {v r:AV} {ids:List Nat} (h:OutR H v r ids):∀ {cv:Value},VRel w β (dead H) v cv→∃ fp,FT w r cv fp∧fp.Sublist (ids.flatMap (idFp β)):=by
 induction h with
 | und=>intro cv _; exact ⟨[],.und,by simp⟩
 | nilsv=>intro cv hv; cases hv; exact ⟨[],.lst0v,by simp⟩
 | int=>intro cv hv; cases hv; exact ⟨[],.int,by simp⟩
 | bool=>intro cv hv; cases hv; exact ⟨[],.bool,by simp⟩
 | str=>intro cv hv; cases hv; exact ⟨[],.str,by simp⟩
 | nils=>intro cv hv; cases hv; exact ⟨[],.lst0,by simp⟩
 | sl hk hes hl hd =>
  rename_i b n es k
  intro cv hv
  cases hv with
  | sl hp hn hm hc =>
   rename_i p cap
   obtain ⟨k',hk',hes',c,T,cvs,fps,hcb,hcs,hkl,hcc,hfp⟩:=s.blk b p hp
   rw [hk] at hk'; cases hk'
   refine ⟨p.B::(List.range k.cells.length).flatMap fps,.lst hl cvs fps hcb hn hm (by rw [hcs,← hc rfl,← hes',hes]) (fun i v hi=>⟨(hcc i v hi).1,(hcc i v hi).2.1⟩) (fun i v hi=>(hcc i v hi).2.2.own_ft (hd v (qM hi))),?_⟩
   rw [← hfp]
   simp [idFp,hp,locFp]
  | sl0 hin =>
   have:k.cells=[]:=List.eq_nil_of_length_eq_zero (by simpa using hl)
   rw [this]
   exact ⟨[],.lst0,by simp⟩
  | sld hdd=>exact absurd hdd (Aa hk)
 | slv hk hes hl hd hc =>
  rename_i b off n es k cs
  subst hc
  intro cv hv
  cases hv with
  | sl hp hn hm hc =>
   rename_i p cap
   obtain ⟨k',hk',hes',c,T,cvs,fps,hcb,hcs,hkl,hcc,hfp⟩:=s.blk b p hp
   rw [hk] at hk'; cases hk'
   have hlen:((k.cells.drop off).take (n*es)).length=n*es:=by simp; omega
   refine ⟨p.B::(List.range ((k.cells.drop off).take (n*es)).length).flatMap (fun i=>fps (off+i)),.lstv hlen (fun i=>cvs (off+i)) (fun i=>fps (off+i)) hcb hn ?_ ?_,?_⟩
   ·intro i v hi
    rw [List.getElem?_take] at hi
    split at hi
    ·rw [List.getElem?_drop] at hi
     exact ⟨(hcc _ v hi).1,(hcc _ v hi).2.1⟩
    ·cases hi
   ·intro i v hi
    rw [List.getElem?_take] at hi
    split at hi
    ·rw [List.getElem?_drop] at hi
     exact (hcc _ v hi).2.2.own_ft (hd v (qM hi))
    ·cases hi
   ·simp only [List.flatMap_cons,List.flatMap_nil,List.append_nil,idFp,hp,locFp]
    refine List.Sublist.cons_cons _ ?_
    rw [hfp,hlen]
    exact Wz fps off (n*es) _ hl
  | sl0 hin=>exact ⟨[],by simp; exact .lst0v,by simp⟩
  | sld hdd=>exact absurd hdd (Aa hk)
 | agg idss hl h ih =>
  rename_i vs rs
  intro cv hv
  cases hv with
  | agg hs hr hone =>
   rename_i cvs
   have hx:∀ i,∃ fp:List Nat,(i<vs.length→∀ v r cv,vs[i]?=some v→rs[i]?=some r→cvs[i]?=some cv→FT w r cv fp)∧fp.Sublist ((idss i).flatMap (idFp β)):=by
    intro i
    by_cases hi:i<vs.length
    ·obtain ⟨fp,h2,h3⟩:=ih i vs[i] (rs[i]'(by omega)) (qG hi) (qG (by omega)) (hr i vs[i] (cvs[i]'(by omega)) (qG hi) (Array.getElem?_eq_getElem (by omega)))
     refine ⟨fp,fun _ v r cv hv hr' hcv=>?_,h3⟩
     rw [qG (by omega)] at hr'
     rw [Array.getElem?_eq_getElem (by omega)] at hcv
     cases hr'; cases hcv
     exact h2
    ·exact ⟨[],fun h=>absurd h hi,by simp⟩
   refine ⟨(List.range rs.length).flatMap fun i=>(hx i).choose,.agg _ (by omega) ?_ hone,?_⟩
   ·intro i r cv hr' hcv
    have hi:i<vs.length:=by rw [hl]; exact (qI hr').1
    exact (hx i).choose_spec.1 hi vs[i] r cv (qG hi) hr' hcv
   ·rw [List.flatMap_assoc,← hl]
    exact Km _ _ _ fun i _=>(hx i).choose_spec.2
 | tup idss hl h ih =>
  rename_i vs rs
  intro cv hv
  cases hv with
  | tup hs hr =>
   rename_i cvs
   have hx:∀ i,∃ fp:List Nat,(i<vs.length→∀ v r cv,vs[i]?=some v→rs[i]?=some r→cvs[i]?=some cv→FT w r cv fp)∧fp.Sublist ((idss i).flatMap (idFp β)):=by
    intro i
    by_cases hi:i<vs.length
    ·obtain ⟨fp,h2,h3⟩:=ih i vs[i] (rs[i]'(by omega)) (qG hi) (qG (by omega)) (hr i vs[i] (cvs[i]'(by omega)) (qG hi) (Array.getElem?_eq_getElem (by omega)))
     refine ⟨fp,fun _ v r cv hv hr' hcv=>?_,h3⟩
     rw [qG (by omega)] at hr'
     rw [Array.getElem?_eq_getElem (by omega)] at hcv
     cases hr'; cases hcv
     exact h2
    ·exact ⟨[],fun h=>absurd h hi,by simp⟩
   refine ⟨(List.range rs.length).flatMap fun i=>(hx i).choose,.tup _ (by omega) ?_,?_⟩
   ·intro i r cv hr' hcv
    have hi:i<vs.length:=by rw [hl]; exact (qI hr').1
    exact (hx i).choose_spec.1 hi vs[i] r cv (qG hi) hr' hcv
   ·rw [List.flatMap_assoc,← hl]
    exact Km _ _ _ fun i _=>(hx i).choose_spec.2
theorem Zv {w:World} {β:Bm} {H:AH} {base:Nat} (s:SRel base β H w):∀ ids:List Nat,ids.Nodup→(ids.flatMap (idFp β)).Nodup
 | [],_=>by simp
 | b::ids,h=>by
  rw [List.nodup_cons] at h
  rw [List.flatMap_cons,List.nodup_append]
  refine ⟨?_,Zv s ids h.2,?_⟩
  ·unfold idFp
   cases hb:β b with
   | none=>simp [locFp]
   | some p=>exact s.nodup b p hb
  ·intro x hx y hy e
   subst e
   obtain ⟨c,hc,hy⟩:=List.mem_flatMap.1 hy
   unfold idFp at hx hy
   cases hb:β b with
   | none=>rw [hb] at hx; cases hx
   | some p =>
    cases hcc:β c with
    | none=>rw [hcc] at hy; cases hy
    | some q =>
     rw [hb] at hx; rw [hcc] at hy
     exact s.disj b p c q hb hcc (fun e=>h.1 (e ▸ hc)) x hx hy
def start (i:Nat):List AV→Asg
 | []=>[]
 | v::vs=>(i,v)::start (i+1) vs
theorem A1f:∀ (vs:List AV) (i t:Nat) (v:AV),get (start i vs) t=some v→i≤t∧vs[t - i]?=some v
 | [],i,t,v,h=>by simp [start,get] at h
 | u::vs,i,t,v,h=>by
  simp only [start,get] at h
  split at h
  ·rename_i e
   subst e
   simp only [qS] at h
   subst h
   simp
  ·rename_i hne
   obtain ⟨h1,h2⟩:=A1f vs (i+1) t v h
   refine ⟨by omega,?_⟩
   obtain ⟨k,rfl⟩:∃ k,t=i+(k+1):=⟨t - i - 1,by omega⟩
   have e1:i+(k+1) - (i+1)=k:=by omega
   have e2:i+(k+1) - i=k+1:=by omega
   rw [e1] at h2
   rw [e2]
   simpa using h2
theorem Ub {w:World} {β:Bm} {dd:Nat→Option Bool} {args:List AV} {cargs:Array Value} {N:Nat} (h:F2 (fun v cv=>VRel w β dd v cv) args cargs.toList) (hn:args.length≤N):TRel N w β dd (start 0 args) { tmps:=cargs++Array.replicate (N - cargs.size) undef,defers:=[] }:=by
 have hl:args.length=cargs.size:=by have:=h.len; simpa using this
 refine ⟨rfl,by simp; omega,?_⟩
 intro t v ht
 obtain ⟨_,h2⟩:=A1f args 0 t v ht
 rw [Nat.sub_zero] at h2
 have hlt:t<cargs.size:=by rw [← hl]; exact (qI h2).1
 refine ⟨by omega,?_⟩
 have e:(cargs++Array.replicate (N - cargs.size) undef).getD t undef=cargs[t]:=by
  simp [Array.getD_eq_getD_getElem?,Array.getElem?_append_left hlt,hlt]
 show VRel w β dd v ((cargs++Array.replicate (N - cargs.size) undef).getD t undef)
 rw [e]
 exact h.get t v cargs[t] h2 (by simp [hlt])
theorem A7.of_sw {P:Program} {f:FuncId} {fn:Func} {c:Code} {ds:List AV} {r:AV} (hf:P.funcs[f]?=some fn) (hb:fn.body=some c) (hn:ds.length≤fn.ntmps)
  (h:SW P fn.ntmps 0 [] c (fun e a H=>(e=.normal∨e=.ret)∧∃ v ids,ares P a H fn.results.toList=some v∧OutR H v r ids∧ids.Nodup) (start 0 ds) []):A7 P f ds r:=by
 intro w cargs hargs
 refine calls_of_wp hf hb ?_
 have s0:SRel w.heap.size noB [] w:=⟨fun b p hp=>(by cases hp),fun b p hp=>(by cases hp),fun b p hp=>(by cases hp),fun b p b' p' hp=>(by cases hp)⟩
 have st:St w.heap.size fn.ntmps 0 noB [] w (start 0 ds) [] noB { tmps:=cargs++Array.replicate (fn.ntmps - cargs.size) undef,defers:=[] } w :=
  ⟨s0,Ub hargs hn,Ext.refl 0 noB [] w (fun b p hp=>by cases hp),Nat.le_refl _⟩
 refine wp_mono (h _ _ _ s0 _ _ _ st) ?_
 rintro e ca' w' ⟨a',H',β',⟨he,v,ids,hv,ho,hnd⟩,st'⟩
 have hR:ca'.defers=[]∧∃ v,(results fn ca'.tmps).run P w'=.ok v w'∧∃ cv fp,Ending.returned v=.returned cv∧Below w.heap.size w w'∧FT w' r cv fp∧fp.Nodup∧∀ B∈fp,w.heap.size≤B∧B<w'.heap.size:=by
  obtain ⟨cv,h1,h2⟩:=Zt st'.s st'.t hv
  obtain ⟨fp,g1,g2⟩:=ho.ft st'.s h2
  refine ⟨st'.t.defers,cv,h1,cv,fp,rfl,⟨st'.e.os,st'.e.tape,st'.e.output,st'.e.wsz,fun k hk=>st'.e.frame k hk fun b p _ hp=>by cases hp⟩,g1,(Zv st'.s ids hnd).sublist g2,?_⟩
  intro B hB
  have hB':=g2.subset hB
  obtain ⟨b,_,hb⟩:=List.mem_flatMap.1 hB'
  unfold idFp at hb
  cases hq:β' b with
  | none=>rw [hq] at hb; cases hb
  | some p=>rw [hq] at hb; exact st'.s.ge b p hq B hb
 rcases he with rfl | rfl <;> exact hR
end Go.Proofs.YtldndhdohlfpgaaGreat.V
/- Regions that draw their order: an invariant over the sets of operations that are done. -/
namespace Go.Proofs.YtldndhdohlfpgaaGreat.V
open Go
theorem Xi {p q:Nat→Bool} {i:Nat}:∀ (l:List Nat),l.Nodup→i∈l→(∀ k,k≠i→q k=p k)→p i=true→q i=false→l.countP p=l.countP q+1
 | [],_,hi,_,_,_=>by cases hi
 | x::l,hn,hi,hk,hp,hq=>by
  rw [List.nodup_cons] at hn
  rw [List.countP_cons,List.countP_cons]
  by_cases e:x=i
  ·subst e
   have:l.countP q=l.countP p:=by
    apply List.countP_congr
    intro y hy
    have:y≠x:=fun e=>hn.1 (e ▸ hy)
    rw [hk y this]
   simp [hp,hq,this]
  ·have hm:i∈l:=by
    rcases List.mem_cons.1 hi with h | h
    ·exact absurd h.symm e
    ·exact h
   rw [Xi l hn.2 hm hk hp hq,hk x e]
   omega
def Inset (listed:Array Bool) (i:Nat):Prop:=listed[i]?=some true
theorem A1s {P:Program} {ops:Array Oper} {Q:Go.Exit→Act→World→Prop} (Inv:(Nat→Prop)→Act→World→Prop)
  (hedge:∀ (i:Nat) o,ops[i]?=some o→∀ e∈o.after,Region.binds .any e=true→e.on<i)
  (step:∀ (S:Nat→Prop) ca w (i:Nat) o,ops[i]?=some o→¬ S i→(∀ e∈o.after,Region.binds .any e=true→S e.on)→Inv S ca w→wpOp P ops Q i (fun ca' w'=>Inv (fun k=>S k∨k=i) ca' w') ca w)
  (fin:∀ (S:Nat→Prop) ca w,(∀ i,i<ops.size→S i)→Inv S ca w→Q .normal ca w)
  (congr:∀ (S S':Nat→Prop) ca w,(∀ i,S i↔S' i)→Inv S ca w→Inv S' ca w) :
  ∀ (fuel:Nat) (listed:Array Bool) (ca:Act) (w:World),listed.size=ops.size→(List.range ops.size).countP (fun i=>!listed.getD i true)=fuel→Inv (Inset listed) ca w→wpAny P .any ops Q fuel listed ca w:=by
 have full:∀ (listed:Array Bool),listed.size=ops.size→Region.ready .any ops listed=[]→∀ i,i<ops.size→Inset listed i:=by
  intro listed hsz hr i
  induction i using Nat.strongRecOn with
  | _ i ih =>
   intro hi
   by_cases hl:Inset listed i
   ·exact hl
   ·exfalso
    have hget:listed[i]?=some false:=by
     have hlt:i<listed.size:=by omega
     unfold Inset at hl
     rw [Array.getElem?_eq_getElem hlt] at hl ⊢
     cases hq:listed[i] <;> simp_all
    have hmem:i∈Region.ready .any ops listed:=by
     unfold Region.ready
     rw [List.mem_filter]
     refine ⟨List.mem_range.2 hi,?_⟩
     have ho:ops[i]?=some ops[i]:=Array.getElem?_eq_getElem hi
     simp only [Bool.and_eq_true,Bool.not_eq_true',ho,Option.map_some,Option.getD_some]
     refine ⟨by simp [Array.getD_eq_getD_getElem?,hget],?_⟩
     rw [Array.all_eq_true']
     intro e he
     cases hb:Region.binds .any e with
     | false=>rfl
     | true =>
      have hlt:=hedge i _ ho e he hb
      have:=ih e.on hlt (by omega)
      unfold Inset at this
      simp [Array.getD_eq_getD_getElem?,this]
    rw [hr] at hmem
    cases hmem
 intro fuel
 induction fuel with
 | zero =>
  intro listed ca w hsz hc hI
  rw [List.countP_eq_zero] at hc
  have hall:∀ i,i<ops.size→Inset listed i:=by
   intro i hi
   have:=hc i (List.mem_range.2 hi)
   have hlt:i<listed.size:=by omega
   unfold Inset
   rw [Array.getElem?_eq_getElem hlt]
   simp [Array.getD_eq_getD_getElem?,hlt] at this
   rw [this]
  refine ⟨?_,fin _ ca w hall hI⟩
  unfold Region.ready
  rw [List.filter_eq_nil_iff]
  intro i hi
  have:=hc i hi
  simp only [Bool.and_eq_true,not_and]
  intro h
  exact absurd h this
 | succ fuel ih =>
  intro listed ca w hsz hc hI
  refine ⟨fun hr=>fin _ ca w (full listed hsz hr) hI,?_⟩
  intro i hi
  unfold Region.ready at hi
  rw [List.mem_filter] at hi
  obtain ⟨hir,hi⟩:=hi
  have hlt:i<ops.size:=List.mem_range.1 hir
  have ho:ops[i]?=some ops[i]:=Array.getElem?_eq_getElem hlt
  simp only [Bool.and_eq_true,Bool.not_eq_true',ho,Option.map_some,Option.getD_some] at hi
  obtain ⟨h1,h2⟩:=hi
  have hnot:¬ Inset listed i:=by
   intro h
   unfold Inset at h
   simp [Array.getD_eq_getD_getElem?,h] at h1
  refine wpOp_mono ?_ (step (Inset listed) ca w i ops[i] ho hnot ?_ hI)
  ·intro ca' w' hI'
   refine ih (listed.setIfInBounds i true) ca' w' (by simp [hsz]) ?_ ?_
   ·have:=Xi (p:=fun k=>!listed.getD k true) (q:=fun k=>!(listed.setIfInBounds i true).getD k true) (i:=i) (List.range ops.size) List.nodup_range hir ?_ ?_ ?_
    ·omega
    ·intro k hk
     simp [Array.getD_eq_getD_getElem?,Array.getElem?_setIfInBounds_ne (Ne.symm hk)]
    ·simp [h1]
    ·have:i<listed.size:=by omega
     simp [Array.getD_eq_getD_getElem?,this]
   ·refine congr _ _ ca' w' ?_ hI'
    intro k
    unfold Inset
    by_cases hk:k=i
    ·subst hk
     have:k<listed.size:=by omega
     simp [this]
    ·rw [Array.getElem?_setIfInBounds_ne (Ne.symm hk)]
     simp [hk]
  ·intro e he hb
   rw [Array.all_eq_true'] at h2
   have:=h2 e he
   rw [hb] at this
   simp only [Bool.not_true,Bool.false_or] at this
   unfold Inset
   cases hq:listed[e.on]? with
   | none=>simp [Array.getD_eq_getD_getElem?,hq] at this
   | some b=>simp [Array.getD_eq_getD_getElem?,hq] at this; rw [this]
end Go.Proofs.YtldndhdohlfpgaaGreat.V
/- What an operation comes to hangs on its operands alone. -/
namespace Go.Proofs.YtldndhdohlfpgaaGreat.V
open Go
section
variable {P:Program} {H:AH} {a b:Asg} {nw:Nat}
theorem Pi:∀ (xs:List Operand),(∀ x∈xs,aev a x=aev b x)→aevs a xs=aevs b xs
 | [],_=>rfl
 | x::xs,h=>by simp only [aevs,h x (by simp),Pi xs fun y hy=>h y (List.mem_cons_of_mem _ hy)]
theorem Kg:∀ (xs:List (Nat×Operand)),(∀ x∈xs.map (·.2),aev a x=aev b x)→aparts a xs=aparts b xs
 | [],_=>rfl
 | (i,x)::xs,h=>by simp only [aparts,h x (by simp),Kg xs fun y hy=>h y (List.mem_cons_of_mem _ hy)]
theorem Qf (x:Option Operand) (h:∀ y∈x.toList,aev a y=aev b y):aevo a x=aevo b x:=by
 cases x with
 | none=>rfl
 | some x=>simp only [aevo,h x (by simp)]
theorem A3i {o:Oper} (h:∀ x∈o.op.operands,aev a x=aev b x):afree P a o=afree P b o:=by
 obtain ⟨dst,op,type,pos,after,guard⟩:=o
 cases op
 case call c =>
  obtain ⟨callee,args,argTypes⟩:=c
  have ha:∀ x∈args.toList,aev a x=aev b x:=fun x hx=>h x (by simp only [Op.operands,Call.operands]; exact Array.mem_append.2 (.inr (by simpa using hx)))
  cases callee with
  | builtin bi =>
   cases bi <;> try rfl
   all_goals
    simp only [afree]
    split
    ·rename_i x y hxy
     rw [hxy] at ha
     rw [ha x (by simp),ha y (by simp)]
    ·rfl
  | value f=>rfl
  | invoke r m=>rfl
 case makeFunc fn first captured =>
  cases fn <;> try rfl
  rename_i f
  simp only [afree]
  rw [Pi (a:=a) (b:=b) captured.toList fun x hx=>h x (by simp only [Op.operands]; exact Array.mem_append.2 (.inr (by simpa using hx)))]
 case build t parts =>
  simp only [afree]
  rw [Kg (a:=a) (b:=b) parts.toList fun x hx=>h x (by simpa [Op.operands] using hx)]
 all_goals try rfl
 case move x=>exact h x (by simp [Op.operands])
 case assign x=>exact h x (by simp [Op.operands])
 case pick c x y=>simp only [afree]; rw [h c (by simp [Op.operands]),h x (by simp [Op.operands]),h y (by simp [Op.operands])]
 case binOp op t x y yt=>simp only [afree]; rw [h x (by simp [Op.operands]),h y (by simp [Op.operands])]
 case unOp op t x=>simp only [afree]; rw [h x (by simp [Op.operands])]
 case convert s d x=>simp only [afree]; rw [h x (by simp [Op.operands])]
 case field t x f=>simp only [afree]; rw [h x (by simp [Op.operands])]
 case index t x ix=>simp only [afree]; rw [h x (by simp [Op.operands]),h ix (by simp [Op.operands])]
 case extract x i=>simp only [afree]; rw [h x (by simp [Op.operands])]
theorem A3z {o:Oper} (h:∀ x∈o.op.operands,aev a x=aev b x):aread P H a o=aread P H b o:=by
 obtain ⟨dst,op,type,pos,after,guard⟩:=o
 cases op
 case call c =>
  obtain ⟨callee,args,argTypes⟩:=c
  have ha:∀ x∈args.toList,aev a x=aev b x:=fun x hx=>h x (by simp only [Op.operands,Call.operands]; exact Array.mem_append.2 (.inr (by simpa using hx)))
  cases callee with
  | builtin bi =>
   cases bi <;> try rfl
   simp only [aread]
   split
   ·rename_i x t hxy _
    rw [hxy] at ha
    rw [ha x (by simp)]
   ·rfl
  | value f=>rfl
  | invoke r m=>rfl
 case slice t x lo hi mx =>
  simp only [aread]
  rw [h x (by simp [Op.operands]),Qf (a:=a) (b:=b) lo fun y hy=>h y (by simp [Op.operands] at hy ⊢; simp [hy]),Qf (a:=a) (b:=b) hi fun y hy=>h y (by simp [Op.operands] at hy ⊢; simp [hy]),Qf (a:=a) (b:=b) mx fun y hy=>h y (by simp [Op.operands] at hy ⊢; simp [hy])]
 all_goals try rfl
 case load t x=>simp only [aread]; rw [h x (by simp [Op.operands])]
 case nilCheck x=>simp only [aread]; rw [h x (by simp [Op.operands])]
 case convert s d x=>simp only [aread]; rw [h x (by simp [Op.operands])]
 case fieldAddr s x f=>simp only [aread]; rw [h x (by simp [Op.operands])]
 case indexAddr t x ix=>simp only [aread]; rw [h x (by simp [Op.operands]),h ix (by simp [Op.operands])]
theorem A4s {o:Oper} (h:∀ x∈o.op.operands,aev a x=aev b x):aval P H a o=aval P H b o:=by
 unfold aval
 rw [A3i h,A3z h]
theorem A5z {o:Oper} (h:∀ x∈o.op.operands,aev a x=aev b x):amk P H a o=amk P H b o:=by
 obtain ⟨dst,op,type,pos,after,guard⟩:=o
 cases op <;> try rfl
 case box t x=>simp only [amk]; rw [h x (by simp [Op.operands])]
 case makeSlice t l c=>simp only [amk]; rw [h l (by simp [Op.operands]),h c (by simp [Op.operands])]
 case buildSlice t len parts =>
  simp only [amk]
  rw [Kg (a:=a) (b:=b) parts.toList fun x hx=>h x (by simpa [Op.operands] using hx)]
theorem Lf {o:Oper} {K:AV→AH→Prop} (h:∀ x∈o.op.operands,aev a x=aev b x) (hh:awpExec0 P nw o a H K):awpExec0 P nw o b H K:=by
 have e1:=A5z (P:=P) (H:=H) h
 have e2:=A4s (P:=P) (H:=H) h
 obtain ⟨dst,op,type,pos,after,guard⟩:=o
 cases op
 case call c =>
  obtain ⟨callee,args,argTypes⟩:=c
  have ha:∀ x∈args.toList,aev a x=aev b x:=fun x hx=>h x (by simp only [Op.operands,Call.operands]; exact Array.mem_append.2 (.inr (by simpa using hx)))
  cases callee with
  | builtin bi =>
   cases bi
   case append =>
    simp only [awpExec0] at hh ⊢
    split at hh
    ·rename_i s x t t' hs ht
     rw [hs] at ha
     rw [← ha s (by simp),← ha x (by simp)]
     exact hh
    ·exact hh.elim
   all_goals
    unfold awpExec0 at hh ⊢
    rw [← e2]
    exact hh
  | value f =>
   simp only [awpExec0] at hh ⊢
   rw [← Pi args.toList ha,← h f (by simp only [Op.operands,Call.operands]; exact Array.mem_append.2 (.inl (by simp)))]
   exact hh
  | invoke r m =>
   simp only [awpExec0] at hh ⊢
   rw [← e2]
   exact hh
 case store t x y =>
  simp only [awpExec0] at hh ⊢
  rw [← h x (by simp [Op.operands]),← h y (by simp [Op.operands])]
  exact hh
 case alloc | box | buildSlice | makeSlice =>
  simp only [awpExec0] at hh ⊢
  rw [← e1]
  exact hh
 all_goals
  simp only [awpExec0] at hh ⊢
  rw [← e2]
  exact hh
theorem A04 {o:Oper} {K:AV→AH→Prop} (h:∀ x∈o.op.operands,aev a x=aev b x) (hh:awpExec P nw o a H K):awpExec P nw o b H K:=by
 rcases hh with hh | ⟨v,H',u,h0,hl,hk⟩ | ⟨v,H',h0,hk⟩
 ·exact .inl (Lf h hh)
 ·exact .inr (.inl ⟨v,H',u,Lf h h0,hl,hk⟩)
 ·refine .inr (.inr ⟨v,H',?_,hk⟩)
  unfold amv at h0 ⊢
  split at h0
  case h_2=>cases h0
  rename_i args argTypes hop
  split at h0
  case h_2=>cases h0
  rename_i s x t t' hargs htys
  have hs:aev a s=aev b s:=h s (by rw [hop]; simp only [Op.operands,Call.operands]; exact Array.mem_append.2 (.inr (Array.mem_def.2 (by rw [hargs]; simp))))
  have hx:aev a x=aev b x:=h x (by rw [hop]; simp only [Op.operands,Call.operands]; exact Array.mem_append.2 (.inr (Array.mem_def.2 (by rw [hargs]; simp))))
  rw [← hs,← hx]
  exact h0
end
end Go.Proofs.YtldndhdohlfpgaaGreat.V
/- Regions that draw their order: run once in text order, with what must hold of the other orders. -/
namespace Go.Proofs.YtldndhdohlfpgaaGreat.V
open Go
inductive Bf (ops:Array Oper):Nat→Nat→Prop
 | edge {i:Nat} {o:Oper} {e} (ho:ops[i]?=some o) (he:e∈o.after) (hb:Region.binds .any e=true):Bf ops e.on i
 | trans {i j:Nat} {o:Oper} {e} (ho:ops[i]?=some o) (he:e∈o.after) (hb:Region.binds .any e=true) (h:Bf ops j e.on):Bf ops j i
def maskOf (acc:List Nat):List Edge→Nat
 | []=>0
 | e::l=>if Region.binds .any e then maskOf acc l ||| 2 ^ e.on ||| acc.getD e.on 0 else maskOf acc l
def masks:List Oper→List Nat→List Nat
 | [],acc=>acc
 | o::l,acc=>masks l (acc++[maskOf acc o.after.toList])
def bfB (ms:List Nat) (j i:Nat):Bool:=(ms.getD i 0).testBit j
theorem Ll (acc:List Nat) (j:Nat):∀ l,(maskOf acc l).testBit j=true→∃ e∈l,Region.binds .any e=true∧(j=e.on∨(acc.getD e.on 0).testBit j=true)
 | [],h=>by simp [maskOf] at h
 | e::l,h=>by
  simp only [maskOf] at h
  split at h
  ·rename_i hb
   rw [Nat.testBit_or,Nat.testBit_or,Nat.testBit_two_pow,Bool.or_eq_true,Bool.or_eq_true] at h
   rcases h with (h | h) | h
   ·obtain ⟨e',h1,h2⟩:=Ll acc j l h
    exact ⟨e',List.mem_cons_of_mem _ h1,h2⟩
   ·exact ⟨e,by simp,hb,.inl (Eq.symm (by simpa using h))⟩
   ·exact ⟨e,by simp,hb,.inr h⟩
  ·obtain ⟨e',h1,h2⟩:=Ll acc j l h
   exact ⟨e',List.mem_cons_of_mem _ h1,h2⟩
theorem Xm {ops:Array Oper}:∀ (l:List Oper) (acc:List Nat),(∀ (k:Nat) m,acc[k]?=some m→∀ j,m.testBit j=true→Bf ops j k)→(∀ (k:Nat) o,l[k]?=some o→ops[acc.length+k]?=some o) →
  ∀ (k:Nat) m,(masks l acc)[k]?=some m→∀ j,m.testBit j=true→Bf ops j k
 | [],acc,ha,_=>ha
 | o::l,acc,ha,hl=>by
  refine Xm l (acc++[maskOf acc o.after.toList]) ?_ ?_
  ·intro k m hk j hj
   rcases Nat.lt_trichotomy k acc.length with h | h | h
   ·rw [List.getElem?_append_left h] at hk
    exact ha k m hk j hj
   ·subst h
    rw [List.getElem?_append_right (Nat.le_refl _)] at hk
    simp at hk
    subst hk
    obtain ⟨e,h1,h2,h3⟩:=Ll acc j _ hj
    have ho:ops[acc.length]?=some o:=by have:=hl 0 o (by simp); simpa using this
    rcases h3 with rfl | h3
    ·exact .edge ho (by simpa using h1) h2
    ·refine .trans ho (by simpa using h1) h2 ?_
     cases hq:acc[e.on]? with
     | none=>simp [List.getD_eq_getElem?_getD,hq] at h3
     | some m=>exact ha _ m hq j (by simpa [List.getD_eq_getElem?_getD,hq] using h3)
   ·rw [List.getElem?_eq_none (by simp; omega)] at hk
    cases hk
  ·intro k o' hk
   have:=hl (k+1) o' (by simpa using hk)
   simpa [Nat.add_assoc,Nat.add_comm 1 k] using this
theorem Jr {ops:Array Oper} {j i:Nat} (h:bfB (masks ops.toList []) j i=true):Bf ops j i:=by
 unfold bfB at h
 cases hq:(masks ops.toList [])[i]? with
 | none=>simp [List.getD_eq_getElem?_getD,hq] at h
 | some m=>exact Xm ops.toList [] (by simp) (by intro k o hk; simpa using hk) i m hq j (by simpa [List.getD_eq_getElem?_getD,hq] using h)
theorem Bf.mem {ops:Array Oper} {S:Nat→Prop} (hS:∀ (i:Nat) o,ops[i]?=some o→S i→∀ e∈o.after,Region.binds .any e=true→S e.on) {j i:Nat} (h:Bf ops j i):S i→S j:=by
 induction h with
 | edge ho he hb=>exact fun hi=>hS _ _ ho hi _ he hb
 | trans ho he hb _ ih=>exact fun hi=>ih (hS _ _ ho hi _ he hb)
theorem Bf.mem' {ops:Array Oper} {S:Nat→Prop} (hS:∀ (i:Nat) o,ops[i]?=some o→S i→∀ e∈o.after,Region.binds .any e=true→S e.on) {j i:Nat} {o:Oper} (ho:ops[i]?=some o) (hpre:∀ e∈o.after,Region.binds .any e=true→S e.on) (h:Bf ops j i):S j:=by
 cases h with
 | edge ho' he hb=>rw [ho] at ho'; cases ho'; exact hpre _ he hb
 | trans ho' he hb h=>rw [ho] at ho'; cases ho'; exact h.mem hS (hpre _ he hb)
inductive Pl
 | val (ps:List Nat)
 | chn (rc:List Nat)
 | flt (k:Nat)
def Pl.isChn:Pl→Bool
 | .chn _=>true
 | .val _=>false
 | .flt _=>false
def edgesOk (ops:Array Oper):Bool:=(List.range ops.size).all fun i=>match ops[i]? with
 | some o=>o.after.toList.all fun e=>!Region.binds .any e||Nat.blt e.on i
 | none=>true
def dstsOk (ops:Array Oper):Bool:=(List.range ops.size).all fun i=>(List.range i).all fun j=>match ops[i]?,ops[j]? with
 | some o,some p=>match o.dst,p.dst with | some x,some y=>!(Nat.beq x y) | _,_=>true
 | _,_=>true
def looksOk (ops:Array Oper) (ms:List Nat):Bool:=(List.range ops.size).all fun i=>(List.range ops.size).all fun j=>match ops[i]?,ops[j]? with
 | some o,some p=>match p.dst with | some x=>Nat.beq i j||bfB ms j i||bfB ms i j||(o.looksAt ops).all (fun y=>!(Nat.beq x y)) | none=>true
 | _,_=>true
def planOk (ops:Array Oper) (pl:List Pl) (ms:List Nat):Bool:=(List.range ops.size).all fun i=>(List.range i).all fun j=>match pl[i]?,pl[j]? with
 | some (.chn rc),some (.val _)=>bfB ms j i||rc.any (Nat.beq j)
 | some (.chn _),some (.chn _)=>bfB ms j i
 | some (.val ps),some (.chn _)=>bfB ms j i||ps.any (Nat.beq j)
 | some (.chn _),some (.flt _)=>bfB ms j i
 | some (.flt k),some (.flt k')=>!(Nat.beq k k')
 | _,_=>true
def drawOk (ops:Array Oper) (pl:List Pl):Bool:=Nat.beq pl.length ops.size&&edgesOk ops&&dstsOk ops&&looksOk ops (masks ops.toList [])&&planOk ops pl (masks ops.toList [])
structure DrawOk (ops:Array Oper) (pl:List Pl):Prop where
 len:pl.length=ops.size
 edge:∀ (i:Nat) o,ops[i]?=some o→∀ e∈o.after,Region.binds .any e=true→e.on<i
 dst:∀ (i j:Nat) o p x,ops[i]?=some o→ops[j]?=some p→o.dst=some x→p.dst=some x→i=j
 look:∀ (i j:Nat) o p x,ops[i]?=some o→ops[j]?=some p→p.dst=some x→x∈o.looksAt ops→i=j∨Bf ops j i∨Bf ops i j
 cc:∀ (i j:Nat) rc rc',j<i→pl[i]?=some (.chn rc)→pl[j]?=some (.chn rc')→Bf ops j i
 cv:∀ (i j:Nat) rc ps,j<i→pl[i]?=some (.chn rc)→pl[j]?=some (.val ps)→Bf ops j i∨j∈rc
 vc:∀ (i j:Nat) ps rc,j<i→pl[i]?=some (.val ps)→pl[j]?=some (.chn rc)→Bf ops j i∨j∈ps
 fc:∀ (i j:Nat) rc k,j<i→pl[i]?=some (.chn rc)→pl[j]?=some (.flt k)→Bf ops j i
 ff:∀ (i j:Nat) k,pl[i]?=some (.flt k)→pl[j]?=some (.flt k)→i=j
theorem A3m {ops:Array Oper} {pl:List Pl} (h:drawOk ops pl=true):DrawOk ops pl:=by
 unfold drawOk at h
 simp only [Bool.and_eq_true] at h
 obtain ⟨⟨⟨⟨h1,h2⟩,h3⟩,h4⟩,h5⟩:=h
 have hlen:pl.length=ops.size:=Nat.eq_of_beq_eq_true h1
 have lt:∀ {i:Nat} {o:Oper},ops[i]?=some o→i<ops.size:=fun h=>(Array.getElem?_eq_some_iff.1 h).1
 have dst':∀ (i j:Nat) o p x,j<i→ops[i]?=some o→ops[j]?=some p→o.dst=some x→p.dst=some x→False:=by
  intro i j o p x hji ho hp hox hpx
  have:=List.all_eq_true.1 (List.all_eq_true.1 h3 i (List.mem_range.2 (lt ho))) j (List.mem_range.2 hji)
  simp only [ho,hp,hox,hpx,Nat.beq_refl] at this
  cases this
 have pair:∀ (i j:Nat),j<i→i<ops.size→_:=fun i j hji hi=>List.all_eq_true.1 (List.all_eq_true.1 h5 i (List.mem_range.2 hi)) j (List.mem_range.2 hji)
 have plt:∀ {i:Nat} {p:Pl},pl[i]?=some p→i<ops.size:=fun h=>by have:=(qI h).1; omega
 have ff':∀ (i j:Nat) k,j<i→pl[i]?=some (.flt k)→pl[j]?=some (.flt k)→False:=by
  intro i j k hji hi hj
  have:=pair i j hji (plt hi)
  simp only [hi,hj,Nat.beq_refl] at this
  cases this
 refine ⟨hlen,?_,?_,?_,?_,?_,?_,?_,?_⟩
 ·intro i o ho e he hb
  have:=List.all_eq_true.1 h2 i (List.mem_range.2 (lt ho))
  simp only [ho] at this
  have:=List.all_eq_true.1 this e (by simpa using he)
  rw [hb] at this
  simpa [Nat.blt_eq] using this
 ·intro i j o p x ho hp hox hpx
  rcases Nat.lt_trichotomy i j with h | h | h
  ·exact (dst' j i p o x h hp ho hpx hox).elim
  ·exact h
  ·exact (dst' i j o p x h ho hp hox hpx).elim
 ·intro i j o p x ho hp hpx hx
  have:=List.all_eq_true.1 (List.all_eq_true.1 h4 i (List.mem_range.2 (lt ho))) j (List.mem_range.2 (lt hp))
  simp only [ho,hp,hpx,Bool.or_eq_true] at this
  rcases this with ((h | h) | h) | h
  ·exact .inl (Nat.eq_of_beq_eq_true h)
  ·exact .inr (.inl (Jr h))
  ·exact .inr (.inr (Jr h))
  ·have:=List.all_eq_true.1 h x hx
   simp [Nat.beq_refl] at this
 ·intro i j rc rc' hji hi hj
  have:=pair i j hji (plt hi)
  simp only [hi,hj] at this
  exact Jr this
 ·intro i j rc ps hji hi hj
  have:=pair i j hji (plt hi)
  simp only [hi,hj,Bool.or_eq_true] at this
  rcases this with h | h
  ·exact .inl (Jr h)
  ·obtain ⟨y,hy,he⟩:=List.any_eq_true.1 h
   exact .inr (Nat.eq_of_beq_eq_true he ▸ hy)
 ·intro i j ps rc hji hi hj
  have:=pair i j hji (plt hi)
  simp only [hi,hj,Bool.or_eq_true] at this
  rcases this with h | h
  ·exact .inl (Jr h)
  ·obtain ⟨y,hy,he⟩:=List.any_eq_true.1 h
   exact .inr (Nat.eq_of_beq_eq_true he ▸ hy)
 ·intro i j rc k hji hi hj
  have:=pair i j hji (plt hi)
  simp only [hi,hj] at this
  exact Jr this
 ·intro i j k hi hj
  rcases Nat.lt_trichotomy i j with h | h | h
  ·exact (ff' j i k h hj hi).elim
  ·exact h
  ·exact (ff' i j k h hi hj).elim
def still (P:Program) (nw:Nat) (o:Oper) (a:Asg) (H:AH) (v:AV):Prop:=awpExec P nw o a H fun v' H'=>v'=v∧H'=H
structure Dn where
 j:Nat
 a:Asg
 o:Oper
 v:AV
def afl (P:Program) (o:Oper):Option (List AV):=match o.op with | .alloc T=>zeroT P T | _=>none
def awpDraw (P:Program) (N nw n0:Nat) (ops:Array Oper) (K:Asg→AH→Prop):Nat→List Oper→List Pl→List (Nat×AH)→List Dn→Asg→AH→Prop
 | i,o::rest,pl::pls,hs,dn,a,H=>match gd ops o a,pl with
  | some true,.val ps=>awpExec P nw o a H fun v H'=>H'=H∧(∀ x∈hs,x.1∈ps→still P nw o a x.2 v)∧ptd N o.dst v a fun a'=>awpDraw P N nw n0 ops K (i+1) rest pls hs (⟨i,a,o,v⟩::dn) a' H
  | some false,.val _=>ptd N o.dst (.tup []) a fun a'=>awpDraw P N nw n0 ops K (i+1) rest pls hs dn a' H
  | some true,.chn rc=>awpExec P nw o a H fun v H'=>(∀ x∈dn,x.j∈rc→still P nw x.o x.a H' x.v)∧ptd N o.dst v a fun a'=>awpDraw P N nw n0 ops K (i+1) rest pls ((i,H)::hs) dn a' H'
  | some false,.chn rc=>(∀ x∈dn,x.j∈rc→still P nw x.o x.a H x.v)∧ptd N o.dst (.tup []) a fun a'=>awpDraw P N nw n0 ops K (i+1) rest pls ((i,H)::hs) dn a' H
  | some true,.flt k=>∃ z,afl P o=some z∧H[n0+k]?=some (some ⟨z,0⟩)∧(∀ x∈hs,x.2[n0+k]?=some (some ⟨z,0⟩))∧ptd N o.dst (.ptr (n0+k) 0) a fun a'=>awpDraw P N nw n0 ops K (i+1) rest pls hs dn a' H
  | some false,.flt _=>False
  | none,_=>False
 | _,[],[],_,_,a,H=>K a H
 | _,_,_,_,_,_,_=>False
end Go.Proofs.YtldndhdohlfpgaaGreat.V
/- Regions that draw their order: what the run in text order says of every order. -/
namespace Go.Proofs.YtldndhdohlfpgaaGreat.V
open Go
structure Ent where
 a:Asg
 H:AH
 v:AV
 g:Bool
 a':Asg
 H':AH
def puta (dst:Option Tmp) (v:AV) (a:Asg):Asg:=match dst with | none=>a | some d=>(d,v)::a
section
variable (P:Program) (N nw n0:Nat) (ops:Array Oper) (pl:List Pl)
structure G1 (k:Nat) (e:Ent) (o:Oper):Prop where
 gd:gd ops o e.a=some e.g
 d:∀ d,o.dst=some d→d<N
 a':e.a'=puta o.dst e.v e.a
 off:e.g=false→e.v=.tup []∧e.H'=e.H
 on:e.g=true→(∀ q,pl[k]?≠some (.flt q))→awpExec P nw o e.a e.H fun v H'=>v=e.v∧H'=e.H'
 val:∀ p,pl[k]?=some p→p.isChn=false→e.H'=e.H
 flt:∀ q,pl[k]?=some (.flt q)→e.g=true∧e.v=.ptr (n0+q) 0∧∃ z,afl P o=some z∧e.H[n0+q]?=some (some ⟨z,0⟩)
structure G2 (j k:Nat) (ej ek:Ent):Prop where
 vc:∀ ps rc o,pl[k]?=some (.val ps)→pl[j]?=some (.chn rc)→ops[k]?=some o→ek.g=true→j∈ps→still P nw o ek.a ej.H ek.v
 cv:∀ ps rc o,pl[k]?=some (.chn rc)→pl[j]?=some (.val ps)→ops[j]?=some o→ej.g=true→j∈rc→still P nw o ej.a ek.H' ej.v
 fl:∀ q rc o,pl[k]?=some (.flt q)→pl[j]?=some (.chn rc)→ops[k]?=some o→∃ z,afl P o=some z∧ej.H[n0+q]?=some (some ⟨z,0⟩)
structure PI (a0:Asg) (H0:AH) (tb:List Ent) (a:Asg) (H:AH):Prop where
 one:∀ (k:Nat) e,tb[k]?=some e→∃ o,ops[k]?=some o∧G1 P N nw n0 ops pl k e o
 two:∀ (j k:Nat) ej ek,j<k→tb[j]?=some ej→tb[k]?=some ek→G2 P nw n0 ops pl j k ej ek
 zero:∀ e,tb[0]?=some e→e.a=a0∧e.H=H0
 link:∀ (k:Nat) e e',tb[k]?=some e→tb[k+1]?=some e'→e'.a=e.a'∧e'.H=e.H'
 nil:tb=[]→a=a0∧H=H0
 last:∀ (k:Nat) e,tb[k]?=some e→k+1=tb.length→a=e.a'∧H=e.H'
end
section
variable {P:Program} {N nw n0:Nat} {ops:Array Oper} {pl:List Pl} {a0 a:Asg} {H0 H:AH} {tb:List Ent}
theorem P2 {α:Type} {l:List α} {e x:α} {k:Nat} (h:(l++[e])[k]?=some x):(k<l.length∧l[k]?=some x)∨(k=l.length∧x=e):=by
 rcases Nat.lt_trichotomy k l.length with hlt | heq | hgt
 ·rw [List.getElem?_append_left hlt] at h; exact .inl ⟨hlt,h⟩
 ·subst heq
  rw [List.getElem?_append_right (Nat.le_refl _)] at h
  simp at h
  exact .inr ⟨rfl,h.symm⟩
 ·rw [List.getElem?_eq_none (by simp; omega)] at h
  cases h
theorem PI.extend (pi:PI P N nw n0 ops pl a0 H0 tb a H) {e:Ent} {o:Oper} (ho:ops[tb.length]?=some o) (g1:G1 P N nw n0 ops pl tb.length e o) (ea:e.a=a) (eH:e.H=H)
  (g2:∀ (j:Nat) ej,tb[j]?=some ej→G2 P nw n0 ops pl j tb.length ej e):PI P N nw n0 ops pl a0 H0 (tb++[e]) e.a' e.H' where
 one:=by
  intro k x hk
  rcases P2 hk with ⟨_,hk⟩ | ⟨rfl,rfl⟩
  ·exact pi.one k x hk
  ·exact ⟨o,ho,g1⟩
 two:=by
  intro j k ej ek hjk hj hk
  rcases P2 hk with ⟨hkl,hk⟩ | ⟨rfl,rfl⟩
  ·rcases P2 hj with ⟨_,hj⟩ | ⟨rfl,rfl⟩
   ·exact pi.two j k ej ek hjk hj hk
   ·omega
  ·rcases P2 hj with ⟨_,hj⟩ | ⟨rfl,rfl⟩
   ·exact g2 j ej hj
   ·omega
 zero:=by
  intro x hx
  rcases P2 hx with ⟨_,hx⟩ | ⟨h0,rfl⟩
  ·exact pi.zero x hx
  ·have:=pi.nil (List.eq_nil_of_length_eq_zero h0.symm)
   exact ⟨ea.trans this.1,eH.trans this.2⟩
 link:=by
  intro k x x' hk hk'
  rcases P2 hk' with ⟨hl,hk'⟩ | ⟨hl,rfl⟩
  ·rcases P2 hk with ⟨_,hk⟩ | ⟨rfl,rfl⟩
   ·exact pi.link k x x' hk hk'
   ·omega
  ·rcases P2 hk with ⟨_,hk⟩ | ⟨rfl,rfl⟩
   ·have:=pi.last k x hk hl
    exact ⟨ea.trans this.1,eH.trans this.2⟩
   ·omega
 nil:=by intro h; simp at h
 last:=by
  intro k x hk hl
  rcases P2 hk with ⟨hkl,hk⟩ | ⟨rfl,rfl⟩
  ·simp at hl; omega
  ·exact ⟨rfl,rfl⟩
theorem A3a {o:Oper} {K:AV→AH→Prop} (h:awpExec0 P nw o a H K):∃ v H',K v H'∧awpExec0 P nw o a H fun v1 H1=>v1=v∧H1=H':=by
 unfold awpExec0 at h ⊢
 split at h
 case h_1 | h_2 | h_3 | h_4 =>
  split at h
  ·rename_i v H' hm; exact ⟨v,H',h,by simp⟩
  ·exact h.elim
 ·split at h
  ·rename_i hx hy
   split at h
   ·rename_i H' hs
    exact ⟨_,H',h,by simp⟩
   ·exact h.elim
  ·exact h.elim
 ·split at h
  ·rename_i h1 h2
   split at h
   ·rename_i h3 h4
    split at h
    ·rename_i h5
     split at h
     ·rename_i v H' h6
      exact ⟨v,H',h,by simp [h5] at h6 ⊢⟩
     ·exact h.elim
    ·exact h.elim
   ·exact h.elim
  ·exact h.elim
 ·split at h
  ·rename_i hf hv
   obtain ⟨hok,v,H',hc,hK⟩:=h
   exact ⟨v,H',hK,by exact ⟨hok,v,H',hc,rfl,rfl⟩⟩
  ·exact h.elim
 ·split at h
  ·rename_i v hv; exact ⟨v,H,h,by simp⟩
  ·exact h.elim
theorem Xu {o:Oper} {K:AV→AH→Prop} (h:awpExec P nw o a H K):∃ v H',K v H'∧awpExec P nw o a H fun v1 H1=>v1=v∧H1=H':=by
 rcases h with h | ⟨v,H',u,h0,hl,hk⟩ | ⟨v,H',h0,hk⟩
 ·obtain ⟨v,H',h1,h2⟩:=A3a h
  exact ⟨v,H',h1,.inl h2⟩
 ·exact ⟨u,H,hk,.inr (.inl ⟨v,H',u,h0,hl,rfl,rfl⟩)⟩
 ·exact ⟨v,H',hk,.inr (.inr ⟨v,H',h0,rfl,rfl⟩)⟩
theorem Rc {dst:Option Tmp} {v:AV} {K:Asg→Prop} (h:ptd N dst v a K):(∀ d,dst=some d→d<N)∧K (puta dst v a):=by
 cases dst with
 | none=>exact ⟨by simp,h⟩
 | some d=>exact ⟨by intro x hx; cases hx; exact h.1,h.2⟩
theorem Eg {K:Asg→AH→Prop}:∀ (l:List Oper) (pls:List Pl) (i:Nat) (hs:List (Nat×AH)) (dn:List Dn) (a:Asg) (H:AH) (tb:List Ent),awpDraw P N nw n0 ops K i l pls hs dn a H→i=tb.length →
  (∀ (k:Nat) o,l[k]?=some o→ops[i+k]?=some o)→(∀ k:Nat,pl[i+k]?=pls[k]?)→PI P N nw n0 ops pl a0 H0 tb a H →
  (∀ (j:Nat) e rc,tb[j]?=some e→pl[j]?=some (.chn rc)→(j,e.H)∈hs) →
  (∀ (j:Nat) e ps o,tb[j]?=some e→pl[j]?=some (.val ps)→e.g=true→ops[j]?=some o→(⟨j,e.a,o,e.v⟩:Dn)∈dn) →
  ∃ tb' a' H',PI P N nw n0 ops pl a0 H0 tb' a' H'∧K a' H'∧tb'.length=i+l.length
 | [],pls,i,hs,dn,a,H,tb,h,hi,_,hpl,pi,_,_=>by
  cases pls with
  | nil=>exact ⟨tb,a,H,pi,h,by simp [hi]⟩
  | cons=>exact h.elim
 | o::l,pls,i,hs,dn,a,H,tb,h,hi,hops,hpl,pi,hhs,hdn=>by
  cases pls with
  | nil=>exact h.elim
  | cons p pls =>
   have ho:ops[i]?=some o:=by have:=hops 0 o (by simp); simpa using this
   have hp:pl[i]?=some p:=by have:=hpl 0; simpa using this
   have hops':∀ (k:Nat) o,l[k]?=some o→ops[i+1+k]?=some o:=by
    intro k o' hk
    have:=hops (k+1) o' (by simpa using hk)
    have e:i+1+k=i+(k+1):=by omega
    rw [e]; exact this
   have hpl':∀ k:Nat,pl[i+1+k]?=pls[k]?:=by
    intro k
    have:=hpl (k+1)
    have e:i+1+k=i+(k+1):=by omega
    rw [e,this]; simp
   have hlen:∀ e:Ent,i+1=(tb++[e]).length:=by intro e; simp [hi]
   have hfin:i+1+l.length=i+(o::l).length:=by simp; omega
   simp only [awpDraw] at h
   split at h
   ·-- .val
    rename_i ps hg
    have hhs':∀ e:Ent,∀ (j:Nat) e' rc,(tb++[e])[j]?=some e'→pl[j]?=some (.chn rc)→(j,e'.H)∈hs:=by
     intro e j e' rc hj hc
     rcases P2 hj with ⟨_,hj⟩ | ⟨rfl,rfl⟩
     ·exact hhs j e' rc hj hc
     ·rw [← hi,hp] at hc; cases hc
    obtain ⟨v,H',⟨rfl,hx,hk⟩,hex⟩:=Xu h
    obtain ⟨hd,hk⟩:=Rc hk
    have pi':=pi.extend (e:=⟨a,H',v,true,puta o.dst v a,H'⟩) (o:=o) (hi ▸ ho) ⟨hg,hd,rfl,by simp,fun _ _=>hex,fun _ _ _=>rfl,fun q h1=>by rw [← hi,hp] at h1; cases h1⟩ rfl rfl (by
     intro j ej hj
     refine ⟨?_,?_,fun q rc' o' h1=>by rw [← hi,hp] at h1; cases h1⟩
     ·intro ps' rc o' h1 h2 h3 _ h5
      rw [← hi,hp] at h1; cases h1
      rw [← hi,ho] at h3; cases h3
      exact hx (j,ej.H) (hhs j ej rc hj h2) h5
     ·intro ps' rc o' h1
      rw [← hi,hp] at h1; cases h1)
    obtain ⟨tb',a2,H2,r1,r2,r3⟩:=Eg l pls (i+1) hs _ _ _ _ hk (hlen _) hops' hpl' pi' (hhs' _) (by
     intro j e' ps' o' hj hc hg' ho'
     rcases P2 hj with ⟨_,hj⟩ | ⟨rfl,rfl⟩
     ·exact List.mem_cons_of_mem _ (hdn j e' ps' o' hj hc hg' ho')
     ·rw [← hi,ho] at ho'; cases ho'
      simp [hi])
    exact ⟨tb',a2,H2,r1,r2,r3.trans hfin⟩
   ·-- .val,not wanted
    rename_i ps hg
    have hhs':∀ e:Ent,∀ (j:Nat) e' rc,(tb++[e])[j]?=some e'→pl[j]?=some (.chn rc)→(j,e'.H)∈hs:=by
     intro e j e' rc hj hc
     rcases P2 hj with ⟨_,hj⟩ | ⟨rfl,rfl⟩
     ·exact hhs j e' rc hj hc
     ·rw [← hi,hp] at hc; cases hc
    obtain ⟨hd,hk⟩:=Rc h
    have pi':=pi.extend (e:=⟨a,H,.tup [],false,puta o.dst (.tup []) a,H⟩) (o:=o) (hi ▸ ho) ⟨hg,hd,rfl,by simp,by simp,fun _ _ _=>rfl,fun q h1=>by rw [← hi,hp] at h1; cases h1⟩ rfl rfl (by
     intro j ej hj
     refine ⟨by intro ps' rc o' _ _ _ h4; simp at h4,?_,fun q rc' o' h1=>by rw [← hi,hp] at h1; cases h1⟩
     intro ps' rc o' h1
     rw [← hi,hp] at h1; cases h1)
    obtain ⟨tb',a2,H2,r1,r2,r3⟩:=Eg l pls (i+1) hs _ _ _ _ hk (hlen _) hops' hpl' pi' (hhs' _) (by
     intro j e' ps' o' hj hc hg' ho'
     rcases P2 hj with ⟨_,hj⟩ | ⟨rfl,rfl⟩
     ·exact hdn j e' ps' o' hj hc hg' ho'
     ·simp at hg')
    exact ⟨tb',a2,H2,r1,r2,r3.trans hfin⟩
   ·-- .chn
    rename_i rc hg
    have hdn':∀ e:Ent,∀ (j:Nat) e' ps o',(tb++[e])[j]?=some e'→pl[j]?=some (.val ps)→e'.g=true→ops[j]?=some o'→(⟨j,e'.a,o',e'.v⟩:Dn)∈dn:=by
     intro e j e' ps o' hj hc hg' ho'
     rcases P2 hj with ⟨_,hj⟩ | ⟨rfl,rfl⟩
     ·exact hdn j e' ps o' hj hc hg' ho'
     ·rw [← hi,hp] at hc; cases hc
    have hhs':∀ e:Ent,e.H=H→∀ (j:Nat) e' rc,(tb++[e])[j]?=some e'→pl[j]?=some (.chn rc)→(j,e'.H)∈(i,H)::hs:=by
     intro e eH j e' rc hj hc
     rcases P2 hj with ⟨_,hj⟩ | ⟨rfl,rfl⟩
     ·exact List.mem_cons_of_mem _ (hhs j e' rc hj hc)
     ·simp [hi,eH]
    obtain ⟨v,H',⟨hx,hk⟩,hex⟩:=Xu h
    obtain ⟨hd,hk⟩:=Rc hk
    have pi':=pi.extend (e:=⟨a,H,v,true,puta o.dst v a,H'⟩) (o:=o) (hi ▸ ho) ⟨hg,hd,rfl,by simp,fun _ _=>hex,fun p' h1 h2=>(by rw [← hi,hp] at h1; cases h1; cases h2),fun q h1=>(by rw [← hi,hp] at h1; cases h1)⟩ rfl rfl (by
     intro j ej hj
     refine ⟨?_,?_,fun q rc' o' h1=>by rw [← hi,hp] at h1; cases h1⟩
     ·intro ps' rc' o' h1
      rw [← hi,hp] at h1; cases h1
     ·intro ps' rc' o' h1 h2 h3 h4 h5
      rw [← hi,hp] at h1; cases h1
      exact hx _ (hdn j ej ps' o' hj h2 h4 h3) h5)
    obtain ⟨tb',a2,H2,r1,r2,r3⟩:=Eg l pls (i+1) _ dn _ _ _ hk (hlen _) hops' hpl' pi' (hhs' _ rfl) (hdn' _)
    exact ⟨tb',a2,H2,r1,r2,r3.trans hfin⟩
   ·-- .chn,not wanted
    rename_i rc hg
    have hdn':∀ e:Ent,∀ (j:Nat) e' ps o',(tb++[e])[j]?=some e'→pl[j]?=some (.val ps)→e'.g=true→ops[j]?=some o'→(⟨j,e'.a,o',e'.v⟩:Dn)∈dn:=by
     intro e j e' ps o' hj hc hg' ho'
     rcases P2 hj with ⟨_,hj⟩ | ⟨rfl,rfl⟩
     ·exact hdn j e' ps o' hj hc hg' ho'
     ·rw [← hi,hp] at hc; cases hc
    have hhs':∀ e:Ent,e.H=H→∀ (j:Nat) e' rc,(tb++[e])[j]?=some e'→pl[j]?=some (.chn rc)→(j,e'.H)∈(i,H)::hs:=by
     intro e eH j e' rc hj hc
     rcases P2 hj with ⟨_,hj⟩ | ⟨rfl,rfl⟩
     ·exact List.mem_cons_of_mem _ (hhs j e' rc hj hc)
     ·simp [hi,eH]
    obtain ⟨hx,hk⟩:=h
    obtain ⟨hd,hk⟩:=Rc hk
    have pi':=pi.extend (e:=⟨a,H,.tup [],false,puta o.dst (.tup []) a,H⟩) (o:=o) (hi ▸ ho) ⟨hg,hd,rfl,by simp,by simp,fun _ _ _=>rfl,fun q h1=>by rw [← hi,hp] at h1; cases h1⟩ rfl rfl (by
     intro j ej hj
     refine ⟨?_,?_,fun q rc' o' h1=>by rw [← hi,hp] at h1; cases h1⟩
     ·intro ps' rc' o' h1
      rw [← hi,hp] at h1; cases h1
     ·intro ps' rc' o' h1 h2 h3 h4 h5
      rw [← hi,hp] at h1; cases h1
      exact hx _ (hdn j ej ps' o' hj h2 h4 h3) h5)
    obtain ⟨tb',a2,H2,r1,r2,r3⟩:=Eg l pls (i+1) _ dn _ _ _ hk (hlen _) hops' hpl' pi' (hhs' _ rfl) (hdn' _)
    exact ⟨tb',a2,H2,r1,r2,r3.trans hfin⟩
   ·-- .flt
    rename_i k hg
    have hhs':∀ e:Ent,∀ (j:Nat) e' rc,(tb++[e])[j]?=some e'→pl[j]?=some (.chn rc)→(j,e'.H)∈hs:=by
     intro e j e' rc hj hc
     rcases P2 hj with ⟨_,hj⟩ | ⟨rfl,rfl⟩
     ·exact hhs j e' rc hj hc
     ·rw [← hi,hp] at hc; cases hc
    have hdn':∀ e:Ent,∀ (j:Nat) e' ps o',(tb++[e])[j]?=some e'→pl[j]?=some (.val ps)→e'.g=true→ops[j]?=some o'→(⟨j,e'.a,o',e'.v⟩:Dn)∈dn:=by
     intro e j e' ps o' hj hc hg' ho'
     rcases P2 hj with ⟨_,hj⟩ | ⟨rfl,rfl⟩
     ·exact hdn j e' ps o' hj hc hg' ho'
     ·rw [← hi,hp] at hc; cases hc
    obtain ⟨z,hz,hHk,hhz,hk⟩:=h
    obtain ⟨hd,hk⟩:=Rc hk
    have pi':=pi.extend (e:=⟨a,H,.ptr (n0+k) 0,true,puta o.dst (.ptr (n0+k) 0) a,H⟩) (o:=o) (hi ▸ ho) ⟨hg,hd,rfl,by simp,fun _ hn=>absurd (hi ▸ hp) (hn k),fun _ _ _=>rfl,fun q h1=>by rw [← hi,hp] at h1; cases h1; exact ⟨rfl,rfl,z,hz,hHk⟩⟩ rfl rfl (by
     intro j ej hj
     refine ⟨fun ps' rc o' h1=>(by rw [← hi,hp] at h1; cases h1),fun ps' rc o' h1=>(by rw [← hi,hp] at h1; cases h1),?_⟩
     intro q rc' o' h1 h2 h3
     rw [← hi,hp] at h1; cases h1
     rw [← hi,ho] at h3; cases h3
     exact ⟨z,hz,hhz (j,ej.H) (hhs j ej rc' hj h2)⟩)
    obtain ⟨tb',a2,H2,r1,r2,r3⟩:=Eg l pls (i+1) hs dn _ _ _ hk (hlen _) hops' hpl' pi' (hhs' _) (hdn' _)
    exact ⟨tb',a2,H2,r1,r2,r3.trans hfin⟩
   ·exact h.elim
   ·exact h.elim
def NC (pl:List Pl) (c:Nat):Prop:=∃ q,pl[c]?=some q∧q.isChn=false
def Aat (tb:List Ent) (a:Asg) (m:Nat):Asg:=match tb[m]? with | some e=>e.a | none=>a
def Hat (tb:List Ent) (H:AH) (m:Nat):AH:=match tb[m]? with | some e=>e.H | none=>H
theorem PI.zeroA (pi:PI P N nw n0 ops pl a0 H0 tb a H):Aat tb a 0=a0∧Hat tb H 0=H0:=by
 unfold Aat Hat
 cases hq:tb[0]? with
 | some e=>exact pi.zero e hq
 | none =>
  have:tb=[]:=by cases tb with | nil=>rfl | cons=>simp at hq
  exact pi.nil this
theorem PI.succA (pi:PI P N nw n0 ops pl a0 H0 tb a H) {m:Nat} {e:Ent} (he:tb[m]?=some e):Aat tb a (m+1)=e.a'∧Hat tb H (m+1)=e.H':=by
 unfold Aat Hat
 cases hq:tb[m+1]? with
 | some e'=>exact pi.link m e e' he hq
 | none =>
  have h1:=(qI he).1
  have h2:=List.getElem?_eq_none_iff.1 hq
  exact pi.last m e he (by omega)
theorem PI.const (pi:PI P N nw n0 ops pl a0 H0 tb a H) {p:Nat}:∀ (d:Nat),p+d≤tb.length→(∀ c,p≤c→c<p+d→NC pl c)→Hat tb H (p+d)=Hat tb H p
 | 0,_,_=>rfl
 | d+1,hl,hc=>by
  rw [← pi.const d (by omega) fun c h1 h2=>hc c h1 (by omega)]
  have hlt:p+d<tb.length:=by omega
  have he:tb[p+d]?=some tb[p+d]:=qG hlt
  obtain ⟨o,_,g⟩:=pi.one _ _ he
  obtain ⟨ps,hps,hn⟩:=hc (p+d) (by omega) (by omega)
  rw [show p+(d+1)=p+d+1 by omega,(pi.succA he).2,g.val ps hps hn]
  simp [Hat,he]
theorem PI.text (pi:PI P N nw n0 ops pl a0 H0 tb a H) {x:Nat} {v:AV}:∀ m,m≤tb.length→get (Aat tb a m) x=some v →
  (∃ j o e,j<m∧ops[j]?=some o∧o.dst=some x∧tb[j]?=some e∧v=e.v)∨((∀ (j:Nat) o,j<m→ops[j]?=some o→o.dst≠some x)∧get a0 x=some v)
 | 0,_,h=>by
  rw [pi.zeroA.1] at h
  exact .inr ⟨fun j o hj=>by omega,h⟩
 | m+1,hl,h=>by
  have hlt:m<tb.length:=by omega
  have he:tb[m]?=some tb[m]:=qG hlt
  obtain ⟨o,ho,g⟩:=pi.one _ _ he
  have hA:Aat tb a m=tb[m].a:=by simp [Aat,he]
  rw [(pi.succA he).1,g.a'] at h
  have low:get tb[m].a x=some v→o.dst≠some x→(∃ j o e,j<m+1∧ops[j]?=some o∧o.dst=some x∧tb[j]?=some e∧v=e.v)∨((∀ (j:Nat) o,j<m+1→ops[j]?=some o→o.dst≠some x)∧get a0 x=some v):=fun h hne=>by
   rcases pi.text m (by omega) (hA ▸ h) with ⟨j,o',e,h1,h2⟩ | ⟨h1,h2⟩
   ·exact Or.inl ⟨j,o',e,by omega,h2⟩
   ·refine Or.inr ⟨?_,h2⟩
    intro j o' hj ho'
    rcases Nat.lt_or_ge j m with h | h
    ·exact h1 j o' h ho'
    ·have:j=m:=by omega
     subst this
     rw [ho] at ho'; cases ho'
     exact hne
  cases hd:o.dst with
  | none =>
   rw [hd] at h
   exact low h (by simp [hd])
  | some d =>
   rw [hd] at h
   simp only [puta,get_cons] at h
   split at h
   ·rename_i hxd
    subst hxd
    simp only [qS] at h
    exact .inl ⟨m,o,_,by omega,ho,hd,he,h.symm⟩
   ·rename_i hxd
    exact low h (by rw [hd]; intro hh; cases hh; exact hxd rfl)
end
end Go.Proofs.YtldndhdohlfpgaaGreat.V
/- A block that is made while the order of a region is drawn: it has its place in the abstract heap from the start. -/
namespace Go.Proofs.YtldndhdohlfpgaaGreat.V
open Go Go.RowKit
theorem VRel.step {w:World} {β β':Bm} {H H':AH} (off:∀ B,β.off B→β'.off B) (hd:∀ b,dead H b=some false→dead H' b=some false) (hin:∀ b,dead H b≠none→dead H' b≠none)
  (hk:∀ b p,β b=some p→dead H' b=some false∨∃ p',β' b=some p'∧p'.B=p.B∧p'.sz=p.sz∧p'.es=p.es) {v:AV} {cv:Value} (h:VRel w β (dead H) v cv):VRel w β' (dead H') v cv:=by
 induction h with
 | und=>exact .und
 | int=>exact .int
 | bool=>exact .bool
 | str=>exact .str
 | ptr hp =>
  rcases hk _ _ hp with h | ⟨p',h,e,_⟩
  ·exact .ptrd h rfl
  ·rw [← e]; exact .ptr h
 | ptrd h h1=>exact .ptrd (hd _ h) h1
 | el cvs hB hm hc _ ih=>exact .el cvs hB (off _ hm) hc ih
 | sl hp hn hm hc =>
  rcases hk _ _ hp with h | ⟨p',h,e,e2,e3⟩
  ·exact .sld h rfl
  ·rw [← e]; exact .sl h hn hm (by rw [e2,e3]; exact hc)
 | sl0 h=>exact .sl0 (hin _ h)
 | sld h h1=>exact .sld (hd _ h) h1
 | nils=>exact .nils
 | lst0=>exact .lst0
 | lst hl hn cvs hB hm hc _ ih=>exact .lst hl hn cvs hB (off _ hm) hc ih
 | pv _ ih=>exact .pv ih
 | pv0=>exact .pv0
 | fn hs _ ih=>exact .fn hs ih
 | agg hs _ h1 ih=>exact .agg hs ih h1
 | tup hs _ ih=>exact .tup hs ih
theorem CRel.step {w:World} {β β':Bm} {dd dd':Nat→Option Bool} (hv:∀ {v:AV} {cv:Value},VRel w β dd v cv→VRel w β' dd' v cv) {v:AV} {cv:Value} {fp:List Nat} (h:CRel w β dd v cv fp):CRel w β' dd' v cv fp:=by
 cases h with
 | own h hn=>exact .own h hn
 | shr h hn hf=>exact .shr (hv h) hn hf
theorem BRel.step {w:World} {β β':Bm} {dd dd':Nat→Option Bool} (hv:∀ {v:AV} {cv:Value},VRel w β dd v cv→VRel w β' dd' v cv) {k:ABlk} {p:Loc} (h:BRel w β dd k p):BRel w β' dd' k p:=by
 obtain ⟨h0,c,T,cvs,fps,h1,h2,h3,h4,h5⟩:=h
 exact ⟨h0,c,T,cvs,fps,h1,h2,h3,fun i v hi=>⟨(h4 i v hi).1,(h4 i v hi).2.1,(h4 i v hi).2.2.step hv⟩,h5⟩
section
variable {base nw g:Nat} {β:Bm} {H:AH} {w w':World}
theorem A4f {p:Loc} (hg:β g=none) {b:Nat} {q:Loc} (h:β b=some q):(β.add g p) b=some q:=by
 have:b≠g:=by intro e; subst e; rw [hg] at h; cases h
 simp [Bm.add,this,h]
theorem A57 {p:Loc} {B:Nat} (ho:β.off B) (hB:B<p.B) (hf:p.fp=[]):(β.add g p).off B:=by
 intro b q hq hk
 simp only [Bm.add] at hq
 split at hq
 ·simp only [qS] at hq; subst hq
  rw [hf] at hk; simp at hk; omega
 ·exact ho b q hq hk
theorem A0z {o:Obj} (h:Pushed w w' o) {B i:Nat} {cv:Value} (hc:w.cell? ⟨B,i,none⟩=some cv):w'.cell? ⟨B,i,none⟩=some cv:=by
 have hB:B<w.heap.size:=World.block_lt_of_cell? w ⟨B,i,none⟩ hc
 rw [World.cell?_of_block (w:=w) (w':=w') (a:=⟨B,i,none⟩) (h.old hB)]
 exact hc
theorem VRel.flt {p:Loc} {o:Obj} (h:Pushed w w' o) (hg:β g=none) (hp:p.B=w.heap.size) (hf:p.fp=[]) {dd:Nat→Option Bool} {v:AV} {cv:Value} (hv:VRel w β dd v cv):VRel w' (β.add g p) dd v cv:=by
 induction hv with
 | und=>exact .und
 | int=>exact .int
 | bool=>exact .bool
 | str=>exact .str
 | ptr hb=>exact .ptr (A4f hg hb)
 | ptrd hd h1=>exact .ptrd hd h1
 | el cvs hB hm hc _ ih=>exact .el cvs (by rw [h.size]; omega) (A57 hm (by omega) hf) (fun i v hi=>⟨A0z h (hc i v hi).1,(hc i v hi).2⟩) ih
 | sl hb hn hm hc=>exact .sl (A4f hg hb) hn hm hc
 | sl0 hi=>exact .sl0 hi
 | sld hd h1=>exact .sld hd h1
 | nils=>exact .nils
 | lst0=>exact .lst0
 | lst hl hn cvs hB hm hc _ ih=>exact .lst hl hn cvs (by rw [h.size]; omega) (A57 hm (by omega) hf) (fun i v hi=>⟨A0z h (hc i v hi).1,(hc i v hi).2⟩) ih
 | pv _ ih=>exact .pv ih
 | pv0=>exact .pv0
 | fn hs _ ih=>exact .fn hs ih
 | agg hs _ h1 ih=>exact .agg hs ih h1
 | tup hs _ ih=>exact .tup hs ih
theorem BRel.flt {p q:Loc} {o:Obj} {dd:Nat→Option Bool} {k:ABlk} (h:Pushed w w' o) (hg:β g=none) (hp:p.B=w.heap.size) (hf:p.fp=[]) (hh:∀ B∈q.B::q.fp,B<w.heap.size) (hb:BRel w β dd k q):BRel w' (β.add g p) dd k q:=by
 obtain ⟨hes,c,T,cvs,fps,h1,h2,h3,h4,h5⟩:=hb
 refine ⟨hes,c,T,cvs,fps,(h.old (hh q.B (by simp))).trans h1,h2,h3,?_,h5⟩
 intro i v hi
 obtain ⟨g1,g2,g3⟩:=h4 i v hi
 refine ⟨g1,g2,?_⟩
 cases g3 with
 | own g ho =>
  refine .own (g.ext fun B hB=>h.old (hh B ?_)) ho
  rw [h5]
  exact List.mem_cons_of_mem _ (List.mem_flatMap.2 ⟨i,List.mem_range.2 (qI hi).1,hB⟩)
 | shr q' hn hf'=>exact .shr (VRel.flt h hg hp hf q') hn hf'
theorem SRel.flt {z:List AV} {zc:Array Value} {T:TypeId} (s:SRel base β H w) (h:Pushed w w' (.cells zc T (0,0))) (hb:base≤w.heap.size) (hg:β g=none) (hk:H[g]?=some (some ⟨z,0⟩)) (hz:LRel w β (dead H) z zc.toList) (hn:∀ v∈z,∀ es' cells' n,v≠.lst true es' cells' n) :
  SRel base (β.add g ⟨w.heap.size,zc.size,0,[]⟩) H w':=by
 have cases':∀ b q,(β.add g ⟨w.heap.size,zc.size,0,[]⟩) b=some q→(b=g∧q=⟨w.heap.size,zc.size,0,[]⟩)∨(b≠g∧β b=some q):=by
  intro b q hq
  simp only [Bm.add] at hq
  split at hq
  ·rename_i hb; simp only [qS] at hq; exact .inl ⟨hb,hq.symm⟩
  ·rename_i hb; exact .inr ⟨hb,hq⟩
 refine ⟨?_,?_,?_,?_⟩
 ·intro b q hq
  rcases cases' b q hq with ⟨rfl,rfl⟩ | ⟨_,hq'⟩
  ·refine ⟨⟨z,0⟩,hk,rfl,zc,T,fun i=>zc.getD i undef,fun _=>[],h.new,rfl,by have:=hz.len; simp at this ⊢; omega,?_,by rw [Kx]⟩
   intro i v hi
   obtain ⟨cv,h1,h2,h3⟩:=hz.cell hi
   have ecv:zc.getD i undef=cv:=by simp [Array.getD_eq_getD_getElem?,h1]
   simp only [ecv]
   exact ⟨h1,h2,.shr (VRel.flt h hg rfl rfl h3) (hn v (qM hi)) rfl⟩
  ·obtain ⟨k,hk',hbr⟩:=s.blk b q hq'
   exact ⟨k,hk',hbr.flt h hg rfl rfl fun B hB=>(s.ge b q hq' B hB).2⟩
 ·intro b q hq
  rcases cases' b q hq with ⟨rfl,rfl⟩ | ⟨_,hq'⟩
  ·simp
  ·exact s.nodup b q hq'
 ·intro b q hq k hk
  rw [h.size]
  rcases cases' b q hq with ⟨rfl,rfl⟩ | ⟨_,hq'⟩
  ·simp at hk; subst hk; exact ⟨hb,by omega⟩
  ·have:=s.ge b q hq' k hk; exact ⟨this.1,by omega⟩
 ·intro b q b' q' hq hq' hne k hk hk'
  rcases cases' b q hq with ⟨rfl,rfl⟩ | ⟨_,hq1⟩ <;> rcases cases' b' q' hq' with ⟨rfl,rfl⟩ | ⟨_,hq2⟩
  ·exact hne rfl
  ·simp at hk; subst hk
   have:=(s.ge b' q' hq2 _ hk').2
   omega
  ·simp at hk'; subst hk'
   have:=(s.ge b q hq1 _ hk).2
   omega
  ·exact s.disj b q b' q' hq1 hq2 hne k hk hk'
theorem Ext.flt {β0:Bm} {H0:AH} {w0:World} {o:Obj} {p:Loc} (_:SRel base β0 H0 w0) (e:Ext nw β0 H0 w0 β H w) (h:Pushed w w' o) (hg:β g=none) (hl:H0.length≤g) (hp:p.B=w.heap.size) (hf:p.fp=[]):Ext nw β0 H0 w0 (β.add g p) H w' where
 len:=e.len
 keep:=by
  intro b q hq k hk
  obtain ⟨p',h1,h2⟩:=e.keep b q hq k hk
  exact ⟨p',A4f hg h1,h2⟩
 old:=by
  intro b p' hb hp'
  simp only [Bm.add] at hp'
  rw [if_neg (by omega)] at hp'
  exact e.old b p' hb hp'
 dead:=e.dead
 own:=by
  intro b q hq k hk
  simp only [Bm.add] at hq
  split at hq
  ·simp only [qS] at hq; subst hq
   rw [hf] at hk; simp at hk; subst hk
   rw [hp]
   exact .inl e.wsz
  ·exact e.own b q hq k hk
 wsz:=by have:=e.wsz; rw [h.size]; omega
 os:=h.os.trans e.os
 tape:=h.tape.trans e.tape
 output:=h.output.trans e.output
 frame:=by
  intro k hk hfr
  exact (h.old (Nat.lt_of_lt_of_le hk e.wsz)).trans (e.frame k hk hfr)
end
theorem SRel.pad {base:Nat} {β:Bm} {H:AH} {w:World} (s:SRel base β H w) (F:List ABlk):SRel base β (H++F.map some) w∧∀ {v:AV} {cv:Value},VRel w β (dead H) v cv→VRel w β (dead (H++F.map some)) v cv:=by
 have hv:∀ {v:AV} {cv:Value},VRel w β (dead H) v cv→VRel w β (dead (H++F.map some)) v cv:=by
  intro v cv h
  refine h.step (fun _ h=>h) ?_ ?_ (fun b p hp=>.inr ⟨p,hp,rfl,rfl,rfl⟩)
  ·intro b hb
   have h1:=G3.1 hb
   refine G3.2 ?_
   rw [List.getElem?_append_left (qI h1).1]; exact h1
  ·intro b hb
   have h1:=X8.1 hb
   refine X8.2 ?_
   simp; omega
 refine ⟨⟨?_,s.nodup,s.ge,s.disj⟩,hv⟩
 intro b p hp
 obtain ⟨k1,hk1,hbr⟩:=s.blk b p hp
 exact ⟨k1,by rw [List.getElem?_append_left (s.lt hp)]; exact hk1,hbr.step hv⟩
theorem Ext.pad {nw base:Nat} {β:Bm} {H:AH} {w:World} (_:SRel base β H w) (F:List ABlk):Ext nw β H w β (H++F.map some) w where
 len:=by simp
 keep:=fun b p hp k _=>⟨p,hp,rfl,rfl,rfl⟩
 old:=fun b p' _ hp'=>⟨p',hp',rfl⟩
 dead:=by
  intro b hb
  rw [List.getElem?_append_left (qI hb).1]; exact hb
 own:=fun b p hp k hk=>.inr ⟨b,p,hp,hk,.inl rfl⟩
 wsz:=Nat.le_refl _
 os:=rfl
 tape:=rfl
 output:=rfl
 frame:=fun _ _ _=>rfl
end Go.Proofs.YtldndhdohlfpgaaGreat.V
/- Regions that draw their order: every order does what the text order says. -/
namespace Go.Proofs.YtldndhdohlfpgaaGreat.V
open Go Go.RowKit
def rstr (xs:List Nat) (a:Asg):Asg:=xs.filterMap fun x=>(get a x).map fun v=>(x,v)
theorem Tj:∀ (xs:List Nat) (a:Asg) (x:Nat),get (rstr xs a) x=if x∈xs then get a x else none
 | [],a,x=>by simp [rstr,get]
 | y::xs,a,x=>by
  have ih:=Tj xs a x
  unfold rstr at ih ⊢
  rw [List.filterMap_cons]
  cases hy:get a y with
  | none =>
   simp only [Option.map_none]
   rw [ih]
   by_cases hx:x∈xs
   ·simp [hx]
   ·by_cases e:x=y
    ·subst e; simp [hx,hy]
    ·simp [hx,e]
  | some v =>
   simp only [Option.map_some,get]
   by_cases e:x=y
   ·subst e; simp [hy]
   ·rw [if_neg e,ih]
    simp [e]
theorem A6m {o:Oper} {ops:Array Oper} {x:Operand} (hx:x∈o.op.operands) {a:Asg}:aev (rstr (o.looksAt ops) a) x=aev a x:=by
 cases x with
 | tmp t =>
  simp only [aev,Tj]
  rw [if_pos]
  unfold Oper.looksAt
  rw [List.mem_append]
  left
  rw [List.mem_filterMap]
  exact ⟨.tmp t,by simpa using hx,rfl⟩
 | const v=>rfl
 | func f=>rfl
 | global g=>rfl
theorem A7w {o:Oper} {ops:Array Oper} {a:Asg}:gd ops o (rstr (o.looksAt ops) a)=gd ops o a:=by
 unfold gd
 cases hg:o.guard with
 | none=>rfl
 | some p =>
  obtain ⟨j,want⟩:=p
  simp only
  cases hd:(ops[j]?).bind (·.dst) with
  | none=>rfl
  | some d =>
   simp only
   rw [Tj,if_pos]
   unfold Oper.looksAt
   rw [hg,List.mem_append]
   right
   simp [hd]
theorem Uh (pl:List Pl) (q:Nat):∀ d,q+d≤pl.length→(∀ c,q≤c→c<q+d→NC pl c)∨∃ c rc,q≤c∧c<q+d∧pl[c]?=some (.chn rc)∧∀ c',q≤c'→c'<c→NC pl c'
 | 0,_=>.inl (by intro c h1 h2; omega)
 | d+1,hl=>by
  rcases Uh pl q d (by omega) with h | ⟨c,rc,h1,h2,h3,h4⟩
  ·have hlt:q+d<pl.length:=by omega
   have he:pl[q+d]?=some pl[q+d]:=qG hlt
   have more:NC pl (q+d)→(∀ c,q≤c→c<q+(d+1)→NC pl c):=by
    intro hn c h1 h2
    rcases Nat.lt_or_ge c (q+d) with h' | h'
    ·exact h c h1 h'
    ·have:c=q+d:=by omega
     subst this; exact hn
   cases hp:pl[q+d] with
   | chn rc=>exact .inr ⟨q+d,rc,by omega,by omega,by rw [he,hp],fun c' h1 h2=>h c' h1 h2⟩
   | val ps=>exact .inl (more ⟨_,by rw [he,hp],rfl⟩)
   | flt k=>exact .inl (more ⟨_,by rw [he,hp],rfl⟩)
  ·exact .inr ⟨c,rc,h1,by omega,h3,h4⟩
theorem Zi (pl:List Pl) (q:Nat):∀ d,q+d≤pl.length→(∀ c,q≤c→c<q+d→NC pl c)∨∃ c rc,q≤c∧c<q+d∧pl[c]?=some (.chn rc)∧∀ c',c<c'→c'<q+d→NC pl c'
 | 0,_=>.inl (by intro c h1 h2; omega)
 | d+1,hl=>by
  have hlt:q+d<pl.length:=by omega
  have he:pl[q+d]?=some pl[q+d]:=qG hlt
  have more:NC pl (q+d)→((∀ c,q≤c→c<q+(d+1)→NC pl c)∨∃ c rc,q≤c∧c<q+(d+1)∧pl[c]?=some (.chn rc)∧∀ c',c<c'→c'<q+(d+1)→NC pl c'):=by
   intro hv
   rcases Zi pl q d (by omega) with h | ⟨c,rc,h1,h2,h3,h4⟩
   ·refine .inl fun c h1 h2=>?_
    rcases Nat.lt_or_ge c (q+d) with h' | h'
    ·exact h c h1 h'
    ·have:c=q+d:=by omega
     subst this; exact hv
   ·refine .inr ⟨c,rc,h1,by omega,h3,fun c' h5 h6=>?_⟩
    rcases Nat.lt_or_ge c' (q+d) with h' | h'
    ·exact h4 c' h5 h'
    ·have:c'=q+d:=by omega
     subst this; exact hv
  cases hp:pl[q+d] with
  | chn rc=>exact .inr ⟨q+d,rc,by omega,by omega,by rw [he,hp],fun c' h1 h2=>by omega⟩
  | val ps=>exact more ⟨_,by rw [he,hp],rfl⟩
  | flt k=>exact more ⟨_,by rw [he,hp],rfl⟩
section
variable {P:Program} {N nw n0:Nat} {ops:Array Oper} {pl:List Pl} {a0 a:Asg} {H0 H:AH} {tb:List Ent}
theorem PI.fltH (pi:PI P N nw n0 ops pl a0 H0 tb a H) (ok:DrawOk ops pl) (hlen:tb.length=ops.size) {S:Nat→Prop} (hS:∀ (i:Nat) o,ops[i]?=some o→S i→∀ e∈o.after,Region.binds .any e=true→S e.on)
  {p:Nat} (hp:p≤ops.size) (hch:∀ (c:Nat) rc,pl[c]?=some (.chn rc)→(S c↔c<p)) {i q:Nat} (hq:pl[i]?=some (.flt q)) (hnot:¬ S i) :
  ∃ o z,ops[i]?=some o∧afl P o=some z∧(Hat tb H p)[n0+q]?=some (some ⟨z,0⟩):=by
 have hpl:=ok.len
 have hi:i<ops.size:=by have:=(qI hq).1; omega
 have he:tb[i]?=some (tb[i]'(by omega)):=qG (by omega)
 generalize tb[i]'(by omega)=e at he
 obtain ⟨o,ho,g1⟩:=pi.one i e he
 obtain ⟨_,_,z,hz,hH⟩:=g1.flt q hq
 have hHi:Hat tb H i=e.H:=by simp [Hat,he]
 have own:Hat tb H p=Hat tb H i→∃ o z,ops[i]?=some o∧afl P o=some z∧(Hat tb H p)[n0+q]?=some (some ⟨z,0⟩):=by
  intro h
  rw [h,hHi]
  exact ⟨o,z,ho,hz,hH⟩
 rcases Nat.lt_or_ge i p with hip | hip
 ·rcases Zi pl i (p - i) (by omega) with h | ⟨c,rc,h1,h2,h3,h4⟩
  ·have:=pi.const (p:=i) (p - i) (by omega) h
   rw [show i+(p - i)=p by omega] at this
   exact own this
  ·have hci:i<c:=by
    rcases Nat.lt_or_ge i c with h | h
    ·exact h
    ·have:i=c:=by omega
     subst this
     rw [hq] at h3; cases h3
   have hcs:S c:=(hch c rc h3).2 (by omega)
   exact absurd ((ok.fc c i rc q hci h3 hq).mem hS hcs) hnot
 ·rcases Uh pl p (i - p) (by omega) with h | ⟨c,rc,h1,h2,h3,h4⟩
  ·have:=pi.const (p:=p) (i - p) (by omega) h
   rw [show p+(i - p)=i by omega] at this
   exact own this.symm
  ·have hci:c<i:=by omega
   have hcl:c<tb.length:=by omega
   have hce:tb[c]?=some tb[c]:=qG hcl
   have hH':Hat tb H p=tb[c].H:=by
    have:=pi.const (p:=p) (c - p) (by omega) fun c' h5 h6=>h4 c' (by omega) (by omega)
    rw [show p+(c - p)=c by omega] at this
    rw [← this]
    simp [Hat,hce]
   rw [hH']
   obtain ⟨z',h5,h6⟩:=(pi.two c i _ e hci hce he).fl q rc o hq h3 ho
   exact ⟨o,z',ho,h5,h6⟩
theorem PI.move (pi:PI P N nw n0 ops pl a0 H0 tb a H) (ok:DrawOk ops pl) (hlen:tb.length=ops.size) {S:Nat→Prop} (hS:∀ (i:Nat) o,ops[i]?=some o→S i→∀ e∈o.after,Region.binds .any e=true→S e.on)
  {p:Nat} (hp:p≤ops.size) (hch:∀ (c:Nat) rc,pl[c]?=some (.chn rc)→(S c↔c<p)) {i:Nat} {o:Oper} {e:Ent} (ho:ops[i]?=some o) (he:tb[i]?=some e) (hnot:¬ S i)
  (hpre:∀ e∈o.after,Region.binds .any e=true→S e.on) :
  ∃ p',p'≤ops.size∧(∀ (c:Nat) rc,pl[c]?=some (.chn rc)→(S c∨c=i↔c<p'))∧(e.g=true→(∀ q,pl[i]?≠some (.flt q))→awpExec P nw o e.a (Hat tb H p) fun v H'=>v=e.v∧H'=Hat tb H p')∧((e.g=false∨∃ q,pl[i]?=some (.flt q))→Hat tb H p'=Hat tb H p):=by
 have hi:i<ops.size:=(Array.getElem?_eq_some_iff.1 ho).1
 obtain ⟨o',ho',g1⟩:=pi.one i e he
 rw [ho] at ho'; cases ho'
 have hHi:Hat tb H i=e.H:=by simp [Hat,he]
 have hpl:=ok.len
 have hpli:pl[i]?=some (pl[i]'(by omega)):=qG (by omega)
 cases hk:pl[i]'(by omega) with
 | chn rc =>
  rw [hk] at hpli
  have hip:p≤i:=by
   rcases Nat.lt_or_ge i p with h | h
   ·exact absurd ((hch i rc hpli).2 h) hnot
   ·exact h
  have hcon:Hat tb H i=Hat tb H p:=by
   have:=pi.const (p:=p) (i - p) (by omega) (by
    intro c h1 h2
    have hcl:c<pl.length:=by omega
    have hce:pl[c]?=some pl[c]:=qG hcl
    cases hq:pl[c] with
    | val ps=>exact ⟨_,by rw [hce,hq],rfl⟩
    | flt k=>exact ⟨_,by rw [hce,hq],rfl⟩
    | chn rc' =>
     rw [hq] at hce
     have hb:=ok.cc i c rc rc' (by omega) hpli hce
     have:=(hch c rc' hce).1 (hb.mem' hS ho hpre)
     omega)
   rwa [show p+(i - p)=i by omega] at this
  refine ⟨i+1,by omega,?_,?_,?_⟩
  ·intro c rc' hc
   constructor
   ·rintro (h | rfl)
    ·rcases Nat.lt_trichotomy c i with h' | h' | h'
     ·omega
     ·omega
     ·exact absurd ((ok.cc c i rc' rc h' hc hpli).mem hS h) hnot
    ·omega
   ·intro h
    rcases Nat.lt_or_ge c i with h' | h'
    ·exact .inl ((ok.cc i c rc rc' h' hpli hc).mem' hS ho hpre)
    ·exact .inr (by omega)
  ·intro hg hn
   rw [← hcon,hHi,(pi.succA he).2]
   exact g1.on hg hn
  ·rintro (hg | ⟨q,hq⟩)
   ·rw [← hcon,hHi,(pi.succA he).2]
    exact (g1.off hg).2
   ·rw [hpli] at hq; cases hq
 | flt q =>
  rw [hk] at hpli
  refine ⟨p,hp,?_,fun _ hn=>absurd hpli (hn q),fun _=>rfl⟩
  intro c rc hc
  rw [← hch c rc hc]
  constructor
  ·rintro (h | rfl)
   ·exact h
   ·rw [hpli] at hc; cases hc
  ·exact .inl
 | val ps =>
  rw [hk] at hpli
  refine ⟨p,hp,?_,?_,fun _=>rfl⟩
  ·intro c rc hc
   rw [← hch c rc hc]
   constructor
   ·rintro (h | rfl)
    ·exact h
    ·rw [hpli] at hc; cases hc
   ·exact .inl
  ·intro hg hn
   have own:Hat tb H p=Hat tb H i→awpExec P nw o e.a (Hat tb H p) fun v H'=>v=e.v∧H'=Hat tb H p:=by
    intro h
    rw [h,hHi]
    have:=g1.on hg hn
    rwa [g1.val _ hpli rfl] at this
   rcases Nat.lt_or_ge i p with hip | hip
   ·rcases Zi pl i (p - i) (by omega) with h | ⟨c,rc,h1,h2,h3,h4⟩
    ·have:=pi.const (p:=i) (p - i) (by omega) h
     rw [show i+(p - i)=p by omega] at this
     exact own this
    ·have hci:i<c:=by
      rcases Nat.lt_or_ge i c with h | h
      ·exact h
      ·have:i=c:=by omega
       subst this
       rw [hpli] at h3; cases h3
     have hcs:S c:=(hch c rc h3).2 (by omega)
     have hcl:c<tb.length:=by omega
     have hce:tb[c]?=some tb[c]:=qG hcl
     have hH:Hat tb H p=tb[c].H':=by
      have:=pi.const (p:=c+1) (p - (c+1)) (by omega) fun c' h5 h6=>h4 c' (by omega) (by omega)
      rw [show c+1+(p - (c+1))=p by omega] at this
      rw [this,(pi.succA hce).2]
     rcases ok.cv c i rc ps hci h3 hpli with hb | hm
     ·exact absurd (hb.mem hS hcs) hnot
     ·rw [hH]
      exact (pi.two i c e _ hci he hce).cv ps rc o h3 hpli ho hg hm
   ·rcases Uh pl p (i - p) (by omega) with h | ⟨c,rc,h1,h2,h3,h4⟩
    ·have:=pi.const (p:=p) (i - p) (by omega) h
     rw [show p+(i - p)=i by omega] at this
     exact own this.symm
    ·have hci:c<i:=by omega
     have hcs:¬ S c:=fun h=>by have:=(hch c rc h3).1 h; omega
     have hcl:c<tb.length:=by omega
     have hce:tb[c]?=some tb[c]:=qG hcl
     have hH:Hat tb H p=tb[c].H:=by
      have:=pi.const (p:=p) (c - p) (by omega) fun c' h5 h6=>h4 c' (by omega) (by omega)
      rw [show p+(c - p)=c by omega] at this
      rw [← this]
      simp [Hat,hce]
     rcases ok.vc i c ps rc hci hpli h3 with hb | hm
     ·exact absurd (hb.mem' hS ho hpre) hcs
     ·rw [hH]
      exact (pi.two c i _ e hci hce he).vc ps rc o hpli h3 ho hg hm
def Expect (ops:Array Oper) (tb:List Ent) (a0:Asg) (S:Nat→Prop) (x:Nat) (v:AV):Prop :=
 (∃ j o e,S j∧ops[j]?=some o∧o.dst=some x∧tb[j]?=some e∧v=e.v)∨((∀ (j:Nat) o,S j→ops[j]?=some o→o.dst≠some x)∧get a0 x=some v)
theorem PI.expect (pi:PI P N nw n0 ops pl a0 H0 tb a H) (ok:DrawOk ops pl) {S:Nat→Prop} (hS:∀ (i:Nat) o,ops[i]?=some o→S i→∀ e∈o.after,Region.binds .any e=true→S e.on)
  {i:Nat} {o:Oper} {e:Ent} (ho:ops[i]?=some o) (he:tb[i]?=some e) (hnot:¬ S i) (hpre:∀ e∈o.after,Region.binds .any e=true→S e.on) {x:Nat} {v:AV} (hx:x∈o.looksAt ops) (h:get e.a x=some v) :
  Expect ops tb a0 S x v:=by
 have hA:Aat tb a i=e.a:=by simp [Aat,he]
 have bf_lt:∀ {j k:Nat},Bf ops j k→j<k:=by
  intro j k hb
  induction hb with
  | edge ho he hb=>exact ok.edge _ _ ho _ he hb
  | trans ho he hb _ ih=>exact Nat.lt_trans ih (ok.edge _ _ ho _ he hb)
 rcases pi.text i (Nat.le_of_lt (qI he).1) (hA ▸ h) with ⟨j,o',e',h1,h2,h3,h4,h5⟩ | ⟨h1,h2⟩
 ·rcases ok.look i j o o' x ho h2 h3 hx with h | h | h
  ·omega
  ·exact .inl ⟨j,o',e',h.mem' hS ho hpre,h2,h3,h4,h5⟩
  ·have:=bf_lt h; omega
 ·refine .inr ⟨fun j o' hj ho' hd=>?_,h2⟩
  rcases ok.look i j o o' x ho ho' hd hx with h | h | h
  ·exact hnot (h ▸ hj)
  ·exact h1 j o' (bf_lt h) ho' hd
  ·exact hnot (h.mem hS hj)
theorem A90 {o:Oper} {z:List AV} (h:afl P o=some z):∃ (T:TypeId) (zc:Array Value),(∀ (w:World) (β:Bm) (dd:Nat→Option Bool),LRel w β dd z zc.toList)∧(∀ (w:World) (ev:Operand→Value),(execOp ev o).run P w=.ok (.value (.pointer (some ⟨w.heap.size,0,none⟩))) (w.alloc (.cells zc T (0,0))))∧∀ v∈z,∀ es cells n,v≠.lst true es cells n:=by
 obtain ⟨dst,op,type,pos,after,guard⟩:=o
 unfold afl at h
 simp only at h
 split at h
 ·rename_i T
  obtain ⟨it,zv,hit,hzv,_⟩:=Ce (w:=⟨#[],default,default,default,default⟩) (β:=fun _=>none) (dd:=fun _=>none) h
  refine ⟨T,zv.cells,fun w β dd=>?_,fun w ev=>?_,Zg h⟩
  ·obtain ⟨it',zv',hit',hzv',hr⟩:=Ce (w:=w) (β:=β) (dd:=dd) h
   rw [hit] at hit'; cases hit'
   rw [hzv] at hzv'; cases hzv'
   exact hr
  ·simp [execOp,Instr.alloc,zeroValue,typeInfo,hit,hzv,newVar,newRow]
 ·cases h
theorem SemReg.of_drawF {id:Nat} {K:Asg→AH→Prop} (F:List ABlk) (pl:List Pl) (hm:P.follows .mixedOrders=true) (hok:drawOk ops pl=true) (h:awpDraw P N nw H.length ops K 0 ops.toList pl [] [] a (H++F.map some)):SemReg P N nw (.region id ops true) K a H:=by
 intro base β w ca s t hb
 have ok:=A3m hok
 obtain ⟨tb,af,Hf,pi,hK,hlen⟩:=Eg (a0:=a) (H0:=H++F.map some) (pl:=pl) ops.toList pl 0 [] [] a (H++F.map some) [] h rfl (by intro k o hk; simpa using hk) (by intro k; simp)
  ⟨by simp,by simp,by simp,by simp,fun _=>⟨rfl,rfl⟩,by simp⟩ (by simp) (by simp)
 have hlen:tb.length=ops.size:=by simpa using hlen
 refine wp_region_any hm ?_
 let Inv:(Nat→Prop)→Act→World→Prop:=fun S ca' w'=>(∀ (i:Nat) o,ops[i]?=some o→S i→∀ e∈o.after,Region.binds .any e=true→S e.on) ∧
  ∃ p β',p≤ops.size∧(∀ (c:Nat) rc,pl[c]?=some (.chn rc)→(S c↔c<p))∧SRel base β' (Hat tb Hf p) w'∧Ext nw β H w β' (Hat tb Hf p) w'∧base≤w'.heap.size∧ca'.defers=[]∧ca'.tmps.size=N ∧
   (∀ (j q:Nat),pl[j]?=some (.flt q)→¬ S j→β' (H.length+q)=none) ∧
   ∀ x v,Expect ops tb a S x v→x<N∧VRel w' β' (dead (Hat tb Hf p)) v (ca'.tmps.getD x undef)
 refine A1s Inv ok.edge ?_ ?_ ?_ ops.size _ ca _ (by simp) ?_ ?_
 ·-- one step
  rintro S ca1 w1 i o ho hnot hpre ⟨hS,p,β1,hp,hch,s1,e1,b1,hd1,hz1,hf1,hx1⟩
  have hi:i<ops.size:=(Array.getElem?_eq_some_iff.1 ho).1
  have he:tb[i]?=some (tb[i]'(by omega)):=qG (by omega)
  generalize tb[i]'(by omega)=e at he
  obtain ⟨o',ho',g1⟩:=pi.one i e he
  rw [ho] at ho'; cases ho'
  have t1:TRel N w1 β1 (dead (Hat tb Hf p)) (rstr (o.looksAt ops) e.a) ca1:=by
   refine ⟨hd1,hz1,fun x v hx=>?_⟩
   rw [Tj] at hx
   split at hx
   ·rename_i hm
    exact hx1 x v (pi.expect ok hS ho he hnot hpre hm hx)
   ·cases hx
  obtain ⟨p',hp',hch',hon,hoff⟩:=pi.move ok hlen hS hp hch ho he hnot hpre
  have hw:=A2a (A7w.trans g1.gd) t1
  have hS':∀ (i':Nat) o',ops[i']?=some o'→(S i'∨i'=i)→∀ e∈o'.after,Region.binds .any e=true→(S e.on∨e.on=i):=by
   rintro i' o' ho' (h | rfl) e' he' hb'
   ·exact .inl (hS i' o' ho' h e' he' hb')
   ·rw [ho] at ho'; cases ho'
    exact .inl (hpre e' he' hb')
  have done:∀ (β2:Bm) (w2:World) (cv:Value),SRel base β2 (Hat tb Hf p') w2→VRel w2 β2 (dead (Hat tb Hf p')) e.v cv→Ext nw β H w β2 (Hat tb Hf p') w2→(∀ {v:AV} {cv:Value},VRel w1 β1 (dead (Hat tb Hf p)) v cv→VRel w2 β2 (dead (Hat tb Hf p')) v cv)→base≤w2.heap.size→(∀ (j q:Nat),pl[j]?=some (.flt q)→¬ (S j∨j=i)→β2 (H.length+q)=none)→Inv (fun k=>S k∨k=i) (ca1.put o.dst cv) w2:=by
   intro β2 w2 cv s2 hv e2 tv b2 f2
   refine ⟨hS',p',β2,hp',hch',s2,e2,b2,?_,?_,f2,?_⟩
   ·cases o.dst <;> exact hd1
   ·cases o.dst with
    | none=>exact hz1
    | some d=>simp [Act.put,hz1]
   ·intro x v hx
    have other:Expect ops tb a S x v→o.dst≠some x→x<N∧VRel w2 β2 (dead (Hat tb Hf p')) v ((ca1.put o.dst cv).tmps.getD x undef):=by
     intro hx hne
     obtain ⟨g1',g2'⟩:=hx1 x v hx
     have tt:TRel N w2 β2 (dead (Hat tb Hf p')) [(x,v)] ca1:=⟨hd1,hz1,fun y u hy=>by
      simp only [get] at hy
      split at hy
      ·rename_i e; subst e; simp only [qS] at hy; subst hy; exact ⟨g1',tv g2'⟩
      ·cases hy⟩
     cases hd:o.dst with
     | none=>exact tt.get x v (by simp [get])
     | some d =>
      refine (tt.put (g1.d d hd) hv).get x v ?_
      have:x≠d:=fun e=>hne (by rw [hd,e])
      simp [get,this]
    rcases hx with ⟨j,o',e',hj,ho',hd',he',rfl⟩ | ⟨h1,h2⟩
    ·by_cases hji:j=i
     ·subst hji
      rw [ho] at ho'; cases ho'
      rw [he] at he'; cases he'
      have tt:TRel N w2 β2 (dead (Hat tb Hf p')) [] ca1:=⟨hd1,hz1,fun y u hy=>by simp [get] at hy⟩
      rw [hd']
      exact (tt.put (g1.d x hd') hv).get x _ (by simp [get])
     ·refine other (.inl ⟨j,o',e',?_,ho',hd',he',rfl⟩) ?_
      ·rcases hj with h | h
       ·exact h
       ·exact absurd h hji
      ·intro h
       exact hji (ok.dst j i o' o x ho' ho hd' h)
    ·refine other (.inr ⟨fun j o' hj=>h1 j o' (.inl hj),h2⟩) (h1 i o (.inr rfl) ho)
  have old:∀ {β2:Bm} {w2:World},Ext nw β1 (Hat tb Hf p) w1 β2 (Hat tb Hf p') w2→∀ (j q:Nat),pl[j]?=some (.flt q)→¬ (S j∨j=i)→β2 (H.length+q)=none:=by
   intro β2 w2 e2 j q hj hn
   obtain ⟨_,z,_,_,hz⟩:=pi.fltH ok hlen hS hp hch hj (fun h=>hn (.inl h))
   cases hq:β2 (H.length+q) with
   | none=>rfl
   | some p2 =>
    obtain ⟨p1,h1,_⟩:=e2.old _ p2 (qI hz).1 hq
    rw [hf1 j q hj (fun h=>hn (.inl h))] at h1; cases h1
  unfold wpOp
  rw [ho]
  simp only
  by_cases hfl:∃ q,pl[i]?=some (.flt q)
  ·obtain ⟨q,hq⟩:=hfl
   obtain ⟨hg,hv,_⟩:=g1.flt q hq
   obtain ⟨o2,z,ho2,hz,hH⟩:=pi.fltH ok hlen hS hp hch hq hnot
   rw [ho] at ho2; cases ho2
   obtain ⟨T,zc,hzr,hrun,hzn⟩:=A90 hz
   have hHp:Hat tb Hf p'=Hat tb Hf p:=hoff (.inr ⟨q,hq⟩)
   have hgn:=hf1 i q hq hnot
   rw [if_pos (hw.trans hg)]
   left
   unfold Oper.wp
   rw [hrun w1]
   have pu:=Pushed.alloc w1 (.cells zc T (0,0))
   refine done (β1.add (H.length+q) ⟨w1.heap.size,zc.size,0,[]⟩) _ _ ?_ ?_ ?_ ?_ ?_ ?_
   ·rw [hHp]; exact s1.flt pu b1 hgn hH (hzr _ _ _) hzn
   ·rw [hv]; exact VRel.ptr (p:=⟨w1.heap.size,zc.size,0,[]⟩) (by simp [Bm.add])
   ·rw [hHp]; exact e1.flt s pu hgn (Nat.le_add_right _ _) rfl rfl
   ·intro v cv h; rw [hHp]; exact VRel.flt pu hgn rfl rfl h
   ·rw [pu.size]; omega
   ·intro j q' hj hn
    have hne:q'≠q:=by intro e; subst e; exact hn (.inr (ok.ff j i q' hj hq))
    simp only [Bm.add]
    rw [if_neg (by omega)]
    exact hf1 j q' hj fun h=>hn (.inl h)
  have hnf:∀ q,pl[i]?≠some (.flt q):=fun q hq=>hfl ⟨q,hq⟩
  cases hg:e.g with
  | true =>
   rw [if_pos (hw.trans hg)]
   left
   refine Oper.wp_mono ?_ (Pc (Q:=fun x ca' w'=>x=.normal∧∃ a' H' β',K a' H'∧SRel base β' H' w'∧TRel N w' β' (dead H') a' ca'∧Ext nw β H w β' H' w') s1 b1 (fun x v hx=>t1.aev hx) (A04 (fun x hx=>(A6m hx).symm) (hon hg hnf)))
   rintro ca2 w2 ⟨v,H2,β2,cv,rfl,⟨rfl,rfl⟩,s2,hv,e2⟩
   exact done β2 w2 cv s2 hv (Ext.trans s e1 e2) (fun h=>h.ext s1 e2) (Nat.le_trans b1 e2.wsz) (old e2)
  | false =>
   rw [if_neg (by rw [hw,hg]; simp)]
   have er:Ext nw β1 (Hat tb Hf p) w1 β1 (Hat tb Hf p') w1:=by rw [hoff (.inl hg)]; exact Ext.refl nw β1 _ w1 fun b p hp=>s1.lt hp
   refine done β1 w1 undef ?_ ?_ (Ext.trans s e1 er) (fun h=>h.ext s1 er) b1 (old er)
   ·rw [hoff (.inl hg)]; exact s1
   ·rw [(g1.off hg).1]; exact .skipped
 ·-- all done
  rintro S ca1 w1 hall ⟨hS,p,β1,hp,hch,s1,e1,b1,hd1,hz1,hf1,hx1⟩
  have hH:Hat tb Hf p=Hf:=by
   have:=pi.const (p:=p) (ops.size - p) (by omega) (by
    intro c h1 h2
    have hcl:c<pl.length:=by rw [ok.len]; omega
    have hce:pl[c]?=some pl[c]:=qG hcl
    cases hq:pl[c] with
    | val ps=>exact ⟨_,by rw [hce,hq],rfl⟩
    | flt k=>exact ⟨_,by rw [hce,hq],rfl⟩
    | chn rc' =>
     rw [hq] at hce
     have:=(hch c rc' hce).1 (hall c (by omega))
     omega)
   rw [show p+(ops.size - p)=ops.size by omega] at this
   rw [← this]
   simp [Hat,List.getElem?_eq_none (show tb.length≤ops.size by omega)]
  rw [hH] at s1 e1 hx1
  refine ⟨rfl,af,Hf,β1,hK,s1,⟨hd1,hz1,fun x v hx=>hx1 x v ?_⟩,e1⟩
  have hA:Aat tb af ops.size=af:=by simp [Aat,List.getElem?_eq_none (show tb.length≤ops.size by omega)]
  rcases pi.text ops.size (by omega) (hA.symm ▸ hx) with ⟨j,o,e,h1,h2⟩ | ⟨h1,h2⟩
  ·exact .inl ⟨j,o,e,hall j h1,h2⟩
  ·exact .inr ⟨fun j o _ ho=>h1 j o (Array.getElem?_eq_some_iff.1 ho).1 ho,h2⟩
 ·-- the same set
  rintro S S' ca1 w1 hSS ⟨hS,p,β1,hp,hch,s1,e1,b1,hd1,hz1,hf1,hx1⟩
  have:S=S':=funext fun i=>propext (hSS i)
  subst this
  exact ⟨hS,p,β1,hp,hch,s1,e1,b1,hd1,hz1,hf1,hx1⟩
 ·-- as many as there are
  have:∀ i∈List.range ops.size,(fun i=>!(Array.replicate ops.size false).getD i true) i=true:=by
   intro i hi
   have:=List.mem_range.1 hi
   simp [Array.getD_eq_getD_getElem?,this]
  rw [List.countP_eq_length.2 this,List.length_range]
 ·-- before the first
  have hempty:∀ i,¬ Inset (Array.replicate ops.size false) i:=by
   intro i hi
   unfold Inset at hi
   rw [Array.getElem?_replicate] at hi
   split at hi <;> simp at hi
  have hH:Hat tb Hf 0=H++F.map some:=pi.zeroA.2
  have bel:Below w.heap.size w { w with drawn:=w.drawn+1 }:=⟨rfl,rfl,rfl,Nat.le_refl _,fun _ _=>rfl⟩
  have sp:=(s.pad F).1
  have e0:=Jo (nw:=nw) sp bel
  have e1:=Ext.trans s (Ext.pad (nw:=nw) s F) e0
  refine ⟨fun i o _ hi=>absurd hi (hempty i),0,β,Nat.zero_le _,fun c rc _=>⟨fun h=>absurd h (hempty c),fun h=>by omega⟩,?_,?_,hb,t.defers,t.size,?_,?_⟩
  ·rw [hH]; exact sp.below bel
  ·rw [hH]; exact e1
  ·intro j q _ _
   cases hq:β (H.length+q) with
   | none=>rfl
   | some p=>have:=s.lt hq; omega
  ·rintro x v (⟨j,_,_,hj,_⟩ | ⟨_,h2⟩)
   ·exact absurd hj (hempty j)
   ·rw [hH]; exact (t.ext s e1).get x v h2
end
end Go.Proofs.YtldndhdohlfpgaaGreat.V
/- The same state seen otherwise: own blocks under other names, what a block owns by name, and back. -/
namespace Go.Proofs.YtldndhdohlfpgaaGreat.V
open Go Go.RowKit
theorem VRel.noref {w:World} {β β':Bm} {dd dd':Nat→Option Bool} (off:∀ B,β.off B→β'.off B) {v:AV} {cv:Value} (h:VRel w β dd v cv):RefLt 0 v→VRel w β' dd' v cv:=by
 induction h with
 | und=>exact fun _=>.und
 | int=>exact fun _=>.int
 | bool=>exact fun _=>.bool
 | str=>exact fun _=>.str
 | ptr hp=>intro r; cases r; omega
 | ptrd hd h1=>intro r; cases r; omega
 | el cvs hB hm hc hr ih=>intro r; cases r with | el hr'=>exact .el cvs hB (off _ hm) hc fun i v hi=>ih i v hi (hr' v (qM hi))
 | sl hp hn hm hc=>intro r; cases r; omega
 | sl0 hd=>intro r; cases r; omega
 | sld hd h1=>intro r; cases r; omega
 | nils=>exact fun _=>.nils
 | lst0=>exact fun _=>.lst0
 | lst hl hn cvs hB hm hc hr ih=>intro r; cases r with | lst hr'=>exact .lst hl hn cvs hB (off _ hm) hc fun i v hi=>ih i v hi (hr' v (qM hi))
 | pv _ ih=>intro r; cases r with | pv hr'=>exact .pv (ih hr')
 | pv0=>exact fun _=>.pv0
 | fn hs hr ih=>intro r; cases r with | fn hr'=>exact .fn hs fun i v cv hv hcv=>ih i v cv hv hcv (hr' v (qM hv))
 | agg hs hr h1 ih=>intro r; cases r with | agg hr'=>exact .agg hs (fun i v cv hv hcv=>ih i v cv hv hcv (hr' v (qM hv))) h1
 | tup hs hr ih=>intro r; cases r with | tup hr'=>exact .tup hs fun i v cv hv hcv=>ih i v cv hv hcv (hr' v (qM hv))
inductive Rn (ns:List Nat):AV→AV→Prop
 | und {v}:Rn ns v .und
 | dat {v} (h:RefLt 0 v):Rn ns v v
 | ptr {b b' off} (h:ns[b']?=some b):Rn ns (.ptr b off) (.ptr b' off)
 | sl {b b' off n} (h:ns[b']?=some b):Rn ns (.sl b off n) (.sl b' off n)
 | fn {f vs us} (hl:vs.length=us.length) (h:∀ (i:Nat) v u,vs[i]?=some v→us[i]?=some u→Rn ns v u):Rn ns (.fn f vs) (.fn f us)
 | agg {vs us} (hl:vs.length=us.length) (h:∀ (i:Nat) v u,vs[i]?=some v→us[i]?=some u→Rn ns v u):Rn ns (.agg vs) (.agg us)
 | tup {vs us} (hl:vs.length=us.length) (h:∀ (i:Nat) v u,vs[i]?=some v→us[i]?=some u→Rn ns v u):Rn ns (.tup vs) (.tup us)
def renB (ns:List Nat) (β:Bm):Bm:=fun b=>match ns[b]? with | some c=>β c | none=>none
theorem M2 {ns:List Nat} {β:Bm} {b:Nat} {p:Loc} (h:renB ns β b=some p):∃ c,ns[b]?=some c∧β c=some p:=by
 unfold renB at h
 split at h
 ·rename_i c hc; exact ⟨c,hc,h⟩
 ·cases h
theorem A3x {ns:List Nat} {β:Bm}:∀ B,β.off B→(renB ns β).off B:=by
 intro B ho b p hp
 obtain ⟨c,_,hc⟩:=M2 hp
 exact ho c p hc
def RnB (ns:List Nat) (H H':AH):Prop:=∀ (i b:Nat),ns[i]?=some b→(∃ k k':ABlk,H[b]?=some (some k)∧H'[i]?=some (some k')∧k'.es=k.es∧k.cells.length=k'.cells.length∧∀ (j:Nat) v u,k.cells[j]?=some v→k'.cells[j]?=some u→u=v∧RefLt 0 v∨Rn ns v u∧∀ o es cells n,v≠.lst o es cells n)∨(H[b]?=some none∧H'[i]?=some none)
theorem VRel.rn {w:World} {β:Bm} {H H':AH} {ns:List Nat} (hb:RnB ns H H') {v u:AV} (hr:Rn ns v u):∀ {cv:Value},VRel w β (dead H) v cv→VRel w (renB ns β) (dead H') u cv:=by
 have dd:∀ (b' b:Nat),ns[b']?=some b→dead H' b'=dead H b:=by
  intro b' b h
  rcases hb b' b h with ⟨k,k',h1,h2,_⟩ | ⟨h1,h2⟩
  ·unfold dead; rw [h1,h2]; rfl
  ·unfold dead; rw [h1,h2]
 induction hr with
 | und=>exact fun _=>.und
 | dat h=>exact fun hv=>hv.noref A3x h
 | ptr h =>
  intro cv hv
  cases hv with
  | ptr hp=>exact .ptr (by unfold renB; rw [h]; exact hp)
  | ptrd hd h1=>exact .ptrd (by rw [dd _ _ h]; exact hd) h1
 | sl h =>
  intro cv hv
  cases hv with
  | sl hp hn hm hc=>exact .sl (by unfold renB; rw [h]; exact hp) hn hm hc
  | sl0 hd=>exact .sl0 (by rw [dd _ _ h]; exact hd)
  | sld hd h1=>exact .sld (by rw [dd _ _ h]; exact hd) h1
 | fn hl h ih =>
  intro cv hv
  cases hv with
  | fn hs hr =>
   refine .fn (by omega) ?_
   intro i u cu hu hcu
   have hi:=(qI hu).1
   exact ih i _ u (qG (by omega)) hu (hr i _ cu (qG (by omega)) hcu)
 | agg hl h ih =>
  intro cv hv
  cases hv with
  | agg hs hr h1 =>
   refine .agg (by omega) ?_ h1
   intro i u cu hu hcu
   have hi:=(qI hu).1
   exact ih i _ u (qG (by omega)) hu (hr i _ cu (qG (by omega)) hcu)
 | tup hl h ih =>
  intro cv hv
  cases hv with
  | tup hs hr =>
   refine .tup (by omega) ?_
   intro i u cu hu hcu
   have hi:=(qI hu).1
   exact ih i _ u (qG (by omega)) hu (hr i _ cu (qG (by omega)) hcu)
theorem CRel.noref {w:World} {β β':Bm} {dd dd':Nat→Option Bool} (off:∀ B,β.off B→β'.off B) {v:AV} {cv:Value} {fp:List Nat} (h:CRel w β dd v cv fp) (hr:RefLt 0 v):CRel w β' dd' v cv fp:=by
 cases h with
 | own h hn=>exact .own h hn
 | shr h hn hf=>exact .shr (h.noref off hr) hn hf
theorem Rn.ne {ns:List Nat} {v u:AV} (h:Rn ns v u) (hv:∀ o es cells n,v≠.lst o es cells n):∀ es cells n,u≠.lst true es cells n:=by
 intro es cells n e
 subst e
 cases h
 exact hv _ _ _ _ rfl
theorem FT.ne_ref {w:World} {v:AV} {cv:Value} {fp:List Nat} (h:FT w v cv fp) (h1:cv.oneCell'=true):(∃ o es cells n,v=.lst o es cells n)∨(fp=[]∧RefLt 0 v):=by
 cases h with
 | und=>exact .inr ⟨rfl,.und⟩
 | int=>exact .inr ⟨rfl,.int⟩
 | bool=>exact .inr ⟨rfl,.bool⟩
 | str=>exact .inr ⟨rfl,.str⟩
 | nils=>exact .inr ⟨rfl,.nils⟩
 | lst0=>exact .inl ⟨_,_,_,_,rfl⟩
 | lst=>exact .inl ⟨_,_,_,_,rfl⟩
 | lst0v=>exact .inl ⟨_,_,_,_,rfl⟩
 | lstv=>exact .inl ⟨_,_,_,_,rfl⟩
 | agg=>simp [Value.oneCell'] at h1
 | tup=>simp [Value.oneCell'] at h1
def SubR (ns:List Nat):Asg→Asg→Prop
 | [],_=>True
 | (x,u)::r,a=>(∃ v,get a x=some v∧Rn ns v u)∧SubR ns r a
theorem SubR.get {ns:List Nat} {a:Asg}:∀ {a':Asg},SubR ns a' a→∀ x u,get a' x=some u→∃ v,V.get a x=some v∧Rn ns v u
 | [],_,x,v,h=>by simp [V.get] at h
 | (y,u)::r,hs,x,v,h=>by
  simp only [V.get] at h
  split at h
  ·rename_i e; subst e; simp only [qS] at h; subst h; exact hs.1
  ·exact hs.2.get x v h
theorem SRel.ren {base:Nat} {β:Bm} {H H':AH} {w:World} (s:SRel base β H w) (ns:List Nat) (hnd:ns.Nodup) (hb:RnB ns H H'):SRel base (renB ns β) H' w:=by
 have inj:∀ (i j b:Nat),ns[i]?=some b→ns[j]?=some b→i=j:=by
  intro i j b hi hj
  exact (List.getElem?_inj (qI hi).1 hnd).1 (hi.trans hj.symm)
 refine ⟨?_,?_,?_,?_⟩
 ·intro b p hp
  obtain ⟨c,hc,hp'⟩:=M2 hp
  obtain ⟨k0,hk0,hes,cc,T,cvs,fps,h1,h2,h3,h4,h5⟩:=s.blk c p hp'
  rcases hb b c hc with ⟨k,k',g1,g2,g3,g4,g5⟩ | ⟨g1,_⟩
  ·rw [hk0] at g1
   cases g1
   refine ⟨k',g2,g3.trans hes,cc,T,cvs,fps,h1,h2,by omega,?_,by rw [h5,g4]⟩
   intro i u hu
   have hi:=(qI hu).1
   have hv:k0.cells[i]?=some (k0.cells[i]'(by omega)):=qG (by omega)
   obtain ⟨q1,q2,q3⟩:=h4 i _ hv
   refine ⟨q1,q2,?_⟩
   rcases g5 i _ u hv hu with ⟨e,hr⟩ | ⟨hr,hne⟩
   ·rw [e]; exact q3.noref A3x hr
   ·cases q3 with
    | own g hno =>
     rcases g.ne_ref q2 with ⟨o,es,cells,n,e⟩ | ⟨ef,er⟩
     ·exact absurd e (hne _ _ _ _)
     ·exact .shr (VRel.rn (β:=β) hb hr (g.vrel (by rw [ef]; simp))) (hr.ne hne) ef
    | shr g hn hf=>exact .shr (g.rn hb hr) (hr.ne hne) hf
  ·rw [hk0] at g1; cases g1
 ·intro b p hp
  obtain ⟨c,hc,hp'⟩:=M2 hp
  exact s.nodup c p hp'
 ·intro b p hp
  obtain ⟨c,hc,hp'⟩:=M2 hp
  exact s.ge c p hp'
 ·intro b p b' p' hp hp' hne
  obtain ⟨c,hc,hq⟩:=M2 hp
  obtain ⟨c',hc',hq'⟩:=M2 hp'
  exact s.disj c p c' p' hq hq' fun e=>hne (inj b b' c hc (by rw [e]; exact hc'))
theorem Gh.ren {nw N:Nat} {H0:AH} {a a':Asg} {H H':AH} (ns:List Nat) (hlen:ns.length=H'.length) (hn0:H0.length≤ns.length) (hid:∀ i:Nat,i<H0.length→ns[i]?=some i) (hnd:ns.Nodup) (hb:RnB ns H H') (hs:SubR ns a' a):Gh nw N H0 a H a' H':=by
 intro base β0 w0 β ca w s0 st
 have inj:∀ (i j b:Nat),ns[i]?=some b→ns[j]?=some b→i=j:=by
  intro i j b hi hj
  exact (List.getElem?_inj (qI hi).1 hnd).1 (hi.trans hj.symm)
 refine ⟨renB ns β,st.s.ren ns hnd hb,⟨st.t.defers,st.t.size,?_⟩,?_,st.b⟩
 ·intro x u hu
  obtain ⟨v,hv,hr⟩:=hs.get x u hu
  exact ⟨(st.t.get x v hv).1,(st.t.get x v hv).2.rn hb hr⟩
 ·refine ⟨by omega,?_,?_,?_,?_,st.e.wsz,st.e.os,st.e.tape,st.e.output,st.e.frame⟩
  ·intro b p hp k hk
   have hlt:=s0.lt hp
   have hi:=hid b hlt
   rcases hb b b hi with ⟨k1,k',g1,g2,_⟩ | ⟨_,g2⟩
   ·obtain ⟨p',hp',r⟩:=st.e.keep b p hp k1 g1
    exact ⟨p',by unfold renB; rw [hi]; exact hp',r⟩
   ·rw [g2] at hk; cases hk
  ·intro b p' hlt hp'
   obtain ⟨c,hc,hq⟩:=M2 hp'
   rw [hid b hlt] at hc
   cases hc
   exact st.e.old b p' hlt hq
  ·intro b hbd
   have hlt:=(qI hbd).1
   have:=st.e.dead b hbd
   rcases hb b b (hid b hlt) with ⟨k1,k',g1,_⟩ | ⟨_,g2⟩
   ·rw [this] at g1; cases g1
   ·exact g2
  ·intro b p hp j hj
   obtain ⟨c,hc,hq⟩:=M2 hp
   rcases st.e.own c p hq j hj with h | ⟨b0,p0,h0,h1,h2⟩
   ·exact .inl h
   ·refine .inr ⟨b0,p0,h0,h1,?_⟩
    rcases h2 with h2 | h2
    ·have:=hid b0 (s0.lt h0)
     exact .inl (inj b0 b c (by rw [← h2]; exact this) hc)
    ·exact .inr h2
end Go.Proofs.YtldndhdohlfpgaaGreat.V
/- What an own block owns gets a name of its own (open), and loses it (shut). -/
namespace Go.Proofs.YtldndhdohlfpgaaGreat.V
open Go Go.RowKit
theorem Vw (f g:Nat→List Nat) (j n:Nat) (hj:j<n) (h:∀ i,i≠j→g i=f i):((List.range n).flatMap g++f j).Perm ((List.range n).flatMap f++g j):=by
 induction n with
 | zero=>omega
 | succ n ih =>
  rw [List.range_succ,List.flatMap_append,List.flatMap_append]
  simp only [List.flatMap_cons,List.flatMap_nil,List.append_nil]
  by_cases e:j=n
  ·subst e
   have:(List.range j).flatMap g=(List.range j).flatMap f:=by
    apply congrArg List.flatten
    apply List.map_congr_left
    intro i hi
    exact h i (by have:=List.mem_range.1 hi; omega)
   rw [this,List.append_assoc,List.append_assoc]
   exact List.Perm.append_left _ List.perm_append_comm
  ·rw [h n (fun x=>e x.symm)]
   have i1:=ih (by omega)
   have:∀ A B C:List Nat,(A++B++C).Perm (A++C++B):=fun A B C=>by
    rw [List.append_assoc,List.append_assoc]; exact List.Perm.append_left _ List.perm_append_comm
   exact (this _ _ _).trans ((List.Perm.append_right _ i1).trans (this _ _ _))
theorem Gh.asg {nw N:Nat} {H0:AH} {a a':Asg} {H:AH} (h:∀ x v,get a' x=some v→get a x=some v):Gh nw N H0 a H a' H:=fun _ _ _ β _ _ _ st =>
 ⟨β,st.s,⟨st.t.defers,st.t.size,fun x v hx=>st.t.get x v (h x v hx)⟩,st.e,st.b⟩
def setCell (k:ABlk) (j:Nat) (v:AV):ABlk:=⟨k.cells.set j v,k.es⟩
theorem Gh.expose {nw N:Nat} {H0:AH} {a:Asg} {H:AH} {b j es n:Nat} {k:ABlk} {cells:List AV} (hk:H[b]?=some (some k)) (hj:k.cells[j]?=some (.lst true es cells n)) (hnw:nw≤b) (ho:∀ v∈cells,Own v) :
  Gh nw N H0 a H a (H.set b (some (setCell k j (.sl H.length 0 n)))++[some ⟨cells,es⟩]):=by
 intro base β0 w0 β ca w s0 st
 have hbl:b<H.length:=(qI hk).1
 have hjl:j<k.cells.length:=(qI hj).1
 have hdead:∀ c,dead H c=some false→dead (H.set b (some (setCell k j (.sl H.length 0 n)))++[some ⟨cells,es⟩]) c=some false:=by
  intro c hc
  have h1:=G3.1 hc
  have hne:b≠c:=by intro e; subst e; rw [hk] at h1; cases h1
  refine G3.2 ?_
  rw [List.getElem?_append_left (by simpa using (qI h1).1),List.getElem?_set_ne hne]; exact h1
 have hin:∀ c,dead H c≠none→dead (H.set b (some (setCell k j (.sl H.length 0 n)))++[some ⟨cells,es⟩]) c≠none:=by
  intro c hc
  have h1:=X8.1 hc
  refine X8.2 ?_
  simp; omega
 have hget:∀ c,c≠b→c<H.length→(H.set b (some (setCell k j (.sl H.length 0 n)))++[some ⟨cells,es⟩])[c]?=H[c]?:=by
  intro c hc hl
  rw [List.getElem?_append_left (by simpa using hl),List.getElem?_set_ne (fun e=>hc e.symm)]
 have hnew:(H.set b (some (setCell k j (.sl H.length 0 n)))++[some ⟨cells,es⟩])[H.length]?=some (some ⟨cells,es⟩):=by
  rw [List.getElem?_append_right (by simp)]; simp
 have hb':(H.set b (some (setCell k j (.sl H.length 0 n)))++[some ⟨cells,es⟩])[b]?=some (some (setCell k j (.sl H.length 0 n))):=by
  rw [List.getElem?_append_left (by simpa using hbl)]; simp [hbl]
 cases hβ:β b with
 | none =>
  have hv:∀ {v:AV} {cv:Value},VRel w β (dead H) v cv→VRel w β (dead (H.set b (some (setCell k j (.sl H.length 0 n)))++[some ⟨cells,es⟩])) v cv:=fun h=>h.step (fun _ h=>h) hdead hin fun b p hp=>.inr ⟨p,hp,rfl,rfl,rfl⟩
  refine ⟨β,⟨?_,st.s.nodup,st.s.ge,st.s.disj⟩,⟨st.t.defers,st.t.size,fun x v hx=>⟨(st.t.get x v hx).1,hv (st.t.get x v hx).2⟩⟩,?_,st.b⟩
  ·intro c p hp
   obtain ⟨k1,hk1,hbr⟩:=st.s.blk c p hp
   have hc:c≠b:=by intro e; subst e; rw [hβ] at hp; cases hp
   exact ⟨k1,by rw [hget c hc (st.s.lt hp)]; exact hk1,hbr.step hv⟩
  ·refine ⟨by have:=st.e.len; simp; omega,?_,st.e.old,fun c hc=>G3.1 (hdead c (G3.2 (st.e.dead c hc))),st.e.own,st.e.wsz,st.e.os,st.e.tape,st.e.output,st.e.frame⟩
   intro c p hp k1 hk1
   by_cases hc:c=b
   ·subst hc
    obtain ⟨p',hp',r⟩:=st.e.keep c p hp k hk
    exact ⟨p',hp',r⟩
   ·rw [hget c hc (Nat.lt_of_lt_of_le (s0.lt hp) st.e.len)] at hk1
    exact st.e.keep c p hp k1 hk1
 | some p =>
  obtain ⟨k0,hk0,hes,c,T,cvs,fps,h1,h2,h3,h4,h5⟩:=st.s.blk b p hβ
  rw [hk] at hk0
  cases hk0
  obtain ⟨q1,q2,q3⟩:=h4 j _ hj
  have hq:∃ q:Option Loc,locFp q=fps j∧(∀ β' dd',β' H.length=q→dd' H.length≠none→VRel w β' dd' (.sl H.length 0 n) (cvs j))∧∀ p',q=some p'→∀ β' dd',BRel w β' dd' ⟨cells,es⟩ p':=by
   cases q3 with
   | own g hno =>
    generalize fps j=fpj at g ⊢
    generalize cvs j=cvj at g ⊢
    cases g with
    | lst0=>exact ⟨none,rfl,fun β' dd' _ hd=>.sl0 hd,fun p' h=>by cases h⟩
    | lst hl cvs' fps' hb hn hm hsz hc hr =>
     rename_i B cap c' T'
     refine ⟨some ⟨B,c'.size,es,(List.range cells.length).flatMap fps'⟩,rfl,fun β' dd' h _=>.sl h hn hm fun _=>hsz.symm,?_⟩
     intro p' e β' dd'
     cases e
     exact ⟨rfl,c',T',cvs',fps',hb,rfl,by simp only; rw [hl,hsz]; exact Nat.mul_le_mul_right _ hn,fun i v hi=>⟨(hc i v hi).1,(hc i v hi).2,.own (hr i v hi) (ho v (qM hi)).ne⟩,rfl⟩
   | shr g hn hf=>exact absurd rfl (hn _ _ _)
  obtain ⟨q,e1,e2,e3⟩:=hq
  let fpsN:Nat→List Nat:=fun i=>if i=j then [] else fps i
  let p1:Loc:={ p with fp:=(List.range k.cells.length).flatMap fpsN }
  let β':Bm:=fun x=>if x=H.length then q else if x=b then some p1 else β x
  have hperm:(p1.fp++locFp q).Perm p.fp:=by
   have:=Vw fps fpsN j k.cells.length hjl (fun i hi=>by simp [fpsN,hi])
   rw [e1,h5]
   simpa [p1,fpsN] using this
  have hpermB:((p1.B::p1.fp)++locFp q).Perm (p.B::p.fp):=List.Perm.cons _ hperm
  have hbne:b≠H.length:=by omega
  have cs:∀ x p',β' x=some p'→(x=H.length∧q=some p')∨(x=b∧p'=p1)∨(x≠b∧x≠H.length∧β x=some p'):=by
   intro x p' hx
   simp only [β'] at hx
   split at hx
   ·rename_i h; exact .inl ⟨h,hx⟩
   ·rename_i h
    split at hx
    ·rename_i h2; exact .inr (.inl ⟨h2,(Option.some.inj hx).symm⟩)
    ·rename_i h2; exact .inr (.inr ⟨h2,h,hx⟩)
  have src:∀ x p',β' x=some p'→∀ B∈p'.B::p'.fp,∃ x0 p0,β x0=some p0∧B∈p0.B::p0.fp∧(x0=x∨(x=H.length∧x0=b)):=by
   intro x p' hx B hB
   rcases cs x p' hx with ⟨rfl,hq⟩ | ⟨rfl,rfl⟩ | ⟨_,_,h⟩
   ·exact ⟨b,p,hβ,hpermB.subset (List.mem_append_right _ (by rw [hq]; exact hB)),.inr ⟨rfl,rfl⟩⟩
   ·exact ⟨_,p,hβ,hpermB.subset (List.mem_append_left _ hB),.inl rfl⟩
   ·exact ⟨x,p',h,hB,.inl rfl⟩
  have off:∀ B,β.off B→β'.off B:=by
   intro B hB x p' hx hm
   obtain ⟨x0,p0,h0,hm0,_⟩:=src x p' hx B hm
   exact hB x0 p0 h0 hm0
  have hkeep:∀ x p',β x=some p'→∃ p'',β' x=some p''∧p''.B=p'.B∧p''.sz=p'.sz∧p''.es=p'.es:=by
   intro x p' hx
   have hxl:=st.s.lt hx
   by_cases hxb:x=b
   ·subst hxb
    rw [hβ] at hx; cases hx
    exact ⟨p1,by simp [β',hbne],rfl,rfl,rfl⟩
   ·exact ⟨p',by simp [β',hxb,show x≠H.length by omega,hx],rfl,rfl,rfl⟩
  have hv:∀ {v:AV} {cv:Value},VRel w β (dead H) v cv→VRel w β' (dead (H.set b (some (setCell k j (.sl H.length 0 n)))++[some ⟨cells,es⟩])) v cv:=fun h=>h.step off hdead hin fun x p' hx=>.inr (hkeep x p' hx)
  have hnd:=hpermB.nodup_iff.2 (st.s.nodup b p hβ)
  rw [List.nodup_append] at hnd
  refine ⟨β',⟨?_,?_,?_,?_⟩,⟨st.t.defers,st.t.size,fun x v hx=>⟨(st.t.get x v hx).1,hv (st.t.get x v hx).2⟩⟩,?_,st.b⟩
  ·intro x p' hx
   rcases cs x p' hx with ⟨rfl,hq⟩ | ⟨rfl,rfl⟩ | ⟨g1,g2,h⟩
   ·exact ⟨_,hnew,e3 p' hq _ _⟩
   ·refine ⟨_,hb',hes,c,T,cvs,fpsN,h1,h2,by simpa [setCell] using h3,?_,by simp [p1,setCell]⟩
    intro i v hi
    simp only [setCell,List.getElem?_set] at hi
    split at hi
    ·rename_i e
     subst e
     cases hi
     exact ⟨q1,q2,.shr (e2 _ _ (by simp [β']) (X8.2 (by simp))) (by simp) (by simp [fpsN])⟩
    ·rename_i e
     have e':i≠j:=fun x=>e x.symm
     obtain ⟨a1,a2,a3⟩:=h4 i v hi
     simp only [fpsN,e',if_false]
     exact ⟨a1,a2,a3.step hv⟩
   ·obtain ⟨k1,hk1,hbr⟩:=st.s.blk x p' h
    exact ⟨k1,by rw [hget x g1 (st.s.lt h)]; exact hk1,hbr.step hv⟩
  ·intro x p' hx
   rcases cs x p' hx with ⟨rfl,hq⟩ | ⟨rfl,rfl⟩ | ⟨g1,g2,h⟩
   ·have:=hnd.2.1; rw [hq] at this; exact this
   ·exact hnd.1
   ·exact st.s.nodup x p' h
  ·intro x p' hx B hB
   obtain ⟨x0,p0,h0,hm0,_⟩:=src x p' hx B hB
   exact st.s.ge x0 p0 h0 B hm0
  ·intro x p' y p'' hx hy hne B hB hB'
   rcases cs x p' hx with ⟨rfl,hq⟩ | ⟨rfl,rfl⟩ | ⟨g1,g2,h⟩ <;> rcases cs y p'' hy with ⟨rfl,hq'⟩ | ⟨rfl,rfl⟩ | ⟨g1',g2',h'⟩
   ·exact hne rfl
   ·exact hnd.2.2 B hB' B (by rw [hq]; exact hB) rfl
   ·exact st.s.disj b p y p'' hβ h' (fun e=>g1' e.symm) B (hpermB.subset (List.mem_append_right _ (by rw [hq]; exact hB))) hB'
   ·exact hnd.2.2 B hB B (by rw [hq']; exact hB') rfl
   ·exact hne rfl
   ·exact st.s.disj _ p y p'' hβ h' (fun e=>g1' e.symm) B (hpermB.subset (List.mem_append_left _ hB)) hB'
   ·exact st.s.disj x p' b p h hβ g1 B hB (hpermB.subset (List.mem_append_right _ (by rw [hq']; exact hB')))
   ·exact st.s.disj x p' _ p h hβ g1 B hB (hpermB.subset (List.mem_append_left _ hB'))
   ·exact st.s.disj x p' y p'' h h' hne B hB hB'
  ·refine ⟨by have:=st.e.len; simp; omega,?_,?_,fun c hc=>G3.1 (hdead c (G3.2 (st.e.dead c hc))),?_,st.e.wsz,st.e.os,st.e.tape,st.e.output,st.e.frame⟩
   ·intro x p0 hp0 k1 hk1
    have hxl:=Nat.lt_of_lt_of_le (s0.lt hp0) st.e.len
    have:∃ k2,H[x]?=some (some k2):=by
     by_cases hxb:x=b
     ·subst hxb; exact ⟨k,hk⟩
     ·rw [hget x hxb hxl] at hk1; exact ⟨k1,hk1⟩
    obtain ⟨k2,hk2⟩:=this
    obtain ⟨p',hp',f1,f2,f3⟩:=st.e.keep x p0 hp0 k2 hk2
    obtain ⟨p'',hp'',g1,g2,g3⟩:=hkeep x p' hp'
    exact ⟨p'',hp'',g1.trans f1,g2.trans f2,g3.trans f3⟩
   ·intro x p' hx hp'
    rcases cs x p' hp' with ⟨rfl,hq⟩ | ⟨rfl,rfl⟩ | ⟨g1,g2,h⟩
    ·have:=st.e.len; omega
    ·obtain ⟨p0,h0,e0⟩:=st.e.old _ p hx hβ
     exact ⟨p0,h0,e0⟩
    ·exact st.e.old x p' hx h
   ·intro x p' hx B hB
    obtain ⟨x0,p0,h0,hm0,hor⟩:=src x p' hx B hB
    rcases st.e.own x0 p0 h0 B hm0 with hf | ⟨y,py,hy,hmy,hyo⟩
    ·exact .inl hf
    ·refine .inr ⟨y,py,hy,hmy,?_⟩
     rcases hor with rfl | ⟨rfl,rfl⟩
     ·exact hyo
     ·rcases hyo with rfl | hyo
      ·exact .inr hnw
      ·exact .inr hyo
theorem Gh.absorb {nw N:Nat} {H0:AH} {a:Asg} {H:AH} {b j m es n:Nat} {k:ABlk} {cells:List AV} (hk:H[b]?=some (some k)) (hj:k.cells[j]?=some (.sl m 0 n)) (hm:H[m]?=some (some ⟨cells,es⟩)) (hbm:b≠m) (hnw:nw≤m) (hlen:cells.length=n*es) (ho:∀ v∈cells,Own v) :
  Gh nw N H0 a H a ((H.set b (some (setCell k j (.lst true es cells n)))).set m none):=by
 intro base β0 w0 β ca w s0 st
 have hbl:b<H.length:=(qI hk).1
 have hml:m<H.length:=(qI hm).1
 have hjl:j<k.cells.length:=(qI hj).1
 have hget:∀ c,c≠b→c≠m→((H.set b (some (setCell k j (.lst true es cells n)))).set m none)[c]?=H[c]?:=by
  intro c hc hc'
  rw [List.getElem?_set_ne (fun e=>hc' e.symm),List.getElem?_set_ne (fun e=>hc e.symm)]
 have hmd:((H.set b (some (setCell k j (.lst true es cells n)))).set m none)[m]?=some none:=by simp [hml]
 have hb':((H.set b (some (setCell k j (.lst true es cells n)))).set m none)[b]?=some (some (setCell k j (.lst true es cells n))):=by
  rw [List.getElem?_set_ne (fun e=>hbm e.symm)]; simp [hbl]
 have hdead:∀ c,dead H c=some false→dead ((H.set b (some (setCell k j (.lst true es cells n)))).set m none) c=some false:=by
  intro c hc
  have h1:=G3.1 hc
  have hne:c≠b:=by intro e; subst e; rw [hk] at h1; cases h1
  have hne':c≠m:=by intro e; subst e; rw [hm] at h1; cases h1
  exact G3.2 (by rw [hget c hne hne']; exact h1)
 have hin:∀ c,dead H c≠none→dead ((H.set b (some (setCell k j (.lst true es cells n)))).set m none) c≠none:=by
  intro c hc
  have h1:=X8.1 hc
  refine X8.2 ?_
  simpa using h1
 let β1:Bm:=fun x=>if x=m then none else β x
 cases hβ:β b with
 | none =>
  have cs1:∀ x p',β1 x=some p'→x≠m∧β x=some p':=by
   intro x p' hx
   simp only [β1] at hx
   split at hx
   ·cases hx
   ·exact ⟨‹_›,hx⟩
  have off:∀ B,β.off B→β1.off B:=fun B hB x p' hx=>hB x p' (cs1 x p' hx).2
  have hv:∀ {v:AV} {cv:Value},VRel w β (dead H) v cv→VRel w β1 (dead ((H.set b (some (setCell k j (.lst true es cells n)))).set m none)) v cv:=fun h=>h.step off hdead hin fun x p hx=>by
   by_cases e:x=m
   ·subst e; exact .inl (G3.2 hmd)
   ·exact .inr ⟨p,by simp [β1,e,hx],rfl,rfl,rfl⟩
  refine ⟨β1,⟨?_,fun x p hx=>st.s.nodup x p (cs1 x p hx).2,fun x p hx=>st.s.ge x p (cs1 x p hx).2,fun x p y q hx hy=>st.s.disj x p y q (cs1 x p hx).2 (cs1 y q hy).2⟩,⟨st.t.defers,st.t.size,fun x v hx=>⟨(st.t.get x v hx).1,hv (st.t.get x v hx).2⟩⟩,?_,st.b⟩
  ·intro c p hp
   obtain ⟨g1,g2⟩:=cs1 c p hp
   obtain ⟨k1,hk1,hbr⟩:=st.s.blk c p g2
   have hc:c≠b:=by intro e; subst e; rw [hβ] at g2; cases g2
   exact ⟨k1,by rw [hget c hc g1]; exact hk1,hbr.step hv⟩
  ·refine ⟨by have:=st.e.len; simp; omega,?_,fun x p' hx hp'=>st.e.old x p' hx (cs1 x p' hp').2,fun c hc=>G3.1 (hdead c (G3.2 (st.e.dead c hc))),fun x p' hp'=>st.e.own x p' (cs1 x p' hp').2,st.e.wsz,st.e.os,st.e.tape,st.e.output,st.e.frame⟩
   intro c p hp k1 hk1
   by_cases hcm:c=m
   ·subst hcm; rw [hmd] at hk1; cases hk1
   by_cases hc:c=b
   ·subst hc
    obtain ⟨p',hp',r⟩:=st.e.keep c p hp k hk
    rw [hβ] at hp'; cases hp'
   ·rw [hget c hc hcm] at hk1
    obtain ⟨p',hp',r⟩:=st.e.keep c p hp k1 hk1
    exact ⟨p',by simp [β1,hcm,hp'],r⟩
 | some p =>
  obtain ⟨k0,hk0,hes,c,T,cvs,fps,h1,h2,h3,h4,h5⟩:=st.s.blk b p hβ
  rw [hk] at hk0
  cases hk0
  obtain ⟨q1,q2,q3⟩:=h4 j _ hj
  have hq:∃ q:Option Loc,FT w (.lst true es cells n) (cvs j) (locFp q)∧fps j=[]∧(q=none∨q=β m):=by
   cases q3 with
   | own g hno=>cases g
   | shr g hn hf =>
    generalize cvs j=cvj at g ⊢
    cases g with
    | sl hp hn hmx hc =>
     rename_i pm cap
     obtain ⟨km,hkm,hesm,cm,Tm,cvsm,fpsm,m1,m2,m3,m4,m5⟩:=st.s.blk m pm hp
     rw [hm] at hkm
     cases hkm
     refine ⟨some pm,?_,hf,.inr hp.symm⟩
     simp only [locFp]
     rw [m5]
     refine .lst hlen cvsm fpsm m1 hn hmx ?_ (fun i v hi=>⟨(m4 i v hi).1,(m4 i v hi).2.1⟩) (fun i v hi=>(m4 i v hi).2.2.own_ft (ho v (qM hi)))
     rw [m2,← hc rfl,← hesm]
    | sl0 hd =>
     have hc0:cells=[]:=List.eq_nil_of_length_eq_zero (by simpa using hlen)
     subst hc0
     exact ⟨none,.lst0,hf,.inl rfl⟩
    | sld hd=>exact absurd hd (Aa hm)
  obtain ⟨q,hft,hfj,hqm⟩:=hq
  let fpsN:Nat→List Nat:=fun i=>if i=j then locFp q else fps i
  let p1:Loc:={ p with fp:=(List.range k.cells.length).flatMap fpsN }
  let β':Bm:=fun x=>if x=b then some p1 else if x=m then none else β x
  have hperm:p1.fp.Perm (p.fp++locFp q):=by
   have:=Vw fps fpsN j k.cells.length hjl (fun i hi=>by simp [fpsN,hi])
   rw [h5]
   rw [hfj,List.append_nil] at this
   simpa [p1,fpsN] using this
  have hpermB:(p1.B::p1.fp).Perm ((p.B::p.fp)++locFp q):=List.Perm.cons _ hperm
  have hqs:∀ B∈locFp q,∃ pm,β m=some pm∧B∈pm.B::pm.fp:=by
   intro B hB
   rcases hqm with rfl | rfl
   ·cases hB
   ·cases hβm:β m with
    | none=>rw [hβm] at hB; cases hB
    | some pm=>rw [hβm] at hB; exact ⟨pm,rfl,hB⟩
  have cs:∀ x p',β' x=some p'→(x=b∧p'=p1)∨(x≠b∧x≠m∧β x=some p'):=by
   intro x p' hx
   simp only [β'] at hx
   split at hx
   ·rename_i h; exact .inl ⟨h,(Option.some.inj hx).symm⟩
   ·rename_i h
    split at hx
    ·cases hx
    ·rename_i h2; exact .inr ⟨h,h2,hx⟩
  have src:∀ x p',β' x=some p'→∀ B∈p'.B::p'.fp,∃ x0 p0,β x0=some p0∧B∈p0.B::p0.fp∧(x0=x∨(x=b∧x0=m)):=by
   intro x p' hx B hB
   rcases cs x p' hx with ⟨rfl,rfl⟩ | ⟨_,_,h⟩
   ·rcases List.mem_append.1 (hpermB.subset hB) with h | h
    ·exact ⟨_,p,hβ,h,.inl rfl⟩
    ·obtain ⟨pm,hpm,hmem⟩:=hqs B h
     exact ⟨m,pm,hpm,hmem,.inr ⟨rfl,rfl⟩⟩
   ·exact ⟨x,p',h,hB,.inl rfl⟩
  have off:∀ B,β.off B→β'.off B:=by
   intro B hB x p' hx hmm
   obtain ⟨x0,p0,h0,hm0,_⟩:=src x p' hx B hmm
   exact hB x0 p0 h0 hm0
  have hkeep:∀ x p',β x=some p'→x≠m→∃ p'',β' x=some p''∧p''.B=p'.B∧p''.sz=p'.sz∧p''.es=p'.es:=by
   intro x p' hx hxm
   by_cases hxb:x=b
   ·subst hxb
    rw [hβ] at hx; cases hx
    exact ⟨p1,by simp [β'],rfl,rfl,rfl⟩
   ·exact ⟨p',by simp [β',hxb,hxm,hx],rfl,rfl,rfl⟩
  have hv:∀ {v:AV} {cv:Value},VRel w β (dead H) v cv→VRel w β' (dead ((H.set b (some (setCell k j (.lst true es cells n)))).set m none)) v cv:=fun h=>h.step off hdead hin fun x p' hx=>by
   by_cases e:x=m
   ·subst e; exact .inl (G3.2 hmd)
   ·exact .inr (hkeep x p' hx e)
  refine ⟨β',⟨?_,?_,?_,?_⟩,⟨st.t.defers,st.t.size,fun x v hx=>⟨(st.t.get x v hx).1,hv (st.t.get x v hx).2⟩⟩,?_,st.b⟩
  ·intro x p' hx
   rcases cs x p' hx with ⟨rfl,rfl⟩ | ⟨g1,g2,h⟩
   ·refine ⟨_,hb',hes,c,T,cvs,fpsN,h1,h2,by simpa [setCell] using h3,?_,by simp [p1,setCell]⟩
    intro i v hi
    simp only [setCell,List.getElem?_set] at hi
    split at hi
    ·rename_i e
     subst e
     cases hi
     refine ⟨q1,q2,?_⟩
     simp only [fpsN,if_true]
     exact .own hft (by simp)
    ·rename_i e
     have e':i≠j:=fun x=>e x.symm
     obtain ⟨a1,a2,a3⟩:=h4 i v hi
     simp only [fpsN,e',if_false]
     exact ⟨a1,a2,a3.step hv⟩
   ·obtain ⟨k1,hk1,hbr⟩:=st.s.blk x p' h
    exact ⟨k1,by rw [hget x g1 g2]; exact hk1,hbr.step hv⟩
  ·intro x p' hx
   rcases cs x p' hx with ⟨rfl,rfl⟩ | ⟨g1,g2,h⟩
   ·refine hpermB.nodup_iff.2 (List.nodup_append.2 ⟨st.s.nodup _ p hβ,?_,?_⟩)
    ·rcases hqm with rfl | rfl
     ·exact List.nodup_nil
     ·cases hβm:β m with
      | none=>exact List.nodup_nil
      | some pm=>exact st.s.nodup m pm hβm
    ·intro B hB B' hB' e
     obtain ⟨pm,hpm,hmem⟩:=hqs B' hB'
     exact st.s.disj _ p m pm hβ hpm hbm B hB (e ▸ hmem)
   ·exact st.s.nodup x p' h
  ·intro x p' hx B hB
   obtain ⟨x0,p0,h0,hm0,_⟩:=src x p' hx B hB
   exact st.s.ge x0 p0 h0 B hm0
  ·intro x p' y p'' hx hy hne B hB hB'
   have key:∀ z pz,z≠b→z≠m→β z=some pz→∀ B∈p1.B::p1.fp,B ∉ pz.B::pz.fp:=by
    intro z pz hzb hzm hz B hB hB'
    rcases List.mem_append.1 (hpermB.subset hB) with h | h
    ·exact st.s.disj b p z pz hβ hz (fun e=>hzb e.symm) B h hB'
    ·obtain ⟨pm,hpm,hmem⟩:=hqs B h
     exact st.s.disj m pm z pz hpm hz (fun e=>hzm e.symm) B hmem hB'
   rcases cs x p' hx with ⟨rfl,rfl⟩ | ⟨g1,g2,h⟩ <;> rcases cs y p'' hy with ⟨rfl,rfl⟩ | ⟨g1',g2',h'⟩
   ·exact hne rfl
   ·exact key y p'' g1' g2' h' B hB hB'
   ·exact key x p' g1 g2 h B hB' hB
   ·exact st.s.disj x p' y p'' h h' hne B hB hB'
  ·refine ⟨by have:=st.e.len; simp; omega,?_,?_,fun c hc=>G3.1 (hdead c (G3.2 (st.e.dead c hc))),?_,st.e.wsz,st.e.os,st.e.tape,st.e.output,st.e.frame⟩
   ·intro x p0 hp0 k1 hk1
    have hxm:x≠m:=by intro e; subst e; rw [hmd] at hk1; cases hk1
    have:∃ k2,H[x]?=some (some k2):=by
     by_cases hxb:x=b
     ·subst hxb; exact ⟨k,hk⟩
     ·rw [hget x hxb hxm] at hk1; exact ⟨k1,hk1⟩
    obtain ⟨k2,hk2⟩:=this
    obtain ⟨p',hp',f1,f2,f3⟩:=st.e.keep x p0 hp0 k2 hk2
    obtain ⟨p'',hp'',g1,g2,g3⟩:=hkeep x p' hp' hxm
    exact ⟨p'',hp'',g1.trans f1,g2.trans f2,g3.trans f3⟩
   ·intro x p' hx hp'
    rcases cs x p' hp' with ⟨rfl,rfl⟩ | ⟨g1,g2,h⟩
    ·obtain ⟨p0,h0,e0⟩:=st.e.old _ p hx hβ
     exact ⟨p0,h0,e0⟩
    ·exact st.e.old x p' hx h
   ·intro x p' hx B hB
    obtain ⟨x0,p0,h0,hm0,hor⟩:=src x p' hx B hB
    rcases st.e.own x0 p0 h0 B hm0 with hf | ⟨y,py,hy,hmy,hyo⟩
    ·exact .inl hf
    ·refine .inr ⟨y,py,hy,hmy,?_⟩
     rcases hor with rfl | ⟨rfl,rfl⟩
     ·exact hyo
     ·rcases hyo with rfl | hyo
      ·exact .inr hnw
      ·exact .inr hyo
end Go.Proofs.YtldndhdohlfpgaaGreat.V
/- How functions end; calls that are handed own blocks. -/
namespace Go.Proofs.YtldndhdohlfpgaaGreat.V
open Go Go.RowKit
inductive Scal:AV→Prop
 | int {k n}:Scal (.int k n)
 | bool {b}:Scal (.bool b)
 | str {s}:Scal (.str s)
theorem Scal.rel {w:World} {β β':Bm} {dd dd':Nat→Option Bool} {v:AV} {cv:Value} (h:Scal v) (hv:VRel w β dd v cv):VRel w β' dd' v cv:=by
 cases h <;> cases hv <;> constructor
theorem Own.rel {w:World} {β β':Bm} {dd dd':Nat→Option Bool} {v:AV} {cv:Value} (ho:Own v) (hn:∀ es cells n,v≠.lst true es cells n) (hv:VRel w β dd v cv):VRel w β' dd' v cv:=by
 cases ho with
 | int=>cases hv; exact .int
 | bool=>cases hv; exact .bool
 | str=>cases hv; exact .str
 | nils=>cases hv; exact .nils
 | lst=>exact absurd rfl (hn _ _ _)
section
variable {P:Program}
def RetV (P:Program) (rs:List ResultVar) (r:AV) (e:Go.Exit) (a:Asg) (H:AH):Prop:=(e=.normal∨e=.ret)∧∃ v ids,ares P a H rs=some v∧OutR H v r ids∧ids.Nodup
theorem A7.of {f:FuncId} {fn:Func} {c:Code} {ds:List AV} {r:AV} (hf:P.funcs[f]?=some fn) (hb:fn.body=some c) (hn:Nat.ble ds.length fn.ntmps=true)
  (h:SW P fn.ntmps 0 [] c (RetV P fn.results.toList r) (start 0 ds) []):A7 P f ds r :=
 A7.of_sw hf hb (Nat.le_of_ble_eq_true hn) h
theorem C5.embed {nw:Nat} {f:FuncId} {args args':List AV} {ks ks':List ABlk} {r:AV} {H H':AH} (ns:List Nat) (h:C5 P 0 f args' (ks.map some) r (ks'.map some)) (hnd:ns.Nodup) (hlk:ks.length=ns.length) (hlk':ks'.length=ns.length)
  (hns:∀ (i b:Nat),ns[i]?=some b→nw≤b∧H[b]?=some (ks[i]?)) (hcs:∀ k∈ks,∀ v∈k.cells,RefLt 0 v) (hcs':∀ k∈ks',∀ v∈k.cells,Own v) (hargs:F2 (Rn ns) args args') (hr:Scal r)
  (hH:H'.length=H.length) (hH1:∀ (i b:Nat),ns[i]?=some b→H'[b]?=some (ks'[i]?)) (hH2:∀ b,b ∉ ns→H'[b]?=H[b]?):C5 P nw f args H r H':=by
 intro base β w cargs s hb hrel
 have inj:∀ (i j b:Nat),ns[i]?=some b→ns[j]?=some b→i=j:=by
  intro i j b hi hj
  exact (List.getElem?_inj (qI hi).1 hnd).1 (hi.trans hj.symm)
 have hB:RnB ns H (ks.map some):=by
  intro i b hib
  have hi:=(qI hib).1
  have hk:ks[i]?=some ks[i]:=qG (by omega)
  refine .inl ⟨ks[i],ks[i],by rw [(hns i b hib).2,hk],by simp [hk],rfl,rfl,?_⟩
  intro j v u hv hu
  rw [hv] at hu; cases hu
  exact .inl ⟨rfl,hcs _ (qM hk) v (qM hv)⟩
 have s1:=s.ren ns hnd hB
 have harg:∀ {l l':List AV} {m:List Value},F2 (Rn ns) l l'→F2 (fun v cv=>VRel w β (dead H) v cv) l m→F2 (fun v cv=>VRel w (renB ns β) (dead (ks.map some)) v cv) l' m:=by
  intro l l' m h1
  induction h1 generalizing m with
  | nil=>intro h2; cases h2; exact .nil
  | cons h t ih=>intro h2; cases h2 with | cons h' t'=>exact .cons (VRel.rn hB h h') (ih t')
 refine (h base (renB ns β) w cargs s1 hb (harg hargs hrel)).mono ?_
 rintro e w' ⟨cv,β1,rfl,s2,hv,e1⟩
 let β':Bm:=fun b=>if b∈ns then β1 (ns.idxOf b) else β b
 have hidx:∀ (i b:Nat),ns[i]?=some b→ns.idxOf b=i:=by
  intro i b hi
  have hm:b∈ns:=qM hi
  have h1:=List.idxOf_lt_length_of_mem hm
  exact inj _ _ b (by rw [qG h1]; simp) hi
 have hin:∀ (i b:Nat),ns[i]?=some b→β' b=β1 i:=by
  intro i b hi
  simp only [β',qM hi,if_true,hidx i b hi]
 have hout:∀ b,b ∉ ns→β' b=β b:=by intro b hb; simp only [β',hb,if_false]
 have hren:∀ (i b:Nat),ns[i]?=some b→renB ns β i=β b:=by intro i b hi; unfold renB; rw [hi]
 have hlt:∀ {b:Nat},b∈ns→∃ i,ns[i]?=some b:=fun h=>List.getElem?_of_mem h
 have ext:Ext nw β H w β' H' w':=by
  refine ⟨by omega,?_,?_,?_,?_,e1.wsz,e1.os,e1.tape,e1.output,?_⟩
  ·intro b p hp k hk
   by_cases hm:b∈ns
   ·obtain ⟨i,hi⟩:=hlt hm
    rw [hH1 i b hi] at hk
    obtain ⟨p',hp',r⟩:=e1.keep i p (by rw [hren i b hi]; exact hp) k (by simpa using hk)
    exact ⟨p',by rw [hin i b hi]; exact hp',r⟩
   ·exact ⟨p,by rw [hout b hm]; exact hp,rfl,rfl,rfl⟩
  ·intro b p' hb' hp'
   by_cases hm:b∈ns
   ·obtain ⟨i,hi⟩:=hlt hm
    rw [hin i b hi] at hp'
    obtain ⟨p,hp,e⟩:=e1.old i p' (by simp; have:=(qI hi).1; omega) hp'
    exact ⟨p,by rw [← hren i b hi]; exact hp,e⟩
   ·rw [hout b hm] at hp'; exact ⟨p',hp',rfl⟩
  ·intro b hb'
   have hm:b ∉ ns:=by
    intro hm
    obtain ⟨i,hi⟩:=hlt hm
    have hi':=(qI hi).1
    rw [(hns i b hi).2,qG (by omega)] at hb'
    cases hb'
   rw [hH2 b hm]; exact hb'
  ·intro b p hp j hj
   by_cases hm:b∈ns
   ·obtain ⟨i,hi⟩:=hlt hm
    rw [hin i b hi] at hp
    rcases e1.own i p hp j hj with hf | ⟨i0,p0,h0,hj0,_⟩
    ·exact .inl hf
    ·obtain ⟨c,hc,hc'⟩:=M2 h0
     exact .inr ⟨c,p0,hc',hj0,.inr (hns i0 c hc).1⟩
   ·rw [hout b hm] at hp; exact .inr ⟨b,p,hp,hj,.inl rfl⟩
  ·intro k hk hf
   refine e1.frame k hk ?_
   intro i p _ hp
   obtain ⟨c,hc,hc'⟩:=M2 hp
   exact hf c p (hns i c hc).1 hc'
 have hold:∀ b p,b ∉ ns→β b=some p→∀ B∈p.B::p.fp,w'.heap[B]?=w.heap[B]?:=by
  intro b p hm hp B hB
  refine e1.frame B (s.ge b p hp B hB).2 ?_
  intro i q _ hq
  obtain ⟨c,hc,hc'⟩:=M2 hq
  exact s.disj b p c q hp hc' (fun e=>hm (e ▸ qM hc)) B hB
 refine ⟨cv,β',rfl,⟨?_,?_,?_,?_⟩,hr.rel hv,ext⟩
 ·intro b p hp
  by_cases hm:b∈ns
  ·obtain ⟨i,hi⟩:=hlt hm
   rw [hin i b hi] at hp
   obtain ⟨k,hk,hbr⟩:=s2.blk i p hp
   refine ⟨k,by rw [hH1 i b hi]; simpa using hk,?_⟩
   obtain ⟨h0,c,T,cvs,fps,h1,h2,h3,h4,h5⟩:=hbr
   refine ⟨h0,c,T,cvs,fps,h1,h2,h3,fun j v hj=>⟨(h4 j v hj).1,(h4 j v hj).2.1,?_⟩,h5⟩
   have hmem:k∈ks':=by
    have:some k∈ks'.map some:=qM hk
    simpa using this
   have ho:=hcs' k hmem v (qM hj)
   cases (h4 j v hj).2.2 with
   | own g gn=>exact .own g gn
   | shr g gn gf =>
    refine .shr ?_ gn gf
    exact ho.rel gn g
  ·rw [hout b hm] at hp
   obtain ⟨k,hk,hbr⟩:=s.blk b p hp
   exact ⟨k,by rw [hH2 b hm]; exact hk,hbr.ext s ext (hold b p hm hp)⟩
 ·intro b p hp
  by_cases hm:b∈ns
  ·obtain ⟨i,hi⟩:=hlt hm
   rw [hin i b hi] at hp
   exact s2.nodup i p hp
  ·rw [hout b hm] at hp; exact s.nodup b p hp
 ·intro b p hp
  by_cases hm:b∈ns
  ·obtain ⟨i,hi⟩:=hlt hm
   rw [hin i b hi] at hp
   exact s2.ge i p hp
  ·rw [hout b hm] at hp
   intro k hk
   exact ⟨(s.ge b p hp k hk).1,Nat.lt_of_lt_of_le (s.ge b p hp k hk).2 e1.wsz⟩
 ·have mix:∀ b p b' p',b∈ns→b' ∉ ns→β' b=some p→β' b'=some p'→∀ k∈p.B::p.fp,k ∉ p'.B::p'.fp:=by
   intro b p b' p' hm hm' hp hp' k hk hk'
   rw [hout b' hm'] at hp'
   obtain ⟨i,hi⟩:=hlt hm
   rw [hin i b hi] at hp
   rcases e1.own i p hp k hk with hf | ⟨i0,p0,h0,hj0,_⟩
   ·have:=(s.ge b' p' hp' k hk').2; omega
   ·obtain ⟨c,hc,hc'⟩:=M2 h0
    exact s.disj c p0 b' p' hc' hp' (fun e=>hm' (e ▸ qM hc)) k hj0 hk'
  intro b p b' p' hp hp' hne k hk hk'
  by_cases hm:b∈ns <;> by_cases hm':b'∈ns
  ·obtain ⟨i,hi⟩:=hlt hm
   obtain ⟨i',hi'⟩:=hlt hm'
   rw [hin i b hi] at hp
   rw [hin i' b' hi'] at hp'
   refine s2.disj i p i' p' hp hp' (fun e=>hne ?_) k hk hk'
   subst e
   rw [hi] at hi'; exact Option.some.inj hi'
  ·exact mix b p b' p' hm hm' hp hp' k hk hk'
  ·exact mix b' p' b p hm' hm hp' hp k hk' hk
  ·rw [hout b hm] at hp
   rw [hout b' hm'] at hp'
   exact s.disj b p b' p' hp hp' hne k hk hk'
end
end Go.Proofs.YtldndhdohlfpgaaGreat.V
/- Calls that are handed own blocks, and hand back new ones. -/
namespace Go.Proofs.YtldndhdohlfpgaaGreat.V
open Go Go.RowKit
inductive Rt (ns:List Nat) (ok:AV→Prop):AV→AV→Prop
 | int {k n}:Rt ns ok (.int k n) (.int k n)
 | bool {b}:Rt ns ok (.bool b) (.bool b)
 | str {s}:Rt ns ok (.str s) (.str s)
 | nils:Rt ns ok .nils .nils
 | pv {B off es cells n} (h:ok (.pv B off es cells n)):Rt ns ok (.pv B off es cells n) (.pv B off es cells n)
 | ptr {b b' off} (h:ns[b']?=some b):Rt ns ok (.ptr b off) (.ptr b' off)
 | sl {b b' off n} (h:ns[b']?=some b):Rt ns ok (.sl b off n) (.sl b' off n)
 | agg {vs us} (hl:vs.length=us.length) (h:∀ (i:Nat) v u,vs[i]?=some v→us[i]?=some u→Rt ns ok v u):Rt ns ok (.agg vs) (.agg us)
 | tup {vs us} (hl:vs.length=us.length) (h:∀ (i:Nat) v u,vs[i]?=some v→us[i]?=some u→Rt ns ok v u):Rt ns ok (.tup vs) (.tup us)
theorem Rt.rel {w:World} {β1 β':Bm} {d1 d':Nat→Option Bool} {ns:List Nat} {ok:AV→Prop} (hin:∀ b' b,ns[b']?=some b→β' b=β1 b'∧d' b=d1 b') (hok:∀ v cv,ok v→VRel w β1 d1 v cv→VRel w β' d' v cv) {v u:AV} (h:Rt ns ok v u):∀ {cv:Value},VRel w β1 d1 u cv→VRel w β' d' v cv:=by
 induction h with
 | int=>intro cv hv; cases hv; exact .int
 | bool=>intro cv hv; cases hv; exact .bool
 | str=>intro cv hv; cases hv; exact .str
 | nils=>intro cv hv; cases hv; exact .nils
 | pv h=>exact fun hv=>hok _ _ h hv
 | ptr h =>
  intro cv hv
  obtain ⟨e1,e2⟩:=hin _ _ h
  cases hv with
  | ptr hp=>exact .ptr (by rw [e1]; exact hp)
  | ptrd hd h1=>exact .ptrd (by rw [e2]; exact hd) h1
 | sl h =>
  intro cv hv
  obtain ⟨e1,e2⟩:=hin _ _ h
  cases hv with
  | sl hp hn hm hc=>exact .sl (by rw [e1]; exact hp) hn hm hc
  | sl0 hd=>exact .sl0 (by rw [e2]; exact hd)
  | sld hd h1=>exact .sld (by rw [e2]; exact hd) h1
 | agg hl h ih =>
  intro cv hv
  cases hv with
  | agg hs hr h1 =>
   refine .agg (by omega) ?_ h1
   intro i u cu hu hcu
   have hi:=(qI hu).1
   exact ih i u _ hu (qG (by omega)) (hr i _ cu (qG (by omega)) hcu)
 | tup hl h ih =>
  intro cv hv
  cases hv with
  | tup hs hr =>
   refine .tup (by omega) ?_
   intro i u cu hu hcu
   have hi:=(qI hu).1
   exact ih i u _ hu (qG (by omega)) (hr i _ cu (qG (by omega)) hcu)
theorem VRel.repin {w w':World} {β β1 β':Bm} {dd d1 d':Nat→Option Bool} (hβ:∀ B,B<w.heap.size→β.off B→β'.off B) {B off es n:Nat} {cells:List AV} (hs:∀ u∈cells,Scal u) {cv0 cv:Value} (h0:VRel w β dd (.pv B off es cells n) cv0) (h:VRel w' β1 d1 (.pv B off es cells n) cv):VRel w' β' d' (.pv B off es cells n) cv:=by
 cases h with
 | pv0=>exact .pv0
 | pv h =>
  cases h with
  | lst0=>exact .pv0
  | lst hl hn cvs hB hm hc hr =>
   cases h0 with
   | pv0=>exact .pv0
   | pv h0 =>
    cases h0 with
    | lst0=>exact .pv0
    | lst hl0 hn0 cvs0 hB0 hm0 hc0 hr0=>exact .pv (.lst hl hn cvs hB (hβ B hB0 hm0) hc fun i v hi=>(hs v (qM hi)).rel (hr i v hi))
theorem Ct {α:Type} {l:List α} {x:α} (h:x∈l):∃ i:Nat,l[i]?=some x:=List.getElem?_of_mem h
section
variable {P:Program}
theorem C5.embedN {nw:Nat} {f:FuncId} {args args':List AV} {ks ks' news:List ABlk} {r r':AV} {H H':AH} (ns:List Nat) (pins:List AV) (h:C5 P 0 f args' (ks.map some) r ((ks'++news).map some)) (hnd:ns.Nodup) (hlk:ks.length=ns.length) (hlk':ks'.length=ns.length)
  (hns:∀ (i b:Nat),ns[i]?=some b→nw≤b∧H[b]?=some (ks[i]?)) (hcs:∀ k∈ks,∀ v∈k.cells,RefLt 0 v) (hcs':∀ k∈ks'++news,∀ v∈k.cells,Own v∨v∈pins)
  (hp:∀ v∈pins,(∃ B off es cells n,v=.pv B off es cells n∧∀ u∈cells,Scal u)∧((∃ (i:Nat) (k:ABlk) (b off:Nat),ks[i]?=some k∧v∈k.cells∧ns[i]?=some b∧.ptr b off∈args)∨v∈args))
  (hargs:F2 (Rn ns) args args') (hr:Rt (ns++(List.range news.length).map (H.length+·)) (·∈pins) r' r)
  (hH1:∀ (i b:Nat),ns[i]?=some b→H'[b]?=some (ks'[i]?)) (hH2:∀ b,b<H.length→b ∉ ns→H'[b]?=H[b]?) (hH3:∀ i,i<news.length→H'[H.length+i]?=some (news[i]?)) (hHl:H.length≤H'.length):C5 P nw f args H r' H':=by
 intro base β w cargs s hb hrel
 have nslt:∀ b∈ns,b<H.length:=by
  intro b hm
  obtain ⟨i,hi⟩:=Ct hm
  exact (qI (hns i b hi).2).1
 have inj:∀ (i j b:Nat),ns[i]?=some b→ns[j]?=some b→i=j:=by
  intro i j b hi hj
  exact (List.getElem?_inj (qI hi).1 hnd).1 (hi.trans hj.symm)
 let ns':=ns++(List.range news.length).map (H.length+·)
 have hnd':ns'.Nodup:=by
  refine List.nodup_append.2 ⟨hnd,?_,?_⟩
  ·exact List.Pairwise.map _ (fun a b h e=>h (by omega)) List.nodup_range
  ·intro a ha b hb' e
   obtain ⟨i,_,rfl⟩:=List.mem_map.1 hb'
   have:=nslt a ha
   omega
 have inj':∀ (i j b:Nat),ns'[i]?=some b→ns'[j]?=some b→i=j:=by
  intro i j b hi hj
  exact (List.getElem?_inj (qI hi).1 hnd').1 (hi.trans hj.symm)
 have ns'get:∀ (i b:Nat),ns'[i]?=some b→(i<ns.length∧ns[i]?=some b)∨(ns.length≤i∧i - ns.length<news.length∧b=H.length+(i - ns.length)):=by
  intro i b hi
  by_cases hl:i<ns.length
  ·rw [List.getElem?_append_left hl] at hi; exact .inl ⟨hl,hi⟩
  ·rw [List.getElem?_append_right (by omega),List.getElem?_map] at hi
   have hlt:i - ns.length<news.length:=by
    refine Classical.byContradiction fun hn=>?_
    rw [List.getElem?_eq_none (by simp; omega)] at hi
    simp at hi
   rw [List.getElem?_range hlt] at hi
   simp at hi
   exact .inr ⟨by omega,hlt,hi.symm⟩
 have hHin:∀ (i b:Nat),ns'[i]?=some b→H'[b]?=some ((ks'++news)[i]?):=by
  intro i b hi
  rcases ns'get i b hi with ⟨hl,hi⟩ | ⟨hl,hl2,rfl⟩
  ·rw [List.getElem?_append_left (by omega)]; exact hH1 i b hi
  ·rw [List.getElem?_append_right (by omega),hlk']; exact hH3 _ hl2
 have hHlen:∀ (i b:Nat),ns'[i]?=some b→i<(ks'++news).length:=by
  intro i b hi
  rw [List.length_append]
  rcases ns'get i b hi with ⟨hl,_⟩ | ⟨hl,hl2,_⟩ <;> omega
 have old_in:∀ b:Nat,b<H.length→b∈ns'→∃ i:Nat,ns[i]?=some b∧ns'[i]?=some b:=by
  intro b hlt hm
  obtain ⟨i,hi⟩:=Ct hm
  rcases ns'get i b hi with ⟨hl,hi'⟩ | ⟨_,_,e⟩
  ·exact ⟨i,hi',hi⟩
  ·omega
 have hB:RnB ns H (ks.map some):=by
  intro i b hib
  have hi:=(qI hib).1
  have hk:ks[i]?=some ks[i]:=qG (by omega)
  refine .inl ⟨ks[i],ks[i],by rw [(hns i b hib).2,hk],by simp [hk],rfl,rfl,?_⟩
  intro j v u hv hu
  rw [hv] at hu; cases hu
  exact .inl ⟨rfl,hcs _ (qM hk) v (qM hv)⟩
 have s1:=s.ren ns hnd hB
 have harg:∀ {l l':List AV} {m:List Value},F2 (Rn ns) l l'→F2 (fun v cv=>VRel w β (dead H) v cv) l m→F2 (fun v cv=>VRel w (renB ns β) (dead (ks.map some)) v cv) l' m:=by
  intro l l' m h1
  induction h1 generalizing m with
  | nil=>intro h2; cases h2; exact .nil
  | cons h t ih=>intro h2; cases h2 with | cons h' t'=>exact .cons (VRel.rn hB h h') (ih t')
 have hpin:∀ v∈pins,∃ cv0,VRel w β (dead H) v cv0:=by
  intro v hv
  rcases (hp v hv).2 with ⟨i,k,b,o,hi,hc,hbn,hpt⟩ | ha
  ·have hHb:=(hns i b hbn).2
   rw [hi] at hHb
   obtain ⟨j,hj⟩:=Ct hc
   obtain ⟨m,hm⟩:=Ct hpt
   have hl:=hrel.len
   have hml:=(qI hm).1
   have hq:∃ p,β b=some p:=by
    have:=hrel.get m _ _ hm (qG (by omega))
    generalize cargs.toList[m]'(by omega)=cv at this
    cases this with
    | ptr hp=>exact ⟨_,hp⟩
    | ptrd hd=>exact absurd hd (Aa hHb)
   obtain ⟨p,hq⟩:=hq
   obtain ⟨k',hk',_,c,T,cvs,fps,_,_,_,h4,_⟩:=s.blk _ p hq
   rw [hHb] at hk'; cases hk'
   refine ⟨cvs j,?_⟩
   cases (h4 j v hj).2.2 with
   | shr g _ _=>exact g
   | own g _=>obtain ⟨⟨B,off,es,cells,n,rfl,hs⟩,_⟩:=hp v hv; cases g
  ·obtain ⟨j,hj⟩:=Ct ha
   have hl:=hrel.len
   have hjl:=(qI hj).1
   exact ⟨_,hrel.get j v _ hj (qG (by omega))⟩
 refine (h base (renB ns β) w cargs s1 hb (harg hargs hrel)).mono ?_
 rintro e w' ⟨cv,β1,rfl,s2,hv,e1⟩
 let β':Bm:=fun b=>if b∈ns' then β1 (ns'.idxOf b) else β b
 have hidx:∀ (i b:Nat),ns'[i]?=some b→ns'.idxOf b=i:=by
  intro i b hi
  have hm:b∈ns':=qM hi
  have h1:=List.idxOf_lt_length_of_mem hm
  exact inj' _ _ b (by rw [qG h1]; simp) hi
 have hin:∀ (i b:Nat),ns'[i]?=some b→β' b=β1 i:=by
  intro i b hi
  simp only [β',qM hi,if_true,hidx i b hi]
 have hout:∀ b,b ∉ ns'→β' b=β b:=by intro b hb; simp only [β',hb,if_false]
 have hren:∀ (i b:Nat),ns[i]?=some b→renB ns β i=β b:=by intro i b hi; unfold renB; rw [hi]
 have hdead:∀ (i b:Nat),ns'[i]?=some b→dead H' b=dead ((ks'++news).map some) i:=by
  intro i b hi
  have h1:=hHin i b hi
  have h2:=hHlen i b hi
  unfold dead
  rw [h1,List.getElem?_map,qG h2]
  rfl
 have ext:Ext nw β H w β' H' w':=by
  refine ⟨hHl,?_,?_,?_,?_,e1.wsz,e1.os,e1.tape,e1.output,?_⟩
  ·intro b p hp k hk
   by_cases hm:b∈ns'
   ·obtain ⟨i,hi,hi'⟩:=old_in b (s.lt hp) hm
    rw [hHin i b hi'] at hk
    obtain ⟨p',hp',r⟩:=e1.keep i p (by rw [hren i b hi]; exact hp) k (by rw [List.getElem?_map]; simpa using hk)
    exact ⟨p',by rw [hin i b hi']; exact hp',r⟩
   ·exact ⟨p,by rw [hout b hm]; exact hp,rfl,rfl,rfl⟩
  ·intro b p' hb' hp'
   by_cases hm:b∈ns'
   ·obtain ⟨i,hi,hi'⟩:=old_in b hb' hm
    rw [hin i b hi'] at hp'
    obtain ⟨p,hp,e⟩:=e1.old i p' (by simp; have:=(qI hi).1; omega) hp'
    exact ⟨p,by rw [← hren i b hi]; exact hp,e⟩
   ·rw [hout b hm] at hp'; exact ⟨p',hp',rfl⟩
  ·intro b hb'
   have hlt:=(qI hb').1
   have hm:b ∉ ns:=by
    intro hm
    obtain ⟨i,hi⟩:=Ct hm
    have hi':=(qI hi).1
    rw [(hns i b hi).2,qG (by omega)] at hb'
    cases hb'
   rw [hH2 b hlt hm]; exact hb'
  ·intro b p hp j hj
   by_cases hm:b∈ns'
   ·obtain ⟨i,hi⟩:=Ct hm
    rw [hin i b hi] at hp
    rcases e1.own i p hp j hj with hf | ⟨i0,p0,h0,hj0,_⟩
    ·exact .inl hf
    ·obtain ⟨c,hc,hc'⟩:=M2 h0
     exact .inr ⟨c,p0,hc',hj0,.inr (hns i0 c hc).1⟩
   ·rw [hout b hm] at hp; exact .inr ⟨b,p,hp,hj,.inl rfl⟩
  ·intro k hk hf
   refine e1.frame k hk ?_
   intro i p _ hp
   obtain ⟨c,hc,hc'⟩:=M2 hp
   exact hf c p (hns i c hc).1 hc'
 have hold:∀ b p,b ∉ ns'→β b=some p→∀ B∈p.B::p.fp,w'.heap[B]?=w.heap[B]?:=by
  intro b p hm hp B hB
  refine e1.frame B (s.ge b p hp B hB).2 ?_
  intro i q _ hq
  obtain ⟨c,hc,hc'⟩:=M2 hq
  exact s.disj b p c q hp hc' (fun e=>hm (e ▸ List.mem_append_left _ (qM hc))) B hB
 have hβ:∀ B,B<w.heap.size→β.off B→β'.off B:=fun B hB ho=>Bm.off_ext ext hB ho
 have hok:∀ v cv,v∈pins→VRel w' β1 (dead ((ks'++news).map some)) v cv→VRel w' β' (dead H') v cv:=by
  intro v cv hv hr
  obtain ⟨cv0,h0⟩:=hpin v hv
  obtain ⟨⟨B,off,es,cells,n,rfl,hs⟩,_⟩:=hp v hv
  exact VRel.repin hβ hs h0 hr
 have hpv:=hp
 refine ⟨cv,β',rfl,⟨?_,?_,?_,?_⟩,hr.rel (fun b' b hb'=>⟨hin b' b hb',hdead b' b hb'⟩) hok hv,ext⟩
 ·intro b p hp
  by_cases hm:b∈ns'
  ·obtain ⟨i,hi⟩:=Ct hm
   rw [hin i b hi] at hp
   obtain ⟨k,hk,hbr⟩:=s2.blk i p hp
   have hk':(ks'++news)[i]?=some k:=by
    rw [List.getElem?_map] at hk
    cases hq:(ks'++news)[i]? with
    | none=>rw [hq] at hk; cases hk
    | some q=>rw [hq] at hk; simpa using hk
   refine ⟨k,by rw [hHin i b hi,hk'],?_⟩
   obtain ⟨h0,c,T,cvs,fps,h1,h2,h3,h4,h5⟩:=hbr
   refine ⟨h0,c,T,cvs,fps,h1,h2,h3,fun j v hj=>⟨(h4 j v hj).1,(h4 j v hj).2.1,?_⟩,h5⟩
   have hmem:k∈ks'++news:=qM hk'
   rcases hcs' k hmem v (qM hj) with ho | ho
   ·cases (h4 j v hj).2.2 with
    | own g gn=>exact .own g gn
    | shr g gn gf =>
     refine .shr ?_ gn gf
     exact ho.rel gn g
   ·cases (h4 j v hj).2.2 with
    | own g gn=>obtain ⟨⟨B,off,es,cells,n,rfl,hs⟩,_⟩:=hpv v ho; cases g
    | shr g gn gf=>exact .shr (hok v _ ho g) gn gf
  ·rw [hout b hm] at hp
   obtain ⟨k,hk,hbr⟩:=s.blk b p hp
   have hlt:=s.lt hp
   exact ⟨k,by rw [hH2 b hlt (fun hc=>hm (List.mem_append_left _ hc))]; exact hk,hbr.ext s ext (hold b p hm hp)⟩
 ·intro b p hp
  by_cases hm:b∈ns'
  ·obtain ⟨i,hi⟩:=Ct hm
   rw [hin i b hi] at hp
   exact s2.nodup i p hp
  ·rw [hout b hm] at hp; exact s.nodup b p hp
 ·intro b p hp
  by_cases hm:b∈ns'
  ·obtain ⟨i,hi⟩:=Ct hm
   rw [hin i b hi] at hp
   exact s2.ge i p hp
  ·rw [hout b hm] at hp
   intro k hk
   exact ⟨(s.ge b p hp k hk).1,Nat.lt_of_lt_of_le (s.ge b p hp k hk).2 e1.wsz⟩
 ·have mix:∀ b p b' p',b∈ns'→b' ∉ ns'→β' b=some p→β' b'=some p'→∀ k∈p.B::p.fp,k ∉ p'.B::p'.fp:=by
   intro b p b' p' hm hm' hp hp' k hk hk'
   rw [hout b' hm'] at hp'
   obtain ⟨i,hi⟩:=Ct hm
   rw [hin i b hi] at hp
   rcases e1.own i p hp k hk with hf | ⟨i0,p0,h0,hj0,_⟩
   ·have:=(s.ge b' p' hp' k hk').2; omega
   ·obtain ⟨c,hc,hc'⟩:=M2 h0
    exact s.disj c p0 b' p' hc' hp' (fun e=>hm' (e ▸ List.mem_append_left _ (qM hc))) k hj0 hk'
  intro b p b' p' hp hp' hne k hk hk'
  by_cases hm:b∈ns' <;> by_cases hm':b'∈ns'
  ·obtain ⟨i,hi⟩:=Ct hm
   obtain ⟨i',hi'⟩:=Ct hm'
   rw [hin i b hi] at hp
   rw [hin i' b' hi'] at hp'
   refine s2.disj i p i' p' hp hp' (fun e=>hne ?_) k hk hk'
   subst e
   rw [hi] at hi'; exact Option.some.inj hi'
  ·exact mix b p b' p' hm hm' hp hp' k hk hk'
  ·exact mix b' p' b p hm' hm hp' hp k hk' hk
  ·rw [hout b hm] at hp
   rw [hout b' hm'] at hp'
   exact s.disj b p b' p' hp hp' hne k hk hk'
end
end Go.Proofs.YtldndhdohlfpgaaGreat.V
