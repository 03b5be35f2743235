/- The machine of values, part B. -/
import Derived.Test.YtldndhdohlfpgaaGreatXA
/- Stores, and blocks that take over what another one held. -/
namespace Go.Proofs.YtldndhdohlfpgaaGreat.V
open Go
def Bm.mv (β:Bm) (kill:Option Nat) (n:Nat) (q:Loc):Bm:=fun b=>if b=n then some q else if some b=kill then none else β b
def killed (H:AH):Option Nat→AH
 | none=>H
 | some b=>H.set b none
theorem L5 (H:AH) (k:Option Nat):(killed H k).length=H.length:=by cases k <;> simp [killed]
theorem Pu (H:AH) (k:Option Nat) (b:Nat) (h:some b≠k):(killed H k)[b]?=H[b]?:=by
 cases k with
 | none=>rfl
 | some c =>
  have:c≠b:=fun e=>h (by rw [e])
  simp [killed,List.getElem?_set_ne this]
theorem Wg (H:AH) (k:Option Nat) (b:Nat) (h:H[b]?=some none):(killed H k)[b]?=some none:=by
 by_cases hb:some b=k
 ·subst hb
  simp [killed,(qI h).1]
 ·rw [Pu H k b hb]; exact h
theorem Ext.mv {nw:Nat} {β:Bm} {H:AH} {w w':World} {kill:Option Nat} {q:Loc} {k:ABlk} (hlt:∀ b p,β b=some p→b<H.length) (hsz:w.heap.size≤w'.heap.size) (hos:w'.os=w.os) (ht:w'.tape=w.tape) (ho:w'.output=w.output)
  (hf:∀ j,j<w.heap.size→(∀ b p,nw≤b→β b=some p→j ∉ p.B::p.fp)→w'.heap[j]?=w.heap[j]?) (hq:∀ j∈q.B::q.fp,w.heap.size≤j∨∃ b0 p0,β b0=some p0∧j∈p0.B::p0.fp∧nw≤b0) :
  Ext nw β H w (β.mv kill H.length q) (killed H kill++[some k]) w' where
 len:=by simp [L5]
 keep:=by
  intro b p hp k' hk'
  have hb:=hlt b p hp
  have hne:b≠H.length:=by omega
  rw [List.getElem?_append_left (by rw [L5]; exact hb)] at hk'
  have hkl:some b≠kill:=by
   intro e
   subst e
   simp [killed,hb] at hk'
  exact ⟨p,by simp [Bm.mv,hne,hkl,hp],rfl,rfl,rfl⟩
 old:=by
  intro b p' hb hp'
  simp only [Bm.mv] at hp'
  rw [if_neg (by omega)] at hp'
  split at hp'
  ·cases hp'
  ·exact ⟨p',hp',rfl⟩
 dead:=by
  intro b hb
  have hlt':=(qI hb).1
  rw [List.getElem?_append_left (by rw [L5]; exact hlt')]
  exact Wg H kill b hb
 own:=by
  intro b p hp j hj
  simp only [Bm.mv] at hp
  split at hp
  ·simp only [qS] at hp
   subst hp
   rcases hq j hj with h | ⟨b0,p0,h0,h1,h2⟩
   ·exact .inl h
   ·exact .inr ⟨b0,p0,h0,h1,.inr h2⟩
  ·split at hp
   ·cases hp
   ·exact .inr ⟨b,p,hp,hj,.inl rfl⟩
 wsz:=hsz
 os:=hos
 tape:=ht
 output:=ho
 frame:=hf
theorem SRel.mv {base nw:Nat} {β:Bm} {H:AH} {w w':World} {kill:Option Nat} {q:Loc} {k:ABlk} (s:SRel base β H w) (e:Ext nw β H w (β.mv kill H.length q) (killed H kill++[some k]) w')
  (hsame:∀ b p,β b=some p→some b≠kill→∀ B∈p.B::p.fp,w'.heap[B]?=w.heap[B]?) (hb:BRel w' (β.mv kill H.length q) (dead (killed H kill++[some k])) k q) (hnd:(q.B::q.fp).Nodup)
  (hge:∀ B∈q.B::q.fp,base≤B∧B<w'.heap.size) (hdj:∀ b p,β b=some p→some b≠kill→∀ B∈p.B::p.fp,B ∉ q.B::q.fp) :
  SRel base (β.mv kill H.length q) (killed H kill++[some k]) w':=by
 have cases':∀ b p,(β.mv kill H.length q) b=some p→(b=H.length∧p=q)∨(b≠H.length∧some b≠kill∧β b=some p):=by
  intro b p hp
  simp only [Bm.mv] at hp
  split at hp
  ·rename_i hb; simp only [qS] at hp; exact .inl ⟨hb,hp.symm⟩
  ·rename_i hb
   split at hp
   ·cases hp
   ·rename_i hk; exact .inr ⟨hb,hk,hp⟩
 refine ⟨?_,?_,?_,?_⟩
 ·intro b p hp
  rcases cases' b p hp with ⟨rfl,rfl⟩ | ⟨hb1,hk,hp'⟩
  ·exact ⟨k,by rw [List.getElem?_append_right (by rw [L5]; omega)]; simp [L5],hb⟩
  ·obtain ⟨k1,hk1,hbr⟩:=s.blk b p hp'
   refine ⟨k1,?_,hbr.ext s e (hsame b p hp' hk)⟩
   rw [List.getElem?_append_left (by rw [L5]; exact s.lt hp'),Pu H kill b hk]
   exact hk1
 ·intro b p hp
  rcases cases' b p hp with ⟨rfl,rfl⟩ | ⟨_,_,hp'⟩
  ·exact hnd
  ·exact s.nodup b p hp'
 ·intro b p hp B hB
  rcases cases' b p hp with ⟨rfl,rfl⟩ | ⟨_,_,hp'⟩
  ·exact hge B hB
  ·have:=s.ge b p hp' B hB
   exact ⟨this.1,Nat.lt_of_lt_of_le this.2 e.wsz⟩
 ·intro b p b' p' hp hp' hne B hB hB'
  rcases cases' b p hp with ⟨rfl,rfl⟩ | ⟨_,hk1,h1⟩ <;> rcases cases' b' p' hp' with ⟨rfl,rfl⟩ | ⟨_,hk2,h2⟩
  ·exact hne rfl
  ·exact hdj b' p' h2 hk2 B hB' hB
  ·exact hdj b p h1 hk1 B hB hB'
  ·exact s.disj b p b' p' h1 h2 hne B hB hB'
theorem Ld {α:Type} (f g:α→List Nat) (h:∀ x,g x=f x∨g x=[]):∀ l:List α,(l.flatMap g).Sublist (l.flatMap f)
 | []=>by simp
 | x::l=>by
  simp only [List.flatMap_cons]
  rcases h x with e | e
  ·rw [e]; exact (List.Sublist.refl _).append (Ld f g h l)
  ·rw [e]; simpa using (Ld f g h l).trans (List.sublist_append_right _ _)
def astore (P:Program) (nw:Nat) (H:AH) (T:TypeId) (x v:AV):Option AH :=
 match x with
 | .ptr b off=>match H[b]? with
  | some (some k)=>if nw≤b∧(v.one||v.isAgg)=true∧v.cells.length=szT P T∧hasT P T=true∧off+szT P T≤k.cells.length then some (H.set b (some { k with cells:=splice k.cells off (v.cells.map AV.strip) })) else none
  | _=>none
 | _=>none
section
variable {P:Program} {w:World} {β:Bm} {H:AH} {base nw:Nat}
theorem Pd {cells vs:List AV} {off:Nat} (h:off+vs.length≤cells.length):(splice cells off vs).length=cells.length:=by
 simp only [splice,List.length_append,List.length_take,List.length_drop]
 omega
theorem A5p {cells vs:List AV} {off i:Nat} (h:off+vs.length≤cells.length) (h1:off≤i) (h2:i<off+vs.length):(splice cells off vs)[i]?=vs[i - off]?:=by
 unfold splice
 have hl:(cells.take off).length=off:=by simp; omega
 rw [List.append_assoc,List.getElem?_append_right (by omega),hl,List.getElem?_append_left (by omega)]
theorem A45 {cells vs:List AV} {off i:Nat} (h:off+vs.length≤cells.length) (h1:i<off∨off+vs.length≤i):(splice cells off vs)[i]?=cells[i]?:=by
 unfold splice
 have hl:(cells.take off).length=off:=by simp; omega
 rcases h1 with h1 | h1
 ·rw [List.append_assoc,List.getElem?_append_left (by omega),List.getElem?_take,if_pos h1]
 ·rw [List.getElem?_append_right (by rw [List.length_append]; omega),List.length_append,hl,List.getElem?_drop]
  congr 1; omega
theorem A24 {T:TypeId} {x v:AV} {H':AH} {cx cv:Value} (s:SRel base β H w) (h:astore P nw H T x v=some H') (hx:VRel w β (dead H) x cx) (hv:VRel w β (dead H) v cv) :
  ∃ w' β',(Instr.storeAt T cx cv).run P w=.ok () w'∧SRel base β' H' w'∧Ext nw β H w β' H' w':=by
 unfold astore at h
 split at h
 ·rename_i b off
  split at h
  ·rename_i k hk
   split at h
   ·rename_i hc
    obtain ⟨hnw,hone,hlen,hT,hoff⟩:=hc
    simp only [qS] at h
    subst h
    obtain ⟨p,hp,rfl⟩:=Rx hx (Aa hk)
    have hone':v.one=true∨∃ cs,v=.agg cs:=by
     simp only [Bool.or_eq_true] at hone
     rcases hone with c3 | c3
     ·exact .inl c3
     ·cases v <;> simp [AV.isAgg] at c3
      exact .inr ⟨_,rfl⟩
    have hl:=hv.cells hone'
    have hcl:cv.cells.size=szT P T:=by rw [← hlen,hl.len]; simp
    obtain ⟨k',hk',hes,c,Tc,cvs,fps,hcb,hcs,hkl,hcc,hfp⟩:=s.blk b p hp
    rw [hk] at hk'
    cases hk'
    have hvl:(v.cells.map AV.strip).length=szT P T:=by simp [hlen]
    have hrun:=run_storeCells_at (P:=P) p.B off Tc cv.cells.toList 0 c w hcb (by simp; omega) hl.one
    simp only [Nat.add_zero] at hrun
    let c':Array Value:=(c.toList.take off++cv.cells.toList++c.toList.drop (off+cv.cells.toList.length)).toArray
    let w':=w.setRow p.B c'
    have hw'B:w'.heap[p.B]?=some (.cells c' Tc (0,0)):=setRow_heap w p.B c c' Tc (0,0) hcb
    have hw'o:∀ j,j≠p.B→w'.heap[j]?=w.heap[j]?:=fun j hj=>setRow_other w p.B j c' hj
    let fps':Nat→List Nat:=fun i=>if off≤i∧i<off+szT P T then [] else fps i
    let q:Loc:={ p with fp:=(List.range k.cells.length).flatMap fps' }
    let β':Bm:=fun b'=>if b'=b then some q else β b'
    have hsub:q.fp.Sublist p.fp:=by
     rw [hfp]
     exact Ld fps fps' (fun i=>by simp only [fps']; split <;> simp) _
    have hblt:b<H.length:=s.lt hp
    have hset:∀ b',b'≠b→(H.set b (some { k with cells:=splice k.cells off (v.cells.map AV.strip) }))[b']?=H[b']?:=fun b' hb'=>List.getElem?_set_ne (fun e=>hb' e.symm)
    have e:Ext nw β H w β' (H.set b (some { k with cells:=splice k.cells off (v.cells.map AV.strip) })) w':=by
     refine ⟨by simp,?_,?_,?_,?_,by simp [w'],rfl,rfl,rfl,?_⟩
     ·intro b' p' hp' k' _
      by_cases hb':b'=b
      ·subst hb'
       rw [hp] at hp'; cases hp'
       exact ⟨q,by simp [β'],rfl,rfl,rfl⟩
      ·exact ⟨p',by simp [β',hb',hp'],rfl,rfl,rfl⟩
     ·intro b' p' _ hp'
      by_cases hb':b'=b
      ·subst hb'
       simp only [β',if_true,qS] at hp'
       subst hp'
       exact ⟨p,hp,rfl⟩
      ·simp only [β',hb',if_false] at hp'
       exact ⟨p',hp',rfl⟩
     ·intro b' hb'
      have hne:b'≠b:=by intro e; subst e; rw [hk] at hb'; cases hb'
      rw [hset b' hne]; exact hb'
     ·intro b' p' hp' j hj
      by_cases hb':b'=b
      ·subst hb'
       simp only [β',if_true,qS] at hp'
       subst hp'
       exact .inr ⟨_,p,hp,(List.Sublist.cons_cons p.B hsub).subset hj,.inl rfl⟩
      ·simp only [β',hb',if_false] at hp'
       exact .inr ⟨b',p',hp',hj,.inl rfl⟩
     ·intro j hj hf
      exact hw'o j (fun e=>hf b p hnw hp (by rw [e]; simp))
    refine ⟨w',β',?_,?_,e⟩
    ·simp only [Instr.storeAt,Instr.sureAddr,Sem.run_bind,Sem.run_pure,Result.andThen_ok,storeVar,V4 hT,hcl,ne_eq,not_true_eq_false,if_false]
     exact hrun
    ·refine ⟨?_,?_,?_,?_⟩
     ·intro b' p' hp'
      by_cases hb':b'=b
      ·subst hb'
       simp only [β',if_true,qS] at hp'
       subst hp'
       refine ⟨{ k with cells:=splice k.cells off (v.cells.map AV.strip) },by simp [hblt],hes,c',Tc,fun i=>c'.getD i undef,fps',hw'B,?_,?_,?_,?_⟩
       ·simp only [c',List.size_toArray,List.length_append,List.length_take,List.length_drop,Array.length_toList]
        show _=p.sz
        omega
       ·show (splice k.cells off (v.cells.map AV.strip)).length≤p.sz
        rw [Pd (by rw [hvl]; exact hoff)]
        exact hkl
       ·intro i u hu
        have hsl:off+(v.cells.map AV.strip).length≤k.cells.length:=by rw [hvl]; exact hoff
        have hcsz:k.cells.length≤c.size:=by rw [hcs]; exact hkl
        by_cases hin:off≤i∧i<off+szT P T
        ·have hu':(v.cells.map AV.strip)[i - off]?=some u:=by
          rw [← A5p hsl hin.1 (by rw [hvl]; exact hin.2)]; exact hu
         obtain ⟨cu,h1,h2,h3⟩:=hl.strip.get hu'
         have hci:c'[i]?=some cu:=by
          have hlt:(c.toList.take off).length=off:=by simp; omega
          simp only [c',List.getElem?_toArray]
          rw [List.append_assoc,List.getElem?_append_right (by omega),hlt,List.getElem?_append_left (by simp; omega)]
          exact h1
         have hcd:c'.getD i undef=cu:=by simp [Array.getD_eq_getD_getElem?,hci]
         simp only [hcd,fps',hin,and_self,if_true]
         refine ⟨hci,h3,.shr (h2.ext s e) ?_ rfl⟩
         have:=qM hu'
         simp only [List.mem_map] at this
         obtain ⟨u0,_,rfl⟩:=this
         exact AV.strip_ne u0
        ·have hu':k.cells[i]?=some u:=by
          rw [← A45 hsl (by rw [hvl]; omega)]; exact hu
         obtain ⟨h1,h2,h3⟩:=hcc i u hu'
         have hci:c'[i]?=some (cvs i):=by
          have hlt:(c.toList.take off).length=off:=by simp; omega
          have hil:i<k.cells.length:=(qI hu').1
          simp only [c',List.getElem?_toArray]
          rcases Nat.lt_or_ge i off with hlo | hlo
          ·rw [List.append_assoc,List.getElem?_append_left (by omega),List.getElem?_take,if_pos hlo]
           simpa using h1
          ·rw [List.getElem?_append_right (by simp; omega),List.length_append,hlt,List.getElem?_drop]
           have:off+cv.cells.toList.length+(i - (off+cv.cells.toList.length))=i:=by simp; omega
           rw [this]
           simpa using h1
         have hcd:c'.getD i undef=cvs i:=by simp [Array.getD_eq_getD_getElem?,hci]
         simp only [hcd,fps',hin,if_false]
         refine ⟨hci,h2,?_⟩
         cases h3 with
         | own g ho =>
          refine .own (g.ext fun B hB=>hw'o B ?_) ho
          intro eB
          have hmem:B∈p.fp:=by
           rw [hfp]
           exact List.mem_flatMap.2 ⟨i,List.mem_range.2 (qI hu').1,hB⟩
          have:=s.nodup _ p hp
          rw [List.nodup_cons] at this
          exact this.1 (eB ▸ hmem)
         | shr g hn hf=>exact .shr (g.ext s e) hn hf
       ·show (List.range k.cells.length).flatMap fps'=(List.range (splice k.cells off (v.cells.map AV.strip)).length).flatMap fps'
        rw [Pd (by rw [hvl]; exact hoff)]
      ·simp only [β',hb',if_false] at hp'
       obtain ⟨k1,hk1,hbr⟩:=s.blk b' p' hp'
       refine ⟨k1,by rw [hset b' hb']; exact hk1,hbr.ext s e ?_⟩
       intro B hB
       refine hw'o B fun eB=>?_
       exact s.disj b' p' b p hp' hp hb' B hB (by rw [eB]; simp)
     ·intro b' p' hp'
      by_cases hb':b'=b
      ·subst hb'
       simp only [β',if_true,qS] at hp'
       subst hp'
       exact (s.nodup _ p hp).sublist (List.Sublist.cons_cons _ hsub)
      ·simp only [β',hb',if_false] at hp'
       exact s.nodup b' p' hp'
     ·intro b' p' hp' B hB
      have hsz:w'.heap.size=w.heap.size:=by simp [w']
      rw [hsz]
      by_cases hb':b'=b
      ·subst hb'
       simp only [β',if_true,qS] at hp'
       subst hp'
       exact s.ge _ p hp B ((List.Sublist.cons_cons p.B hsub).subset hB)
      ·simp only [β',hb',if_false] at hp'
       exact s.ge b' p' hp' B hB
     ·intro b1 p1 b2 p2 hp1 hp2 hne B hB1 hB2
      have hsub':∀ b' p',β' b'=some p'→∃ p0,β b'=some p0∧∀ B∈p'.B::p'.fp,B∈p0.B::p0.fp:=by
       intro b' p' hp'
       by_cases hb':b'=b
       ·subst hb'
        simp only [β',if_true,qS] at hp'
        subst hp'
        exact ⟨p,hp,fun B hB=>(List.Sublist.cons_cons p.B hsub).subset hB⟩
       ·simp only [β',hb',if_false] at hp'
        exact ⟨p',hp',fun B hB=>hB⟩
      obtain ⟨q1,hq1,i1⟩:=hsub' b1 p1 hp1
      obtain ⟨q2,hq2,i2⟩:=hsub' b2 p2 hp2
      exact s.disj b1 q1 b2 q2 hq1 hq2 hne B (i1 B hB1) (i2 B hB2)
   ·cases h
  ·cases h
 ·cases h
end
end Go.Proofs.YtldndhdohlfpgaaGreat.V
/- append. -/
namespace Go.Proofs.YtldndhdohlfpgaaGreat.V
open Go
def acont (H:AH) (sz:Nat) (x:AV):Option (Nat×List AV) :=
 match x with
 | .nils=>some (0,[])
 | .lst _ es cells m=>if es=sz then some (m,cells) else none
 | .sl c off m=>match H[c]? with
  | some (some k)=>if k.es=sz∧off+m*sz≤k.cells.length then some (m,((k.cells.map AV.hide).drop off).take (m*sz)) else none
  | _=>none
 | _=>none
def abase (nw:Nat) (H:AH) (sz:Nat) (s:AV):Option (Nat×List AV×Option Nat) :=
 match s with
 | .nils=>some (0,[],none)
 | .sl b 0 n=>match H[b]? with
  | some (some k)=>if nw≤b∧k.es=sz∧k.cells.length=n*sz then some (n,k.cells,some b) else none
  | _=>none
 | _=>none
def aappend (P:Program) (nw:Nat) (H:AH) (T:TypeId) (s x:AV):Option (AV×AH) :=
 match elT P T with
 | some e=>match zeroT P e with
  | some z=>if hasT P e=true∧z.length=szT P e∧0<szT P e then
    match abase nw H (szT P e) s,acont H (szT P e) x with
    | some (n,cells,kill),some (m,xs)=>if n+m≤1099511627776∧(n+m)*byT P e≤140737488355328 then some (.sl H.length 0 (n+m),killed H kill++[some ⟨cells++xs.map AV.strip,szT P e⟩]) else none
    | _,_=>none
   else none
  | none=>none
 | none=>none
section
variable {P:Program} {w:World} {β:Bm} {H:AH} {base nw:Nat}
theorem Zr {sz:Nat} {x:AV} {cx:Value} {m:Nat} {xs:List AV} (s:SRel base β H w) (h:acont H sz x=some (m,xs)) (hx:VRel w β (dead H) x cx) :
  (m=0∧xs=[]∧∃ A cap,cx=.slice A 0 cap)∨(0<m∧xs.length=m*sz∧∃ A cap ccs,cx=.slice (some A) m cap∧LRel w β (dead H) xs ccs∧∀ j u,ccs[j]?=some u→w.cell? (A.add j)=some u):=by
 have mk:∀ (cells:List AV) (A:Addr),(∀ (i:Nat) v,cells[i]?=some v→∃ cv,w.cell? (A.add i)=some cv∧cv.oneCell'=true∧VRel w β (dead H) v cv)→∃ ccs,LRel w β (dead H) cells ccs∧∀ j u,ccs[j]?=some u→w.cell? (A.add j)=some u:=by
  intro cells A hc
  refine ⟨(List.range cells.length).map fun i=>(w.cell? (A.add i)).getD undef,⟨by simp,?_,?_⟩,?_⟩
  ·intro i v cv hv hcv
   have hi:=(qI hv).1
   obtain ⟨cu,h1,_,h3⟩:=hc i v hv
   simp [hi,h1] at hcv
   subst hcv
   exact h3
  ·intro cv hcv
   simp only [List.mem_map,List.mem_range] at hcv
   obtain ⟨i,hi,rfl⟩:=hcv
   obtain ⟨cu,h1,h2,_⟩:=hc i cells[i] (qG hi)
   rw [h1]; exact h2
  ·intro j u hu
   have hj:j<cells.length:=by have:=(qI hu).1; simpa using this
   obtain ⟨cu,h1,_,_⟩:=hc j cells[j] (qG hj)
   simp [hj,h1] at hu
   subst hu
   exact h1
 unfold acont at h
 split at h
 ·simp only [qS,Prod.mk.injEq] at h
  obtain ⟨rfl,rfl⟩:=h
  cases hx
  exact .inl ⟨rfl,rfl,_,_,rfl⟩
 ·rename_i o es cells m'
  split at h
  ·rename_i he
   simp only [qS,Prod.mk.injEq] at h
   obtain ⟨rfl,rfl⟩:=h
   subst he
   cases hx with
   | lst0=>exact .inl ⟨rfl,rfl,_,_,rfl⟩
   | lst hl hn cvs hB hm hc hr =>
    rename_i B off cap
    rcases Nat.eq_zero_or_pos m' with h0 | h0
    ·subst h0
     exact .inl ⟨rfl,List.eq_nil_of_length_eq_zero (by simpa using hl),_,_,rfl⟩
    ·obtain ⟨ccs,h1,h2⟩:=mk cells ⟨B,off,none⟩ (fun i v hi=>⟨cvs i,by rw [addAddr]; exact (hc i v hi).1,(hc i v hi).2,hr i v hi⟩)
     exact .inr ⟨h0,hl,_,_,ccs,rfl,h1,h2⟩
  ·cases h
 ·rename_i c off m'
  split at h
  ·rename_i k hk
   split at h
   ·rename_i hc
    obtain ⟨h1,h2⟩:=hc
    simp only [qS,Prod.mk.injEq] at h
    obtain ⟨rfl,rfl⟩:=h
    rcases Nat.eq_zero_or_pos m' with h0 | h0
    ·subst h0
     refine .inl ⟨rfl,by simp,?_⟩
     cases hx with
     | sl=>exact ⟨_,_,rfl⟩
     | sl0=>exact ⟨_,_,rfl⟩
     | sld hd=>exact absurd hd (Aa hk)
    ·cases hx with
     | sl hp hn hm hcap =>
      rename_i p cap
      obtain ⟨ccs,g1,g2⟩:=mk (((k.cells.map AV.hide).drop off).take (m'*sz)) ⟨p.B,off,none⟩ (fun i v hi=>by
       rw [List.getElem?_take] at hi
       split at hi
       ·rw [List.getElem?_drop] at hi
        obtain ⟨cv,q1,q2,q3⟩:=s.cell hp hk hi
        exact ⟨cv,by rw [addAddr]; exact q1,q2,q3⟩
       ·cases hi)
      exact .inr ⟨h0,by simp; omega,_,_,ccs,rfl,g1,g2⟩
     | sl0=>omega
     | sld hd=>exact absurd hd (Aa hk)
   ·cases h
  ·cases h
 ·cases h
theorem Gi (t ty e:TypeId) (ht:P.underlying t=some (.slice e)) (he:hasT P e=true) (b A:Option Addr) (n cap c:Nat) (hn:n≤cap) :
  (Builtin.append_ #[t,t] ty #[.slice b n cap,.slice A 0 c]).run P w=.ok (.slice b n cap) w:=by
 obtain ⟨i,hi⟩:=Option.isSome_iff_exists.1 (show (P.info? e).isSome=true from he)
 cases A <;> cases b <;> simp [Builtin.append_,run_underlying ht,sizeOf,typeInfo,hi,Builtin.lenOf,Builtin.firstCells,hn,loadCells,loadCellsFrom,storeCells]
theorem Uv (t ty e:TypeId) (ht:P.underlying t=some (.slice e)) (he:hasT P e=true)
  (g sLen sCap:Nat) (cur:Array Value) (T:TypeId) (hg:w.heap[g]?=some (.cells cur T (0,0)))
  (a:Addr) (m c:Nat) (news:List Value) (hl:news.length=m*szT P e) (hnews:∀ j v,news[j]?=some v→w.cell? (a.add j)=some v) (h1:∀ u∈news,u.oneCell'=true)
  (hroom:sLen+m≤sCap) (hfit:sLen*szT P e+news.length≤cur.size) :
  (Builtin.append_ #[t,t] ty #[.slice (some ⟨g,0,none⟩) sLen sCap,.slice (some a) m c]).run P w =
   .ok (.slice (some ⟨g,0,none⟩) (sLen+m) sCap) (w.setRow g (cur.toList.take (sLen*szT P e)++news++cur.toList.drop (sLen*szT P e+news.length)).toArray):=by
 obtain ⟨i,hi⟩:=Option.isSome_iff_exists.1 (show (P.info? e).isSome=true from he)
 have hsz:szT P e=i.size:=by simp [szT,hi]
 rw [hsz] at hl hfit ⊢
 have hf:=run_firstCells_some (P:=P) w i.size m a m c news hl hnews
 have hst:=run_storeCells_at P g (sLen*i.size) T news 0 cur w hg (by simpa using hfit) h1
 simp only [Nat.add_zero] at hst
 simp [Builtin.append_,run_underlying ht,sizeOf,typeInfo,hi,Builtin.lenOf,hroom,hf,Addr.add_lit,hst]
theorem Ts (a b:Nat) (f g:Nat→List Nat) (h1:∀ i,i<a→g i=f i) (h2:∀ i,a≤i→g i=[]):(List.range (a+b)).flatMap g=(List.range a).flatMap f:=by
 rw [List.range_add,List.flatMap_append]
 have e1:(List.range a).flatMap g=(List.range a).flatMap f:=by
  rw [List.flatMap_def,List.flatMap_def]
  congr 1
  apply List.map_congr_left
  intro i hi
  exact h1 i (List.mem_range.1 hi)
 have e2:((List.range b).map (a+·)).flatMap g=[]:=by
  rw [List.flatMap_eq_nil_iff]
  intro i hi
  simp only [List.mem_map,List.mem_range] at hi
  obtain ⟨j,_,rfl⟩:=hi
  exact h2 _ (by omega)
 rw [e1,e2,List.append_nil]
end
end Go.Proofs.YtldndhdohlfpgaaGreat.V
/- append, all ways. -/
namespace Go.Proofs.YtldndhdohlfpgaaGreat.V
open Go
theorem A12 {w':World} {β':Bm} {dd':Nat→Option Bool} {cells xs:List AV} {news:List Value} {c':Array Value} {T':TypeId} {q:Loc} {cvs:Nat→Value} {fps:Nat→List Nat} {es:Nat}
  (hold:∀ (i:Nat) v,cells[i]?=some v→c'[i]?=some (cvs i)∧(cvs i).oneCell'=true∧CRel w' β' dd' v (cvs i) (fps i)) (hnews:LRel w' β' dd' (xs.map AV.strip) news) (hpos:∀ (j:Nat) u,news[j]?=some u→c'[cells.length+j]?=some u)
  (hB:w'.heap[q.B]?=some (.cells c' T' (0,0))) (hsz:c'.size=q.sz) (hlen:cells.length+xs.length≤c'.size) (hes:es=q.es) (hfp:q.fp=(List.range cells.length).flatMap fps):BRel w' β' dd' ⟨cells++xs.map AV.strip,es⟩ q:=by
 refine ⟨hes,c',T',fun i=>c'.getD i undef,fun i=>if i<cells.length then fps i else [],hB,hsz,by simp; omega,?_,?_⟩
 ·intro i v hv
  by_cases hi:i<cells.length
  ·have hv':cells[i]?=some v:=by
    have:(cells++xs.map AV.strip)[i]?=some v:=hv
    rwa [List.getElem?_append_left hi] at this
   obtain ⟨h1,h2,h3⟩:=hold i v hv'
   have e:c'.getD i undef=cvs i:=by simp [Array.getD_eq_getD_getElem?,h1]
   simp only [e,hi,if_true]
   exact ⟨h1,h2,h3⟩
  ·have hv':(xs.map AV.strip)[i - cells.length]?=some v:=by
    have:(cells++xs.map AV.strip)[i]?=some v:=hv
    rwa [List.getElem?_append_right (by omega)] at this
   obtain ⟨cv,h1,h2,h3⟩:=hnews.get hv'
   have h4:=hpos _ cv h1
   have hi':cells.length+(i - cells.length)=i:=by omega
   rw [hi'] at h4
   have e:c'.getD i undef=cv:=by simp [Array.getD_eq_getD_getElem?,h4]
   simp only [e,hi,if_false]
   refine ⟨h4,h3,.shr h2 ?_ rfl⟩
   have:=qM hv'
   simp only [List.mem_map] at this
   obtain ⟨u0,_,rfl⟩:=this
   exact AV.strip_ne u0
 ·show q.fp=(List.range (cells++xs.map AV.strip).length).flatMap _
  rw [hfp,List.length_append]
  exact (Ts cells.length _ fps _ (fun i hi=>by simp [hi]) (fun i hi=>by simp [Nat.not_lt.2 hi])).symm
def Bm.rm (β:Bm) (kill:Option Nat):Bm:=fun b=>if some b=kill then none else β b
section
variable {P:Program} {w:World} {β:Bm} {H:AH} {base nw:Nat}
theorem LRel.ext {β':Bm} {H':AH} {w':World} {vs:List AV} {cvs:List Value} (s:SRel base β H w) (e:Ext nw β H w β' H' w') (h:LRel w β (dead H) vs cvs):LRel w' β' (dead H') vs cvs :=
 ⟨h.len,fun i v cv hv hcv=>(h.rel i v cv hv hcv).ext s e,h.one⟩
theorem A8d (s:SRel base β H w) (kill:Option Nat) (k:ABlk):SRel base (β.rm kill) (killed H kill++[some k]) w∧Ext nw β H w (β.rm kill) (killed H kill++[some k]) w:=by
 have hrm:∀ b p,(β.rm kill) b=some p→some b≠kill∧β b=some p:=by
  intro b p hp
  simp only [Bm.rm] at hp
  split at hp
  ·cases hp
  ·rename_i h; exact ⟨h,hp⟩
 have e:Ext nw β H w (β.rm kill) (killed H kill++[some k]) w:=by
  refine ⟨by simp [L5],?_,?_,?_,?_,Nat.le_refl _,rfl,rfl,rfl,fun _ _ _=>rfl⟩
  ·intro b p hp k' hk'
   have hb:=s.lt hp
   rw [List.getElem?_append_left (by rw [L5]; exact hb)] at hk'
   have hkl:some b≠kill:=by
    intro e; subst e
    simp [killed,hb] at hk'
   exact ⟨p,by simp [Bm.rm,hkl,hp],rfl,rfl,rfl⟩
  ·intro b p' _ hp'
   exact ⟨p',(hrm b p' hp').2,rfl⟩
  ·intro b hb
   have hlt':=(qI hb).1
   rw [List.getElem?_append_left (by rw [L5]; exact hlt')]
   exact Wg H kill b hb
  ·intro b p hp j hj
   exact .inr ⟨b,p,(hrm b p hp).2,hj,.inl rfl⟩
 refine ⟨⟨?_,?_,?_,?_⟩,e⟩
 ·intro b p hp
  obtain ⟨h1,h2⟩:=hrm b p hp
  obtain ⟨k1,hk1,hbr⟩:=s.blk b p h2
  refine ⟨k1,?_,hbr.ext s e fun _ _=>rfl⟩
  rw [List.getElem?_append_left (by rw [L5]; exact s.lt h2),Pu H kill b h1]
  exact hk1
 ·exact fun b p hp=>s.nodup b p (hrm b p hp).2
 ·exact fun b p hp=>s.ge b p (hrm b p hp).2
 ·exact fun b p b' p' hp hp'=>s.disj b p b' p' (hrm b p hp).2 (hrm b' p' hp').2
theorem A02 {kill:Option Nat} {cells xs:List AV} {olds news:List Value} {n m sz cap':Nat} {e:TypeId} {fp:List Nat} {tailz:Array Value} (s:SRel base β H w) (hbase:base≤w.heap.size) (ho:olds.length=cells.length)
  (hcells:∀ (i:Nat) v,cells[i]?=some v→∃ cv,olds[i]?=some cv∧cv.oneCell'=true) (hrel:∃ fps:Nat→List Nat,fp=(List.range cells.length).flatMap fps∧∀ (i:Nat) v cv,cells[i]?=some v→olds[i]?=some cv→CRel w β (dead H) v cv (fps i))
  (hfp:fp=[]∨∃ b p,kill=some b∧β b=some p∧fp=p.fp∧nw≤b)
  (hx:LRel w β (dead H) xs news) (hlen:cells.length=n*sz) (hxl:xs.length=m*sz) (hcap:n+m≤cap') (hcm:cap'≤maxLen) (htl:tailz.size=(cap' - (n+m))*sz) :
  ∃ β',SRel base β' (killed H kill++[some ⟨cells++xs.map AV.strip,sz⟩]) (w.drew.alloc (.cells (olds.toArray++news.toArray++tailz) e)) ∧
   VRel (w.drew.alloc (.cells (olds.toArray++news.toArray++tailz) e)) β' (dead (killed H kill++[some ⟨cells++xs.map AV.strip,sz⟩])) (.sl H.length 0 (n+m)) (.slice (some ⟨w.heap.size,0,none⟩) (n+m) cap') ∧
   Ext nw β H w β' (killed H kill++[some ⟨cells++xs.map AV.strip,sz⟩]) (w.drew.alloc (.cells (olds.toArray++news.toArray++tailz) e)):=by
 have hp:Pushed w (w.drew.alloc (.cells (olds.toArray++news.toArray++tailz) e)) (.cells (olds.toArray++news.toArray++tailz) e):=⟨rfl,rfl,rfl,rfl⟩
 let q:Loc:=⟨w.heap.size,cap'*sz,sz,fp⟩
 have hsum:n*sz+(m*sz+(cap' - (n+m))*sz)=cap'*sz:=by
  rw [← Nat.add_mul,← Nat.add_mul]; congr 1; omega
 have hcsz:(olds.toArray++news.toArray++tailz).size=cap'*sz:=by
  have:=hx.len
  simp only [Array.size_append,List.size_toArray,htl]
  omega
 have ext:Ext nw β H w (β.mv kill H.length q) (killed H kill++[some ⟨cells++xs.map AV.strip,sz⟩]) (w.drew.alloc (.cells (olds.toArray++news.toArray++tailz) e)) :=
  Ext.mv (fun b p hp=>s.lt hp) (by rw [hp.size]; omega) rfl rfl rfl (fun j hj _=>hp.old hj) (by
   intro j hj
   simp only [q,List.mem_cons] at hj
   rcases hj with rfl | hj
   ·exact .inl (Nat.le_refl _)
   ·rcases hfp with rfl | ⟨b,p,rfl,hb,rfl,hn⟩
    ·cases hj
    ·exact .inr ⟨b,p,hb,List.mem_cons_of_mem _ hj,hn⟩)
 refine ⟨β.mv kill H.length q,?_,?_,ext⟩
 ·refine s.mv ext (fun b p hb _ B hB=>hp.old (s.ge b p hb B hB).2) ?_ ?_ ?_ ?_
  ·obtain ⟨fps,hfps,hr⟩:=hrel
   refine A12 (cvs:=fun i=>olds.getD i undef) (fps:=fps) ?_ (hx.strip.ext s ext) ?_ hp.new hcsz ?_ rfl hfps
   ·intro i v hv
    obtain ⟨cv,h1,h2⟩:=hcells i v hv
    have ei:olds.getD i undef=cv:=by simp [List.getD_eq_getElem?_getD,h1]
    have hi:i<olds.length:=(qI h1).1
    simp only [ei]
    refine ⟨?_,h2,?_⟩
    ·rw [Array.getElem?_append_left (by simp; omega),Array.getElem?_append_left (by simpa using hi)]
     simpa using h1
    ·have hcr:=hr i v cv hv h1
     cases hcr with
     | own g ho =>
      refine .own (g.ext fun B hB=>hp.old ?_) ho
      rcases hfp with hf | ⟨b,p,rfl,hb,hf,_⟩
      ·have:B∈fp:=by rw [hfps]; exact List.mem_flatMap.2 ⟨i,List.mem_range.2 (by omega),hB⟩
       rw [hf] at this; cases this
      ·have:B∈fp:=by rw [hfps]; exact List.mem_flatMap.2 ⟨i,List.mem_range.2 (by omega),hB⟩
       rw [hf] at this
       exact (s.ge b p hb B (List.mem_cons_of_mem _ this)).2
     | shr g hn hf'=>exact .shr (g.ext s ext) hn hf'
   ·intro j u hu
    have hj:j<news.length:=(qI hu).1
    rw [Array.getElem?_append_left (by simp; omega),Array.getElem?_append_right (by simp; omega)]
    simp [ho,hu]
   ·rw [hcsz,hlen,hxl]; omega
  ·rcases hfp with rfl | ⟨b,p,rfl,hb,rfl,_⟩
   ·simp [q]
   ·have:=s.nodup b p hb
    rw [List.nodup_cons] at this ⊢
    refine ⟨fun hm=>?_,this.2⟩
    have:=(s.ge b p hb _ (List.mem_cons_of_mem _ hm)).2
    simp [q] at this
  ·intro B hB
   rw [hp.size]
   simp only [q,List.mem_cons] at hB
   rcases hB with rfl | hB
   ·exact ⟨hbase,by omega⟩
   ·rcases hfp with rfl | ⟨b,p,rfl,hb,rfl,_⟩
    ·cases hB
    ·have:=s.ge b p hb B (List.mem_cons_of_mem _ hB)
     exact ⟨this.1,by omega⟩
  ·intro b p hb hk B hB hq
   simp only [q,List.mem_cons] at hq
   rcases hq with rfl | hq
   ·have:=(s.ge b p hb _ hB).2; omega
   ·rcases hfp with rfl | ⟨b0,p0,rfl,hb0,rfl,_⟩
    ·cases hq
    ·exact s.disj b p b0 p0 hb hb0 (fun e=>hk (by rw [e])) B hB (List.mem_cons_of_mem _ hq)
 ·exact .sl (p:=q) (by simp [Bm.mv]) hcap hcm (fun _=>rfl)
end
end Go.Proofs.YtldndhdohlfpgaaGreat.V
/- append, all ways together. -/
namespace Go.Proofs.YtldndhdohlfpgaaGreat.V
open Go
section
variable {P:Program} {w:World} {β:Bm} {H:AH} {base nw:Nat}
theorem A5u {b:Nat} {p:Loc} {k:ABlk} {xs:List AV} {news:List Value} {n m sz cap:Nat} {c:Array Value} {T:TypeId} {cvs:Nat→Value} {fps:Nat→List Nat} (s:SRel base β H w) (hp:β b=some p) (hnw:nw≤b)
  (hes:sz=p.es) (hcb:w.heap[p.B]?=some (.cells c T (0,0))) (hcs:c.size=p.sz) (hcc:∀ (i:Nat) v,k.cells[i]?=some v→c[i]?=some (cvs i)∧(cvs i).oneCell'=true∧CRel w β (dead H) v (cvs i) (fps i)) (hfp:p.fp=(List.range k.cells.length).flatMap fps)
  (hx:LRel w β (dead H) xs news) (hlen:k.cells.length=n*sz) (hxl:xs.length=m*sz) (hroom:n+m≤cap) (hcm:cap≤maxLen) (hcap:cap*p.es=p.sz) :
  ∃ β',SRel base β' (killed H (some b)++[some ⟨k.cells++xs.map AV.strip,sz⟩]) (w.setRow p.B (c.toList.take (n*sz)++news++c.toList.drop (n*sz+news.length)).toArray) ∧
   VRel (w.setRow p.B (c.toList.take (n*sz)++news++c.toList.drop (n*sz+news.length)).toArray) β' (dead (killed H (some b)++[some ⟨k.cells++xs.map AV.strip,sz⟩])) (.sl H.length 0 (n+m)) (.slice (some ⟨p.B,0,none⟩) (n+m) cap) ∧
   Ext nw β H w β' (killed H (some b)++[some ⟨k.cells++xs.map AV.strip,sz⟩]) (w.setRow p.B (c.toList.take (n*sz)++news++c.toList.drop (n*sz+news.length)).toArray):=by
 have hnl:news.length=m*sz:=by rw [← hx.len]; exact hxl
 have hfit:n*sz+m*sz≤c.size:=by
  rw [hcs,← hcap,hes,← Nat.add_mul]; exact Nat.mul_le_mul_right _ hroom
 have hw'B:=setRow_heap w p.B c (c.toList.take (n*sz)++news++c.toList.drop (n*sz+news.length)).toArray T (0,0) hcb
 have hw'o:∀ j,j≠p.B→(w.setRow p.B (c.toList.take (n*sz)++news++c.toList.drop (n*sz+news.length)).toArray).heap[j]?=w.heap[j]?:=fun j hj=>setRow_other w p.B j _ hj
 have ext:Ext nw β H w (β.mv (some b) H.length p) (killed H (some b)++[some ⟨k.cells++xs.map AV.strip,sz⟩]) (w.setRow p.B (c.toList.take (n*sz)++news++c.toList.drop (n*sz+news.length)).toArray) :=
  Ext.mv (fun b p hp=>s.lt hp) (by simp) rfl rfl rfl (fun j _ hf=>hw'o j fun e=>hf b p hnw hp (by rw [e]; simp)) (fun j hj=>.inr ⟨b,p,hp,hj,hnw⟩)
 have hnB:∀ B∈p.fp,B≠p.B:=by
  intro B hB e
  have:=s.nodup b p hp
  rw [List.nodup_cons] at this
  exact this.1 (e ▸ hB)
 refine ⟨β.mv (some b) H.length p,?_,?_,ext⟩
 ·refine s.mv ext ?_ ?_ (s.nodup b p hp) ?_ ?_
  ·intro b' p' hp' hb' B hB
   refine hw'o B fun e=>?_
   exact s.disj b' p' b p hp' hp (fun e=>hb' (by rw [e])) B hB (by rw [e]; simp)
  ·refine A12 (cvs:=cvs) (fps:=fps) ?_ (hx.strip.ext s ext) ?_ hw'B ?_ ?_ hes hfp
   ·intro i v hv
    obtain ⟨h1,h2,h3⟩:=hcc i v hv
    have hi:i<n*sz:=by rw [← hlen]; exact (qI hv).1
    refine ⟨?_,h2,?_⟩
    ·simp only [List.getElem?_toArray]
     rw [List.append_assoc,List.getElem?_append_left (by simp; omega),List.getElem?_take,if_pos hi]
     simpa using h1
    ·cases h3 with
     | own g ho =>
      refine .own (g.ext fun B hB=>hw'o B (hnB B ?_)) ho
      rw [hfp]
      exact List.mem_flatMap.2 ⟨i,List.mem_range.2 (by omega),hB⟩
     | shr g hn hf=>exact .shr (g.ext s ext) hn hf
   ·intro j u hu
    have hj:j<news.length:=(qI hu).1
    have hlt:(c.toList.take (n*sz)).length=n*sz:=by simp; omega
    simp only [List.getElem?_toArray]
    rw [List.append_assoc,List.getElem?_append_right (by omega),hlt,List.getElem?_append_left (by omega)]
    rw [hlen,Nat.add_sub_cancel_left]
    exact hu
   ·simp only [List.size_toArray,List.length_append,List.length_take,List.length_drop,Array.length_toList]
    omega
   ·simp only [List.size_toArray,List.length_append,List.length_take,List.length_drop,Array.length_toList]
    omega
  ·intro B hB
   have:=s.ge b p hp B hB
   simpa using this
  ·intro b' p' hp' hb' B hB
   exact s.disj b' p' b p hp' hp (fun e=>hb' (by rw [e])) B hB
 ·exact .sl (by simp [Bm.mv]) hroom hcm (fun _=>hcap)
theorem A09 {T ty:TypeId} {sv xv v:AV} {H':AH} {cs cx:Value} (s:SRel base β H w) (hbase:base≤w.heap.size) (h:aappend P nw H T sv xv=some (v,H')) (hs:VRel w β (dead H) sv cs) (hx:VRel w β (dead H) xv cx) :
  ∃ cv w' β',(Builtin.append_ #[T,T] ty #[cs,cx]).run P w=.ok cv w'∧SRel base β' H' w'∧VRel w' β' (dead H') v cv∧Ext nw β H w β' H' w':=by
 unfold aappend at h
 split at h
 ·rename_i e he
  split at h
  ·rename_i z hz
   split at h
   ·rename_i hc
    obtain ⟨hh,hzl,hpos⟩:=hc
    split at h
    ·rename_i n cells kill m xs hb hcont
     split at h
     ·rename_i hbd
      obtain ⟨hnm,hby⟩:=hbd
      simp only [qS,Prod.mk.injEq] at h
      obtain ⟨rfl,rfl⟩:=h
      have hT:P.underlying T=some (.slice e):=by
       unfold elT at he
       split at he
       ·rename_i e' hq; simp only [qS] at he; subst he; exact hq
       ·cases he
      obtain ⟨it,zv,hit,hzv,hzr⟩:=Ce (w:=w) (β:=β) (dd:=dead H) hz
      have hits:it.size=szT P e:=by simp [szT,hit]
      have hitb:it.bytes=byT P e:=by simp [byT,hit]
      have hzs:zv.cells.size=szT P e:=by rw [← hzl]; have:=hzr.len; simp at this; omega
      have hcapm:∀ old,old<n+m→grownCap w (n+m) old e≤maxLen:=fun old _=>grownCap_le_maxLen w (n+m) old e (by simp only [maxLen]; omega)
      have htail:∀ cap',(Builtin.zeroCells zv.cells (cap' - (n+m))).size=(cap' - (n+m))*szT P e:=fun cap'=>by rw [size_zeroCells,hzs]
      have nilgrow:∀ (a0:Option Addr) (kl:Option Nat),cells=[]→n=0→∃ cv w' β',(Builtin.append_ #[T,T] ty #[.slice a0 0 0,cx]).run P w=.ok cv w'∧SRel base β' (killed H kl++[some ⟨cells++xs.map AV.strip,szT P e⟩]) w' ∧
        VRel w' β' (dead (killed H kl++[some ⟨cells++xs.map AV.strip,szT P e⟩])) (.sl H.length 0 (n+m)) cv∧Ext nw β H w β' (killed H kl++[some ⟨cells++xs.map AV.strip,szT P e⟩]) w':=by
       intro a0 kl hc0 hn0
       subst hc0; subst hn0
       rcases Zr s hcont hx with ⟨rfl,rfl,A,cap,rfl⟩ | ⟨hm0,hxl,A,cap,ccs,rfl,hlr,hrd⟩
       ·obtain ⟨h1,h2⟩:=A8d (nw:=nw) s kl ⟨[]++[].map AV.strip,szT P e⟩
        exact ⟨_,_,_,Gi (P:=P) (w:=w) T ty e hT hh a0 A 0 0 cap (Nat.le_refl _),h1,.sl0 (X8.2 (by simp [L5])),h2⟩
       ·have hnl:ccs.length=m*it.size:=by rw [hits,← hlr.len]; exact hxl
        have hg:=grownCap_ge w (0+m) 0 e
        obtain ⟨β',g1,g2,g3⟩:=A02 (nw:=nw) (kill:=kl) (cells:=[]) (olds:=[]) (n:=0) (m:=m) (sz:=szT P e) (cap':=grownCap w (0+m) 0 e) (e:=e) (fp:=[]) (tailz:=Builtin.zeroCells zv.cells (grownCap w (0+m) 0 e - (0+m))) s hbase rfl (by simp) ⟨fun _=>[],by simp,by simp⟩ (.inl rfl) hlr (by simp) hxl hg (hcapm 0 (by omega)) (htail _)
        refine ⟨_,_,β',?_,g1,g2,g3⟩
        cases a0 with
        | none =>
         have:=run_append_nil (P:=P) w T ty e it zv hT hit hzv A m cap ccs hnl hrd hm0 (by omega) (by rw [hitb]; simp only [Nat.zero_add] at hby; omega)
         simp only [Nat.zero_add] at this ⊢
         rw [this]
         simp
        | some a1 =>
         have:=run_append_grow (P:=P) w T ty e it zv hT hit hzv a1 0 0 [] (by simp) (by simp) A m cap ccs hnl hrd (by omega) (by omega) (growslice_fits (by omega) (by rw [hitb]; exact hby))
         exact this
      unfold abase at hb
      split at hb
      ·simp only [qS,Prod.mk.injEq] at hb
       obtain ⟨rfl,rfl,rfl⟩:=hb
       cases hs
       exact nilgrow _ _ rfl rfl
      ·rename_i b n'
       split at hb
       ·rename_i k hk
        split at hb
        ·rename_i hcb
         obtain ⟨hnw,hkes,hkl⟩:=hcb
         simp only [qS,Prod.mk.injEq] at hb
         obtain ⟨rfl,rfl,rfl⟩:=hb
         cases hs with
         | sl0 =>
          exact nilgrow _ _ (List.eq_nil_of_length_eq_zero (by simpa using hkl)) rfl
         | sld hd=>exact absurd hd (Aa hk)
         | sl hp hn hm hcap =>
          rename_i p cap
          have hcap':=hcap rfl
          obtain ⟨k',hk',hes,c,Tc,cvs,fps,hcB,hcs,hkl',hcc,hfp⟩:=s.blk b p hp
          rw [hk] at hk'
          cases hk'
          have hpes:szT P e=p.es:=by rw [← hkes]; exact hes
          rcases Zr s hcont hx with ⟨rfl,rfl,A,capx,rfl⟩ | ⟨hm0,hxl,A,capx,ccs,rfl,hlr,hrd⟩
          ·-- nothing more
           have ext:Ext nw β H w (β.mv (some b) H.length p) (killed H (some b)++[some ⟨k.cells++[].map AV.strip,szT P e⟩]) w :=
            Ext.mv (fun b p hp=>s.lt hp) (Nat.le_refl _) rfl rfl rfl (fun _ _ _=>rfl) (fun j hj=>.inr ⟨b,p,hp,hj,hnw⟩)
           refine ⟨_,_,β.mv (some b) H.length p,Gi (P:=P) (w:=w) T ty e hT hh _ A n' cap capx hn,?_,.sl (by simp [Bm.mv]) hn hm (fun _=>hcap'),ext⟩
           refine s.mv ext (fun _ _ _ _ _ _=>rfl) ?_ (s.nodup b p hp) (s.ge b p hp) (fun b' p' hp' hb' B hB=>s.disj b' p' b p hp' hp (fun e=>hb' (by rw [e])) B hB)
           have hbr:BRel w β (dead H) k p:=⟨hes,c,Tc,cvs,fps,hcB,hcs,hkl',hcc,hfp⟩
           have:=hbr.ext s ext fun _ _=>rfl
           have e2:(⟨k.cells++[].map AV.strip,szT P e⟩:ABlk)=k:=by
            cases k; simp at hkes ⊢; exact hkes.symm
           rw [e2] at this ⊢
           exact this
          ·have hnl:ccs.length=m*szT P e:=by rw [← hlr.len]; exact hxl
           by_cases hroom:n'+m≤cap
           ·obtain ⟨β',g1,g2,g3⟩:=A5u (nw:=nw) s hp hnw hpes hcB hcs hcc hfp hlr hkl hxl hroom hm hcap'
            have hfit:n'*szT P e+ccs.length≤c.size:=by
             rw [hnl,hcs,← hcap',hpes,← Nat.add_mul]; exact Nat.mul_le_mul_right _ hroom
            exact ⟨_,_,β',Uv (P:=P) (w:=w) T ty e hT hh p.B n' cap c Tc hcB A m capx ccs hnl hrd hlr.one hroom hfit,g1,g2,g3⟩
           ·have hol:(c.toList.take (n'*szT P e)).length=n'*szT P e:=by simp; omega
            have hold:∀ (i:Nat) v,k.cells[i]?=some v→(c.toList.take (n'*szT P e))[i]?=some (cvs i):=by
             intro i v hv
             have hi:i<n'*szT P e:=by rw [← hkl]; exact (qI hv).1
             rw [List.getElem?_take,if_pos hi]
             simpa using (hcc i v hv).1
            obtain ⟨β',g1,g2,g3⟩:=A02 (nw:=nw) (kill:=some b) (cells:=k.cells) (olds:=c.toList.take (n'*szT P e)) (n:=n') (m:=m) (sz:=szT P e) (cap':=grownCap w (n'+m) cap e) (e:=e) (fp:=p.fp) (tailz:=Builtin.zeroCells zv.cells (grownCap w (n'+m) cap e - (n'+m))) s hbase (by rw [hol,hkl])
             (fun i v hv=>⟨cvs i,hold i v hv,(hcc i v hv).2.1⟩) ⟨fps,hfp,fun i v cv hv hcv=>by rw [hold i v hv] at hcv; cases hcv; exact (hcc i v hv).2.2⟩ (.inr ⟨b,p,rfl,hp,rfl,hnw⟩) hlr hkl hxl (grownCap_ge w _ _ e) (hcapm cap (by omega)) (htail _)
            refine ⟨_,_,β',?_,g1,g2,g3⟩
            exact run_append_grow (P:=P) w T ty e it zv hT hit hzv ⟨p.B,0,none⟩ n' cap (c.toList.take (n'*szT P e)) (by rw [hol,hits]) (by
             intro j u hu
             rw [addAddr,Nat.zero_add,cell_of_row w p.B j c Tc (0,0) hcB]
             rw [List.getElem?_take] at hu
             split at hu
             ·simpa using hu
             ·cases hu) A m capx ccs (by rw [hits]; exact hnl) hrd (by omega) (by omega) (growslice_fits (by omega) (by rw [hitb]; exact hby))
        ·cases hb
       ·cases hb
      ·cases hb
     ·cases h
    ·cases h
   ·cases h
  ·cases h
 ·cases h
end
end Go.Proofs.YtldndhdohlfpgaaGreat.V
/- One operation of the abstract machine, calls among them, and what the model does there. -/
namespace Go.Proofs.YtldndhdohlfpgaaGreat.V
open Go
def C5 (P:Program) (nw:Nat) (f:FuncId) (args:List AV) (H:AH) (v:AV) (H':AH):Prop :=
 ∀ (base:Nat) (β:Bm) (w:World) (cargs:Array Value),SRel base β H w→base≤w.heap.size→F2 (fun v cv=>VRel w β (dead H) v cv) args cargs.toList →
  Calls P f cargs w fun e w'=>∃ cv β',e=.returned cv∧SRel base β' H' w'∧VRel w' β' (dead H') v cv∧Ext nw β H w β' H' w'
def okF (P : Program) (f : FuncId) : Bool := match P.funcs[f]? with | some fn => fn.body.isSome && !(fn.name == "runtime.NumGoroutine") | none => false
def aval (P:Program) (H:AH) (a:Asg) (o:Oper):Option AV :=
 match o.op with
 | .slice .. | .fieldAddr .. | .indexAddr .. | .load .. | .nilCheck _ | .call { callee:=.builtin .len,.. }=>aread P H a o
 | .convert ..=>match afree P a o with | some v=>some v | none=>aread P H a o
 | _=>afree P a o
def A6 (P:Program) (nw:Nat) (g:FuncId) (args:List AV) (H:AH) (K:AV→AH→Prop):Prop:=okF P g=true∧∃ v H',C5 P nw g args H v H'∧K v H'
structure Tag {α:Type} (K:α):Type where
def CallT (P:Program) (nw:Nat) (g:FuncId) (args:List AV) (H:AH) (K:AV→AH→Prop) (_:Tag K):Prop:=A6 P nw g args H K
def awpExec0 (P:Program) (nw:Nat) (o:Oper) (a:Asg) (H:AH) (K:AV→AH→Prop):Prop :=
 match o.op with
 | .alloc _ | .box _ _ | .buildSlice _ _ _ | .makeSlice _ _ _=>match amk P H a o with | some (v,H')=>K v H' | none=>False
 | .store T x y=>match aev a x,aev a y with
  | some xv,some yv=>match astore P nw H T xv yv with | some H'=>K .und H' | none=>False
  | _,_=>False
 | .call { callee:=.builtin .append,args,argTypes }=>match args.toList,argTypes.toList with
  | [s,x],[t,t']=>match aev a s,aev a x with
   | some sv,some xv=>if t=t' then (match aappend P nw H t sv xv with | some (v,H')=>K v H' | none=>False) else False
   | _,_=>False
  | _,_=>False
 | .call { callee:=.value f,args,argTypes:=_ }=>match aev a f,aevs a args.toList with
  | some (.fn g cap),some vs=>CallT P nw g (vs++cap) H K ⟨⟩
  | _,_=>False
 | _=>match aval P H a o with | some v=>K v H | none=>False
def datB:AV→Bool
 | .int _ _=>true
 | .bool _=>true
 | .str _=>true
 | .nils=>true
 | _=>false
def Lit (H:AH) (v:AV) (H':AH) (u:AV):Prop:=∃ k n,v=.sl H.length 0 n∧H'=H++[some k]∧k.cells.length=n*k.es∧k.cells.all datB=true∧u=.lst false k.es k.cells n
def amove (P:Program) (nw:Nat) (H:AH) (T:TypeId) (s x:AV):Option (AV×AH) :=
 match elT P T with
 | some e=>match zeroT P e with
  | some z=>if hasT P e=true∧z.length=szT P e∧0<szT P e then
    match s,x with
    | .nils,.sl c 0 m=>match H[c]? with
     | some (some k)=>if (nw≤c∧k.es=szT P e∧k.cells.length=m*szT P e)∧m≤1099511627776∧m*byT P e≤140737488355328 then some (.sl H.length 0 m,killed H (some c)++[some k]) else none
     | _=>none
    | _,_=>none
   else none
  | none=>none
 | none=>none
def amv (P:Program) (nw:Nat) (o:Oper) (a:Asg) (H:AH):Option (AV×AH) :=
 match o.op with
 | .call { callee:=.builtin .append,args,argTypes }=>match args.toList,argTypes.toList with
  | [s,x],[t,t']=>match aev a s,aev a x with
   | some sv,some xv=>if t=t' then amove P nw H t sv xv else none
   | _,_=>none
  | _,_=>none
 | _=>none
def awpExec (P:Program) (nw:Nat) (o:Oper) (a:Asg) (H:AH) (K:AV→AH→Prop):Prop :=
 awpExec0 P nw o a H K∨(∃ v H' u,awpExec0 P nw o a H (fun v1 H1=>v1=v∧H1=H')∧Lit H v H' u∧K u H)∨∃ v H',amv P nw o a H=some (v,H')∧K v H'
section
variable {P:Program} {w:World} {β:Bm} {H:AH} {base nw N:Nat} {a:Asg} {ca:Act}
theorem A4l {o:Oper} {v:AV} (s:SRel base β H w) (h:aval P H a o=some v) (hr:∀ x v,aev a x=some v→VRel w β (dead H) v (ca.eval x)) :
  ∃ cv,(execOp ca.eval o).run P w=.ok (.value cv) w∧VRel w β (dead H) v cv:=by
 unfold aval at h
 split at h
 all_goals first
  | exact Wc s h hr
  | skip
 ·split at h
  ·rename_i u hu
   simp only [qS] at h
   subst h
   exact We hu hr
  ·exact Wc s h hr
 ·exact We h hr
theorem A1t {f:FuncId} {args:Array Value} (h:okF P f=true):(callFunc f args).run P w=.ok (.enter f args) w:=by
 unfold okF at h
 split at h
 ·rename_i fn hfn
  simp only [Bool.and_eq_true,Bool.not_eq_true'] at h
  obtain ⟨h1,h2⟩:=h
  have h3:fn.body.isNone=false:=by cases hb:fn.body <;> simp [hb] at h1 ⊢
  simp only [callFunc,Sem.run_bind,run_program,Result.andThen_ok,hfn,h2,h3,Bool.false_eq_true,if_false]
  rfl
 ·cases h
theorem F2.append {α β:Type} {R:α→β→Prop} {l l':List α} {m m':List β} (h:F2 R l m) (h':F2 R l' m'):F2 R (l++l') (m++m'):=by
 induction h with
 | nil=>exact h'
 | cons hh _ ih=>exact .cons hh ih
theorem F2.of_get {α β:Type} {R:α→β→Prop}:∀ {l:List α} {m:List β},l.length=m.length→(∀ (i:Nat) a b,l[i]?=some a→m[i]?=some b→R a b)→F2 R l m
 | [],[],_,_=>.nil
 | a::l,b::m,hl,h=>.cons (h 0 a b rfl rfl) (F2.of_get (by simpa using hl) fun i a b ha hb=>h (i+1) a b (by simpa using ha) (by simpa using hb))
def OpPost (base nw:Nat) (β:Bm) (H:AH) (w:World) (ca:Act) (dst:Option Tmp) (K:AV→AH→Prop) (ca':Act) (w':World):Prop :=
 ∃ v H' β' cv,ca'=ca.put dst cv∧K v H'∧SRel base β' H' w'∧VRel w' β' (dead H') v cv∧Ext nw β H w β' H' w'
theorem Lz {o:Oper} {K:AV→AH→Prop} {Q:Go.Exit→Act→World→Prop} (s:SRel base β H w) (hb:base≤w.heap.size) (hr:∀ x v,aev a x=some v→VRel w β (dead H) v (ca.eval x)) (h:awpExec0 P nw o a H K) :
  o.wp P ca w (OpPost base nw β H w ca o.dst K) Q:=by
 have refl:=Ext.refl nw β H w fun b p hp=>s.lt hp
 unfold awpExec0 at h
 split at h
 case h_1 | h_2 | h_3 | h_4 =>
  split at h
  ·rename_i v H' hm
   obtain ⟨cv,w',β',h1,h2,h3,h4⟩:=A5y s hb hm hr
   unfold Oper.wp
   rw [h1]
   exact ⟨v,H',β',cv,rfl,h,h2,h3,h4 nw⟩
  ·exact h.elim
 ·rename_i T x y hop
  split at h
  ·rename_i xv yv hx hy
   split at h
   ·rename_i H' hst
    obtain ⟨w',β',h1,h2,h3⟩:=A24 (P:=P) s hst (hr _ _ hx) (hr _ _ hy)
    unfold Oper.wp
    have:(execOp ca.eval o).run P w=.ok .skip w':=by
     unfold execOp
     simp [hop,h1]
    rw [this]
    exact ⟨.und,H',β',undef,rfl,h,h2,.und,h3⟩
   ·exact h.elim
  ·exact h.elim
 ·rename_i args argTypes hop
  split at h
  ·rename_i s' x t t' hargs htys
   split at h
   ·rename_i sv xv hsv hxv
    split at h
    ·rename_i htt
     subst htt
     split at h
     ·rename_i v H' hap
      obtain ⟨cv,w',β',h1,h2,h3,h4⟩:=A09 (ty:=o.type) s hb hap (hr _ _ hsv) (hr _ _ hxv)
      unfold Oper.wp
      have e1:args.map ca.eval=#[ca.eval s',ca.eval x]:=by apply Array.ext'; simp [hargs]
      have e2:argTypes=#[t,t]:=by apply Array.ext'; simp [htys]
      have:(execOp ca.eval o).run P w=.ok (.value cv) w':=by
       unfold execOp
       simp [hop,resolve,invoke,builtin,e1,e2,h1]
      rw [this]
      exact ⟨v,H',β',cv,rfl,h,h2,h3,h4⟩
     ·exact h.elim
    ·exact h.elim
   ·exact h.elim
  ·exact h.elim
 ·rename_i f args at_ hop
  split at h
  ·rename_i g cap vs hf hvs
   obtain ⟨hok,v,H',hcall,hK⟩:=h
   have hfr:=hr _ _ hf
   generalize hcf:ca.eval f=cf at hfr
   cases hfr with
   | fn hs hrel =>
    rename_i cap'
    have hargs:=(Xw hr _ _ hvs).append (F2.of_get (l:=cap) (m:=cap'.toList) (by rw [Array.length_toList]; exact hs) (fun i v cv hv hcv=>hrel i v cv hv (by simpa using hcv)))
    unfold Oper.wp
    have:(execOp ca.eval o).run P w=.ok (.enter g (args.map ca.eval++cap')) w:=by
     unfold execOp
     simp [hop,resolve,hcf,Deferred.ofValue,invoke,A1t hok]
    rw [this,Oper.upon_enter]
    refine (hcall base β w (args.map ca.eval++cap') s hb (by simpa using hargs)).mono ?_
    rintro e w' ⟨cv,β',rfl,h2,h3,h4⟩
    exact ⟨v,H',β',cv,rfl,hK,h2,h3,h4⟩
  ·exact h.elim
 ·split at h
  ·rename_i v hv
   obtain ⟨cv,h1,h2⟩:=A4l s hv hr
   unfold Oper.wp
   rw [h1]
   exact ⟨v,H,β,cv,rfl,h,s,h2,refl⟩
  ·exact h.elim
end
end Go.Proofs.YtldndhdohlfpgaaGreat.V
/- Code of the abstract machine: what must hold before it so that something holds behind it; and that the model's run keeps to it. -/
namespace Go.Proofs.YtldndhdohlfpgaaGreat.V
open Go
def gd (ops:Array Oper) (o:Oper) (a:Asg):Option Bool :=
 match o.guard with
 | none=>some true
 | some (j,want)=>match (ops[j]?).bind (·.dst) with
  | some d=>match get a d with
   | some (.bool b)=>some (b==want)
   | some (.tup [])=>some false
   | _=>none
  | none=>none
theorem VRel.skipped {w:World} {β:Bm} {dd:Nat→Option Bool}:VRel w β dd (.tup []) undef:=.tup rfl (by simp)
theorem VRel.skipped_eq {w:World} {β:Bm} {dd:Nat→Option Bool} {cv:Value} (h:VRel w β dd (.tup []) cv):cv=.tuple #[]:=by
 cases h with
 | tup hs _=>rw [Array.eq_empty_of_size_eq_zero hs.symm]
def ptd (N:Nat) (dst:Option Tmp) (v:AV) (a:Asg) (K:Asg→Prop):Prop :=
 match dst with
 | none=>K a
 | some d=>d<N∧K ((d,v)::a)
def isnV (P:Program) (a:Asg) (T:TypeId) (x:Operand) (neg:Bool):Option (Bool×Nat) :=
 match P.underlying T,aev a x with
 | some (.slice _),some (.lst _ _ _ n)=>some (neg,n)
 | some (.slice _),some .nils=>some (neg,0)
 | _,_=>none
def isnA (P:Program) (a:Asg) (o:Oper):Option (Bool×Nat) :=
 match o.op with
 | .binOp .eql T x (.const (.slice none 0 0)) _=>isnV P a T x false
 | .binOp .neq T x (.const (.slice none 0 0)) _=>isnV P a T x true
 | _=>none
def awpOne (P:Program) (nw:Nat) (o:Oper) (a:Asg) (H:AH) (K:AV→AH→Prop):Prop :=
 match isnA P a o with
 | some (neg,n)=>∀ b:Bool,(b=true→n=0)→K (.bool (b != neg)) H
 | none=>awpExec P nw o a H K
theorem Fz {P:Program} (w:World) (d:Nat) (t e:TypeId) (A:Option Addr) (n c:Nat) (hT:P.underlying t=some (.slice e)):(Op.equalIn (d+1) t (.slice A n c) (.slice none 0 0)).run P w=.ok A.isNone w:=by
 cases A <;> simp [Op.equalIn,run_underlying hT,Result.andThen_ok]
theorem A4d {P:Program} {w:World} {β:Bm} {dd:Nat→Option Bool} {a:Asg} {ca:Act} {T:TypeId} {x:Operand} {neg:Bool} {r:Bool×Nat} (h:isnV P a T x neg=some r) (hr:∀ x v,aev a x=some v→VRel w β dd v (ca.eval x)) :
  ∃ b:Bool,(b=true→r.2=0)∧r.1=neg∧(Op.equal T (ca.eval x) (.slice none 0 0)).run P w=.ok b w∧(∀ xs,ca.eval x≠.agg xs)∧ca.eval x≠.nilIface∧∃ A n c,ca.eval x=.slice A n c:=by
 unfold isnV at h
 split at h
 ·rename_i e o es cells n hT hx
  cases h
  have hv:=hr _ _ hx
  generalize ca.eval x=cv at hv
  cases hv with
  | lst0=>rename_i a cap; exact ⟨a.isNone,fun _=>rfl,rfl,Fz w 9999 T e _ _ _ hT,by simp,by simp,_,_,_,rfl⟩
  | lst=>exact ⟨false,by simp,rfl,Fz w 9999 T e _ _ _ hT,by simp,by simp,_,_,_,rfl⟩
 ·rename_i e hT hx
  cases h
  have hv:=hr _ _ hx
  generalize ca.eval x=cv at hv
  cases hv with
  | nils=>rename_i a; exact ⟨a.isNone,fun _=>rfl,rfl,Fz w 9999 T e _ _ _ hT,by simp,by simp,_,_,_,rfl⟩
 ·cases h
def awpList (P:Program) (N nw:Nat) (ops:Array Oper):List Oper→(Asg→AH→Prop)→Asg→AH→Prop
 | [],K,a,H=>K a H
 | o::rest,K,a,H=>match gd ops o a with
  | some true=>awpOne P nw o a H fun v H'=>ptd N o.dst v a fun a'=>awpList P N nw ops rest K a' H'
  | some false=>ptd N o.dst (.tup []) a fun a'=>awpList P N nw ops rest K a' H
  | none=>False
inductive RefLt (n:Nat):AV→Prop
 | und:RefLt n .und
 | int {k m}:RefLt n (.int k m)
 | bool {b}:RefLt n (.bool b)
 | str {s}:RefLt n (.str s)
 | nils:RefLt n .nils
 | ptr {b off} (h:b<n):RefLt n (.ptr b off)
 | sl {b off m} (h:b<n):RefLt n (.sl b off m)
 | el {cells off} (h:∀ v∈cells,RefLt n v):RefLt n (.el cells off)
 | lst {o es cells m} (h:∀ v∈cells,RefLt n v):RefLt n (.lst o es cells m)
 | pv {B off es cells m} (h:RefLt n (.lst false es cells m)):RefLt n (.pv B off es cells m)
 | fn {f cap} (h:∀ v∈cap,RefLt n v):RefLt n (.fn f cap)
 | agg {vs} (h:∀ v∈vs,RefLt n v):RefLt n (.agg vs)
 | tup {vs} (h:∀ v∈vs,RefLt n v):RefLt n (.tup vs)
structure St (base N nw:Nat) (β0:Bm) (H0:AH) (w0:World) (a:Asg) (H:AH) (β:Bm) (ca:Act) (w:World):Prop where
 s:SRel base β H w
 t:TRel N w β (dead H) a ca
 e:Ext nw β0 H0 w0 β H w
 b:base≤w.heap.size
def Gh (nw N:Nat) (H0:AH) (a:Asg) (H:AH) (a':Asg) (H':AH):Prop :=
 ∀ (base:Nat) (β0:Bm) (w0:World) (β:Bm) (ca:Act) (w:World),SRel base β0 H0 w0→St base N nw β0 H0 w0 a H β ca w→∃ β',St base N nw β0 H0 w0 a' H' β' ca w
theorem Gh.refl {nw N:Nat} {H0:AH} {a:Asg} {H:AH}:Gh nw N H0 a H a H:=fun _ _ _ β _ _ _ st=>⟨β,st⟩
theorem Gh.trans {nw N:Nat} {H0:AH} {a a1 a2:Asg} {H H1 H2:AH} (h:Gh nw N H0 a H a1 H1) (h2:Gh nw N H0 a1 H1 a2 H2):Gh nw N H0 a H a2 H2:=fun base β0 w0 β ca w s0 st =>
 let ⟨_,st1⟩:=h base β0 w0 β ca w s0 st
 h2 base β0 w0 _ ca w s0 st1
def StPost (base N nw:Nat) (β0:Bm) (H0:AH) (w0:World) (Q:Go.Exit→Asg→AH→Prop) (x:Go.Exit) (ca':Act) (w':World):Prop :=
 ∃ a' H' β',Q x a' H'∧St base N nw β0 H0 w0 a' H' β' ca' w'
def SemReg (P:Program) (N nw:Nat) (c:Code) (K:Asg→AH→Prop) (a:Asg) (H:AH):Prop :=
 ∀ (base:Nat) (β:Bm) (w:World) (ca:Act),SRel base β H w→TRel N w β (dead H) a ca→base≤w.heap.size →
  c.wp P (fun x ca' w'=>x=.normal∧∃ a' H' β',K a' H'∧SRel base β' H' w'∧TRel N w' β' (dead H') a' ca'∧Ext nw β H w β' H' w') ca w
@[reducible] def thenA (K:Asg→AH→Prop) (Q:Go.Exit→Asg→AH→Prop):Go.Exit→Asg→AH→Prop
 | .normal,a,H=>K a H
 | e,a,H=>Q e a H
@[reducible] def blkA (id:Nat) (Q:Go.Exit→Asg→AH→Prop):Go.Exit→Asg→AH→Prop
 | .exit id',a,H=>if id'=id then Q .normal a H else Q (.exit id') a H
 | e,a,H=>Q e a H
def SW (P:Program) (N nw:Nat) (H0:AH) (c:Code) (Q:Go.Exit→Asg→AH→Prop) (a:Asg) (H:AH):Prop :=
 ∀ (base:Nat) (β0:Bm) (w0:World),SRel base β0 H0 w0→∀ (β:Bm) (ca:Act) (w:World),St base N nw β0 H0 w0 a H β ca w→c.wp P (StPost base N nw β0 H0 w0 Q) ca w
def Back (nw N:Nat) (H0:AH) (I:Nat→Asg→AH→Prop) (n:Nat) (a:Asg) (H:AH):Prop :=
 ∃ n' a' H',Gh nw N H0 a H a' H'∧I n' a' H'∧n'<n
section
variable {P:Program} {base N nw:Nat} {β0:Bm} {H0:AH} {w0:World}
theorem VRel.refLt {w:World} {β:Bm} {H:AH} {base:Nat} (s:SRel base β H w) {v:AV} {cv:Value} (h:VRel w β (dead H) v cv):RefLt H.length v:=by
 induction h with
 | und=>exact .und
 | int=>exact .int
 | bool=>exact .bool
 | str=>exact .str
 | ptr hp=>exact .ptr (s.lt hp)
 | ptrd hd _=>exact .ptr (qI (G3.1 hd)).1
 | el cvs hB hm hc hr ih=>exact .el fun v hv=>by obtain ⟨i,hi⟩:=List.getElem?_of_mem hv; exact ih i v hi
 | sl hp hn hm hc=>exact .sl (s.lt hp)
 | sl0 hi=>exact .sl (X8.1 hi)
 | sld hd _=>exact .sl (qI (G3.1 hd)).1
 | nils=>exact .nils
 | lst0=>exact .lst (by simp)
 | lst hl hn cvs hB hm hc hr ih=>exact .lst fun v hv=>by obtain ⟨i,hi⟩:=List.getElem?_of_mem hv; exact ih i v hi
 | pv _ ih=>exact .pv ih
 | pv0=>exact .pv (.lst (by simp))
 | fn hs hr ih =>
  refine .fn fun v hv=>?_
  obtain ⟨i,hi⟩:=List.getElem?_of_mem hv
  have hl:=(qI hi).1
  exact ih i v _ hi (Array.getElem?_eq_getElem (by omega))
 | agg hs hr h1 ih =>
  refine .agg fun v hv=>?_
  obtain ⟨i,hi⟩:=List.getElem?_of_mem hv
  have hl:=(qI hi).1
  exact ih i v _ hi (Array.getElem?_eq_getElem (by omega))
 | tup hs hr ih =>
  refine .tup fun v hv=>?_
  obtain ⟨i,hi⟩:=List.getElem?_of_mem hv
  have hl:=(qI hi).1
  exact ih i v _ hi (Array.getElem?_eq_getElem (by omega))
theorem FT.refLt {w:World} {n:Nat} {v:AV} {cv:Value} {fp:List Nat} (h:FT w v cv fp):RefLt n v:=by
 induction h with
 | und=>exact .und
 | int=>exact .int
 | bool=>exact .bool
 | str=>exact .str
 | nils=>exact .nils
 | lst0=>exact .lst (by simp)
 | lst0v=>exact .lst (by simp)
 | lst hl cvs fps hb hn hm hsz hc hr ih=>exact .lst fun v hv=>by obtain ⟨i,hi⟩:=List.getElem?_of_mem hv; exact ih i v hi
 | lstv hl cvs fps hb hn hc hr ih=>exact .lst fun v hv=>by obtain ⟨i,hi⟩:=List.getElem?_of_mem hv; exact ih i v hi
 | agg fps hs hr h1 ih =>
  refine .agg fun v hv=>?_
  obtain ⟨i,hi⟩:=List.getElem?_of_mem hv
  have hl:=(qI hi).1
  exact ih i v _ hi (Array.getElem?_eq_getElem (by omega))
 | tup fps hs hr ih =>
  refine .tup fun v hv=>?_
  obtain ⟨i,hi⟩:=List.getElem?_of_mem hv
  have hl:=(qI hi).1
  exact ih i v _ hi (Array.getElem?_eq_getElem (by omega))
theorem A2u {dst:Option Tmp} {v:AV} {a:Asg} {K:Asg→Prop} (h:ptd N dst v a K) {w:World} {β:Bm} {dd:Nat→Option Bool} {ca:Act} {cv:Value} (t:TRel N w β dd a ca) (hv:VRel w β dd v cv):∃ a',K a'∧TRel N w β dd a' (ca.put dst cv):=by
 cases dst with
 | none=>exact ⟨a,h,t⟩
 | some d=>exact ⟨(d,v)::a,h.2,t.put h.1 hv⟩
theorem TRel.ext {β β':Bm} {H H':AH} {w w':World} {a:Asg} {ca:Act} (s:SRel base β H w) (e:Ext nw β H w β' H' w') (t:TRel N w β (dead H) a ca):TRel N w' β' (dead H') a ca :=
 ⟨t.defers,t.size,fun x v hx=>⟨(t.get x v hx).1,(t.get x v hx).2.ext s e⟩⟩
theorem A2a {ops:Array Oper} {o:Oper} {a:Asg} {g:Bool} (h:gd ops o a=some g) {w:World} {β:Bm} {dd:Nat→Option Bool} {ca:Act} (t:TRel N w β dd a ca):Region.wanted o (yielded ops ca.tmps)=g:=by
 unfold gd at h
 unfold Region.wanted
 split at h
 ·rename_i hg
  simp only [qS] at h
  subst h
  simp [hg]
 ·rename_i j want hg
  split at h
  ·rename_i d hd
   split at h
   ·rename_i b hb
    simp only [qS] at h
    subst h
    obtain ⟨hlt,hr⟩:=t.get _ _ hb
    have hsz:d<ca.tmps.size:=by rw [t.size]; exact hlt
    have hv:ca.tmps[d]?=some (.bool b):=by
     have:ca.tmps.getD d undef=ca.tmps[d]:=by simp [Array.getD,hsz]
     rw [this] at hr
     cases hq:ca.tmps[d] <;> rw [hq] at hr <;> cases hr
     rw [Array.getElem?_eq_getElem hsz,hq]
    simp only [hg,yielded]
    rw [hd]
    simp only [Option.bind_some,hv]
    cases b <;> cases want <;> rfl
   ·rename_i hb
    simp only [qS] at h
    subst h
    obtain ⟨hlt,hr⟩:=t.get _ _ hb
    have hsz:d<ca.tmps.size:=by rw [t.size]; exact hlt
    have hv:ca.tmps[d]?=some (.tuple #[]):=by
     have e:ca.tmps.getD d undef=ca.tmps[d]:=by simp [Array.getD,hsz]
     rw [← hr.skipped_eq,e,Array.getElem?_eq_getElem hsz]
    simp only [hg,yielded]
    rw [hd]
    simp only [Option.bind_some,hv]
    cases want <;> rfl
   ·cases h
  ·cases h
theorem VRel.restr {w:World} {β β2:Bm} {dd dd2:Nat→Option Bool} {n:Nat} (hβ:∀ b,b<n→β2 b=β b) (hd:∀ b,b<n→dd2 b=dd b) (ho:∀ B,β.off B→β2.off B) {v:AV} (hr:RefLt n v):∀ {cv:Value},VRel w β dd v cv→VRel w β2 dd2 v cv:=by
 induction hr with
 | und=>exact fun _=>.und
 | int=>intro cv hv; cases hv; exact .int
 | bool=>intro cv hv; cases hv; exact .bool
 | str=>intro cv hv; cases hv; exact .str
 | nils=>intro cv hv; cases hv; exact .nils
 | ptr h =>
  intro cv hv
  cases hv with
  | ptr hp=>exact .ptr (by rw [hβ _ h]; exact hp)
  | ptrd h0 h1=>exact .ptrd (by rw [hd _ h]; exact h0) h1
 | sl h =>
  intro cv hv
  cases hv with
  | sl hp hn hm hc=>exact .sl (by rw [hβ _ h]; exact hp) hn hm hc
  | sl0 h0=>exact .sl0 (by rw [hd _ h]; exact h0)
  | sld h0 h1=>exact .sld (by rw [hd _ h]; exact h0) h1
 | pv h ih =>
  intro cv hv
  cases hv with
  | pv g=>exact .pv (ih g)
  | pv0=>exact .pv0
 | el h ih =>
  intro cv hv
  cases hv with
  | el cvs hB hm hc hr=>exact .el cvs hB (ho _ hm) hc (fun i v hi=>ih v (qM hi) (hr i v hi))
 | lst h ih =>
  intro cv hv
  cases hv with
  | lst0=>exact .lst0
  | lst hl hn cvs hB hm hc hr=>exact .lst hl hn cvs hB (ho _ hm) hc (fun i v hi=>ih v (qM hi) (hr i v hi))
 | fn h ih =>
  intro cv hv
  cases hv with
  | fn hs hr=>exact .fn hs (fun i v cv hi hc=>ih v (qM hi) (hr i v cv hi hc))
 | agg h ih =>
  intro cv hv
  cases hv with
  | agg hs hr h1=>exact .agg hs (fun i v cv hi hc=>ih v (qM hi) (hr i v cv hi hc)) h1
 | tup h ih =>
  intro cv hv
  cases hv with
  | tup hs hr=>exact .tup hs (fun i v cv hi hc=>ih v (qM hi) (hr i v cv hi hc))
theorem A8a {w w':World} {β β':Bm} {dd dd':Nat→Option Bool} {v:AV} {cv:Value} (h:datB v=true) (hv:VRel w β dd v cv):VRel w' β' dd' v cv:=by
 cases v <;> simp [datB] at h <;> cases hv <;> constructor
theorem A6y {β β':Bm} {w w':World} {H H':AH} {v u:AV} {cv:Value} (s:SRel base β H w) (hl:Lit H v H' u) (s':SRel base β' H' w') (hv:VRel w' β' (dead H') v cv) (e:Ext nw β H w β' H' w') :
  ∃ β2,SRel base β2 H w'∧VRel w' β2 (dead H) u cv∧Ext nw β H w β2 H w':=by
 obtain ⟨k,n,rfl,rfl,hlen,hd,rfl⟩:=hl
 have hlt:∀ b,b≠H.length→∀ p,β' b=some p→b<H.length:=by
  intro b hb p hp
  have:=s'.lt hp
  simp at this; omega
 let β2:Bm:=fun b=>if b=H.length then none else β' b
 have h2:∀ b p,β2 b=some p→b≠H.length∧β' b=some p:=by
  intro b p hp
  simp only [β2] at hp
  split at hp
  ·cases hp
  ·exact ⟨‹_›,hp⟩
 have hge:∀ (b:Nat),b<H.length→(H++[some k])[b]?=H[b]?:=fun b hb=>List.getElem?_append_left hb
 have dd:∀ b,b<H.length→dead H b=dead (H++[some k]) b:=fun b hb=>by unfold dead; rw [hge b hb]
 have off2:∀ B,β'.off B→β2.off B:=fun B hB b p hp=>hB b p (h2 b p hp).2
 have hβ:∀ b,b<H.length→β2 b=β' b:=fun b hb=>by simp only [β2]; rw [if_neg (by omega)]
 have e2:Ext nw β H w β2 H w':=by
  refine ⟨Nat.le_refl _,?_,?_,fun _ h=>h,?_,e.wsz,e.os,e.tape,e.output,e.frame⟩
  ·intro b p hp k1 hk1
   have hb:=s.lt hp
   obtain ⟨p',h1,h3,h4,h5⟩:=e.keep b p hp k1 (by rw [hge b hb]; exact hk1)
   exact ⟨p',by rw [hβ b hb]; exact h1,h3,h4,h5⟩
  ·intro b p' hb hp'
   exact e.old b p' hb (h2 b p' hp').2
  ·intro b p hp
   exact e.own b p (h2 b p hp).2
 refine ⟨β2,⟨?_,fun b p hp=>s'.nodup b p (h2 b p hp).2,fun b p hp=>s'.ge b p (h2 b p hp).2,fun b p b' p' hp hp'=>s'.disj b p b' p' (h2 b p hp).2 (h2 b' p' hp').2⟩,?_,e2⟩
 ·intro b p hp
  obtain ⟨hb,hp'⟩:=h2 b p hp
  have hbl:=hlt b hb p hp'
  obtain ⟨p0,hp0,_⟩:=e.old b p hbl hp'
  obtain ⟨k0,hk0,_,_,_,_,_,_,_,_,r4,_⟩:=s.blk b p0 hp0
  obtain ⟨k1,hk1,hes,c,T,cvs,fps,g1,g2,g3,g4,g5⟩:=s'.blk b p hp'
  rw [hge b hbl] at hk1
  rw [hk0] at hk1; cases hk1
  refine ⟨k0,hk0,hes,c,T,cvs,fps,g1,g2,g3,?_,g5⟩
  intro i v hi
  obtain ⟨q1,q2,q3⟩:=g4 i v hi
  refine ⟨q1,q2,?_⟩
  cases q3 with
  | own g ho=>exact .own g ho
  | shr g hn hf =>
   have hrl:RefLt H.length v:=by
    obtain ⟨_,_,z3⟩:=r4 i v hi
    cases z3 with
    | own g' _=>exact g'.refLt
    | shr g' _ _=>exact g'.refLt s
   exact .shr (g.restr hβ dd off2 hrl) hn hf
 ·generalize hn:n=m at hv
  cases hv with
  | sl hp hn' hm hc =>
   rename_i p cap
   subst hn
   obtain ⟨k1,hk1,hes,c,T,cvs,fps,g1,g2,g3,g4,g5⟩:=s'.blk _ p hp
   have hk:(H++[some k])[H.length]?=some (some k):=by simp
   rw [hk] at hk1; cases hk1
   have hB:=(s'.ge _ p hp p.B (by simp)).2
   refine .lst hlen hn' cvs hB ?_ ?_ ?_
   ·intro b q hq hmem
    obtain ⟨hb,hq'⟩:=h2 b q hq
    exact s'.disj b q _ p hq' hp hb p.B hmem (by simp)
   ·intro i v hi
    obtain ⟨q1,q2,_⟩:=g4 i v hi
    refine ⟨?_,q2⟩
    rw [cell_of_row w' p.B (0+i) c T (0,0) g1,Nat.zero_add]; exact q1
   ·intro i v hi
    obtain ⟨_,_,q3⟩:=g4 i v hi
    have hdv:datB v=true:=List.all_eq_true.1 hd v (qM hi)
    cases q3 with
    | own g ho=>generalize cvs i=cv at g; generalize fps i=fp at g; cases v <;> simp [datB] at hdv <;> cases g <;> constructor
    | shr g _ _=>exact A8a hdv g
  | sl0 hd0 =>
   have:k.cells=[]:=List.eq_nil_of_length_eq_zero (by rw [hlen,hn]; simp)
   rw [this]
   exact .lst0
  | sld hd0=>rw [G3] at hd0; simp at hd0
theorem A3c {β:Bm} {w:World} {H:AH} {T ty:TypeId} {sv xv v:AV} {H':AH} {cs cx:Value} (s:SRel base β H w) (hbase:base≤w.heap.size) (h:amove P nw H T sv xv=some (v,H')) (hs:VRel w β (dead H) sv cs) (hx:VRel w β (dead H) xv cx) :
  ∃ cv w' β',(Builtin.append_ #[T,T] ty #[cs,cx]).run P w=.ok cv w'∧SRel base β' H' w'∧VRel w' β' (dead H') v cv∧Ext nw β H w β' H' w':=by
 unfold amove at h
 split at h
 case h_2=>cases h
 rename_i e he
 split at h
 case h_2=>cases h
 rename_i z hz
 split at h
 case isFalse=>cases h
 rename_i hc
 obtain ⟨hh,hzl,hpos⟩:=hc
 split at h
 case h_2=>cases h
 rename_i c m
 split at h
 case h_2=>cases h
 rename_i k hk
 split at h
 case isFalse=>cases h
 rename_i hcond
 obtain ⟨⟨hnw,hkes,hkl⟩,hnm,hby⟩:=hcond
 simp only [qS,Prod.mk.injEq] at h
 obtain ⟨rfl,rfl⟩:=h
 have hT:P.underlying T=some (.slice e):=by
  unfold elT at he
  split at he
  ·rename_i e' hq; simp only [qS] at he; subst he; exact hq
  ·cases he
 obtain ⟨it,zv,hit,hzv,hzr⟩:=Ce (w:=w) (β:=β) (dd:=dead H) hz
 have hits:it.size=szT P e:=by simp [szT,hit]
 have hitb:it.bytes=byT P e:=by simp [byT,hit]
 have hzs:zv.cells.size=szT P e:=by rw [← hzl]; have:=hzr.len; simp at this; omega
 have htail:∀ cap',(Builtin.zeroCells zv.cells (cap' - (m+0))).size=(cap' - (m+0))*szT P e:=fun cap'=>by rw [size_zeroCells,hzs]
 have hke:(⟨k.cells++([]:List AV).map AV.strip,szT P e⟩:ABlk)=k:=by
  cases k; simp at hkes ⊢; exact hkes.symm
 have zero:m=0→∀ (a0 A:Option Addr) (cap:Nat),∃ cv w' β',(Builtin.append_ #[T,T] ty #[.slice a0 0 0,.slice A 0 cap]).run P w=.ok cv w'∧SRel base β' (killed H (some c)++[some k]) w'∧VRel w' β' (dead (killed H (some c)++[some k])) (.sl H.length 0 m) cv∧Ext nw β H w β' (killed H (some c)++[some k]) w':=by
  intro hm0 a0 A cap
  subst hm0
  obtain ⟨h1,h2⟩:=A8d (nw:=nw) s (some c) k
  exact ⟨_,_,_,Gi (P:=P) (w:=w) T ty e hT hh a0 A 0 0 cap (Nat.le_refl _),h1,.sl0 (X8.2 (by simp [L5])),h2⟩
 cases hs
 rename_i a0
 cases hx with
 | sl0=>exact zero rfl _ _ _
 | sld hd=>exact absurd hd (Aa hk)
 | sl hp hn hm hcap =>
  rename_i p cap
  rcases Nat.eq_zero_or_pos m with hm0 | hm0
  ·subst hm0; exact zero rfl _ _ _
  obtain ⟨k',hk',hes,c0,Tc,cvs,fps,hcB,hcs,hkl',hcc,hfp⟩:=s.blk c p hp
  rw [hk] at hk'
  cases hk'
  have hol:(c0.toList.take (m*szT P e)).length=m*szT P e:=by simp; omega
  have hold:∀ (i:Nat) v,k.cells[i]?=some v→(c0.toList.take (m*szT P e))[i]?=some (cvs i):=by
   intro i v hv
   have hi:i<m*szT P e:=by rw [← hkl]; exact (qI hv).1
   rw [List.getElem?_take,if_pos hi]
   simpa using (hcc i v hv).1
  have hrd:∀ j u,(c0.toList.take (m*szT P e))[j]?=some u→w.cell? ((⟨p.B,0,none⟩:Addr).add j)=some u:=by
   intro j u hu
   rw [addAddr,Nat.zero_add,cell_of_row w p.B j c0 Tc (0,0) hcB]
   rw [List.getElem?_take] at hu
   split at hu
   ·simpa using hu
   ·cases hu
  have hnl:(c0.toList.take (m*szT P e)).length=m*it.size:=by rw [hits]; exact hol
  have hcapm:grownCap w (0+m) 0 e≤maxLen:=grownCap_le_maxLen w (0+m) 0 e (by simp only [maxLen]; omega)
  obtain ⟨β',g1,g2,g3⟩:=A02 (nw:=nw) (kill:=some c) (cells:=k.cells) (xs:=[]) (olds:=c0.toList.take (m*szT P e)) (news:=[]) (n:=m) (m:=0) (sz:=szT P e) (cap':=grownCap w (0+m) 0 e) (e:=e) (fp:=p.fp) (tailz:=Builtin.zeroCells zv.cells (grownCap w (0+m) 0 e - (m+0))) s hbase (by rw [hol,hkl])
   (fun i v hv=>⟨cvs i,hold i v hv,(hcc i v hv).2.1⟩) ⟨fps,hfp,fun i v cv hv hcv=>by rw [hold i v hv] at hcv; cases hcv; exact (hcc i v hv).2.2⟩ (.inr ⟨c,p,rfl,hp,rfl,hnw⟩) .nil hkl (by simp) (by have:=grownCap_ge w (0+m) 0 e; omega) hcapm (htail _)
  rw [hke] at g1 g2 g3
  refine ⟨_,_,β',?_,g1,g2,g3⟩
  cases a0 with
  | none =>
   have:=run_append_nil (P:=P) w T ty e it zv hT hit hzv ⟨p.B,0,none⟩ m cap (c0.toList.take (m*szT P e)) hnl hrd hm0 (by omega) (by rw [hitb]; omega)
   rw [this]
   simp
  | some a1 =>
   have:=run_append_grow (P:=P) w T ty e it zv hT hit hzv a1 0 0 [] (by simp) (by simp) ⟨p.B,0,none⟩ m cap (c0.toList.take (m*szT P e)) hnl hrd (by omega) (by omega) (growslice_fits (by omega) (by rw [hitb]; simpa using hby))
   rw [this]
   simp
theorem Pc {β:Bm} {ca:Act} {w:World} {a:Asg} {H:AH} {o:Oper} {K:AV→AH→Prop} {Q:Go.Exit→Act→World→Prop} (s:SRel base β H w) (hb:base≤w.heap.size) (hr:∀ x v,aev a x=some v→VRel w β (dead H) v (ca.eval x)) (h:awpExec P nw o a H K) :
  o.wp P ca w (OpPost base nw β H w ca o.dst K) Q:=by
 rcases h with h | ⟨v,H',u,h,hl,hk⟩ | ⟨v,H',h,hk⟩
 ·exact Lz s hb hr h
 ·refine Oper.wp_mono ?_ (Lz s hb hr h)
  rintro ca' w' ⟨v1,H1,β',cv,h1,⟨rfl,rfl⟩,h3,h4,h5⟩
  obtain ⟨β2,g1,g2,g3⟩:=A6y s hl h3 h4 h5
  exact ⟨u,H,β2,cv,h1,hk,g1,g2,g3⟩
 ·unfold amv at h
  split at h
  case h_2=>cases h
  rename_i args argTypes hop
  split at h
  case h_2=>cases h
  rename_i s' x t t' hargs htys
  split at h
  case h_2=>cases h
  rename_i sv xv hsv hxv
  split at h
  case isFalse=>cases h
  rename_i htt
  subst htt
  obtain ⟨cv,w',β',h1,h2,h3,h4⟩:=A3c (ty:=o.type) s hb h (hr _ _ hsv) (hr _ _ hxv)
  unfold Oper.wp
  have e1:args.map ca.eval=#[ca.eval s',ca.eval x]:=by apply Array.ext'; simp [hargs]
  have e2:argTypes=#[t,t]:=by apply Array.ext'; simp [htys]
  have:(execOp ca.eval o).run P w=.ok (.value cv) w':=by
   unfold execOp
   simp [hop,resolve,invoke,builtin,e1,e2,h1]
  rw [this]
  exact ⟨v,H',β',cv,rfl,hk,h2,h3,h4⟩
theorem A21 {β:Bm} {ca:Act} {w:World} {a:Asg} {H:AH} {o:Oper} {K:AV→AH→Prop} {Q:Go.Exit→Act→World→Prop} (s:SRel base β H w) (hb:base≤w.heap.size) (hr:∀ x v,aev a x=some v→VRel w β (dead H) v (ca.eval x)) (h:awpOne P nw o a H K) :
  o.wp P ca w (OpPost base nw β H w ca o.dst K) Q:=by
 have refl:=Ext.refl nw β H w fun b p hp=>s.lt hp
 unfold awpOne at h
 split at h
 ·rename_i neg n hn
  unfold isnA at hn
  have key:∀ (T:TypeId) (x:Operand) (pos:_) (op:BinOp) (ng:Bool),o.op=.binOp op T x (.const (.slice none 0 0)) pos→isnV P a T x ng=some (neg,n)→(∀ b:Bool,∀ A m c,ca.eval x=.slice A m c→(Op.equal T (ca.eval x) (.slice none 0 0)).run P w=.ok b w→(binOp op T (ca.eval x) (.slice none 0 0)).run P w=.ok (.bool (b != ng)) w)→o.wp P ca w (OpPost base nw β H w ca o.dst K) Q:=by
   intro T x pos op ng hop hv hrun
   obtain ⟨b,h1,h2,h3,h4,h5,A,m,c,h6⟩:=A4d hv hr
   simp only at h1 h2
   subst h2
   have hk:=h b h1
   unfold Oper.wp
   have hx:(execOp ca.eval o).run P w=.ok (.value (.bool (b != neg))) w:=by
    unfold execOp
    have e1:ca.eval (.const (.slice none 0 0))=.slice none 0 0:=rfl
    simp [hop,e1,Fw h4 h5,hrun b A m c h6 h3]
   rw [hx]
   exact ⟨_,H,β,_,rfl,hk,s,.bool,refl⟩
  split at hn
  ·rename_i T x pos hop
   exact key T x pos .eql false hop hn (fun b A m c h6 h3=>by rw [h6] at h3 ⊢; simp [binOp,h3])
  ·rename_i T x pos hop
   exact key T x pos .neq true hop hn (fun b A m c h6 h3=>by rw [h6] at h3 ⊢; simp [binOp,h3])
  ·cases hn
 ·exact Pc s hb hr h
theorem Jg {ops:Array Oper}:∀ (l:List Oper) (K:Asg→AH→Prop) (Q:Go.Exit→Act→World→Prop) (a:Asg) (H:AH) (β:Bm) (ca:Act) (w:World),awpList P N nw ops l K a H→St base N nw β0 H0 w0 a H β ca w→SRel base β0 H0 w0 →
  (∀ a' H' β' ca' w',K a' H'→St base N nw β0 H0 w0 a' H' β' ca' w'→Q .normal ca' w')→wpList P ops Q l ca w
 | [],K,Q,a,H,β,ca,w,h,st,s0,hQ=>hQ a H β ca w h st
 | o::rest,K,Q,a,H,β,ca,w,h,st,s0,hQ=>by
  simp only [awpList] at h
  simp only [wpList]
  split at h
  ·rename_i hg
   rw [if_pos (A2a hg st.t)]
   left
   refine Oper.wp_mono ?_ (A21 (Q:=Q) st.s st.b (fun x v hx=>st.t.aev hx) h)
   rintro ca' w' ⟨v,H',β',cv,rfl,hK,s',hv,e'⟩
   obtain ⟨a',ha',t'⟩:=A2u hK (st.t.ext st.s e') hv
   exact Jg rest K Q a' H' β' _ w' ha' ⟨s',t',Ext.trans s0 st.e e',Nat.le_trans st.b e'.wsz⟩ s0 hQ
  ·rename_i hg
   rw [if_neg (by rw [A2a hg st.t]; simp)]
   obtain ⟨a',ha',t'⟩:=A2u (cv:=undef) h st.t .skipped
   exact Jg rest K Q a' H β _ w ha' ⟨st.s,t',st.e,st.b⟩ s0 hQ
  ·exact h.elim
variable {Q Q':Go.Exit→Asg→AH→Prop} {a a':Asg} {H H':AH}
theorem SW.gh {c:Code} (h:SW P N nw H0 c Q a' H') (g:Gh nw N H0 a H a' H'):SW P N nw H0 c Q a H:=by
 intro base β0 w0 s0 β ca w st
 obtain ⟨β',st'⟩:=g base β0 w0 β ca w s0 st
 exact h base β0 w0 s0 β' ca w st'
theorem SW.mono {c:Code} (h:SW P N nw H0 c Q a H) (hq:∀ e a H,Q e a H→Q' e a H):SW P N nw H0 c Q' a H:=by
 intro base β0 w0 s0 β ca w st
 refine wp_mono (h base β0 w0 s0 β ca w st) ?_
 rintro e ca' w' ⟨a',H',β',hQ,st'⟩
 exact ⟨a',H',β',hq _ _ _ hQ,st'⟩
theorem SW.skip (h:Q .normal a H):SW P N nw H0 .skip Q a H:=fun _ _ _ _ β _ _ st=>wp_skip ⟨a,H,β,h,st⟩
theorem SW.exit {id:Nat} (h:Q (.exit id) a H):SW P N nw H0 (.exit id) Q a H:=fun _ _ _ _ β _ _ st=>wp_exit ⟨a,H,β,h,st⟩
theorem SW.ret (h:Q .ret a H):SW P N nw H0 .ret Q a H:=fun _ _ _ _ β _ _ st=>wp_ret ⟨a,H,β,h,st⟩
theorem SW.region {id:Nat} {ops:Array Oper} (h:awpList P N nw ops ops.toList (Q .normal) a H):SW P N nw H0 (.region id ops false) Q a H:=by
 intro base β0 w0 s0 β ca w st
 refine wp_region_list (Jg ops.toList _ _ a H β ca w h st s0 ?_)
 intro a' H' β' ca' w' hK st'
 exact ⟨a',H',β',hK,st'⟩
theorem SW.draw {id:Nat} {ops:Array Oper} (h:SemReg P N nw (.region id ops true) (Q .normal) a H):SW P N nw H0 (.region id ops true) Q a H:=by
 intro base β0 w0 s0 β ca w st
 refine wp_mono (h base β w ca st.s st.t st.b) ?_
 rintro x ca' w' ⟨rfl,a',H',β',hK,s',t',e'⟩
 exact ⟨a',H',β',hK,s',t',Ext.trans s0 st.e e',Nat.le_trans st.b e'.wsz⟩
theorem SW.seq {x y:Code} (h:SW P N nw H0 x (thenA (SW P N nw H0 y Q) Q) a H):SW P N nw H0 (.seq x y) Q a H:=by
 intro base β0 w0 s0 β ca w st
 refine wp_seq (wp_mono (h base β0 w0 s0 β ca w st) ?_)
 rintro e ca' w' ⟨a',H',β',hQ,st'⟩
 cases e with
 | normal=>exact hQ base β0 w0 s0 β' ca' w' st'
 | exit id=>exact ⟨a',H',β',hQ,st'⟩
 | goto l=>exact ⟨a',H',β',hQ,st'⟩
 | ret=>exact ⟨a',H',β',hQ,st'⟩
 | panic ch=>exact ⟨a',H',β',hQ,st'⟩
 | outgrown=>exact ⟨a',H',β',hQ,st'⟩
theorem SW.cond {c:Operand} {x y:Code} {t:Bool} (ht:aev a c=some (.bool t)) (h1:t=true→SW P N nw H0 x Q a H) (h2:t=false→SW P N nw H0 y Q a H):SW P N nw H0 (.cond c x y) Q a H:=by
 intro base β0 w0 s0 β ca w st
 have hr:=st.t.aev ht
 have hc:ca.eval c=.bool t:=by
  generalize ca.eval c=cv at hr
  cases hr
  rfl
 exact wp_cond_split hc (fun e=>h1 e base β0 w0 s0 β ca w st) (fun e=>h2 e base β0 w0 s0 β ca w st)
theorem SW.block {id:Nat} {c:Code} (h:SW P N nw H0 c (blkA id Q) a H):SW P N nw H0 (.block id c) Q a H:=by
 intro base β0 w0 s0 β ca w st
 refine wp_block (wp_mono (h base β0 w0 s0 β ca w st) ?_)
 rintro e ca' w' ⟨a',H',β',hQ,st'⟩
 cases e with
 | exit id' =>
  simp only [blkA] at hQ
  simp only [Exit.inBlock]
  split at hQ
  ·rename_i he; rw [if_pos he]; exact ⟨a',H',β',hQ,st'⟩
  ·rename_i he; rw [if_neg he]; exact ⟨a',H',β',hQ,st'⟩
 | normal=>exact ⟨a',H',β',hQ,st'⟩
 | goto l=>exact ⟨a',H',β',hQ,st'⟩
 | ret=>exact ⟨a',H',β',hQ,st'⟩
 | panic ch=>exact ⟨a',H',β',hQ,st'⟩
 | outgrown=>exact ⟨a',H',β',hQ,st'⟩
def SWIn (P:Program) (N nw:Nat) (H0:AH) (c:Code) (Q:Go.Exit→Asg→AH→Prop) (a:Asg) (H:AH):Prop :=
 ∀ base β0 w0,SRel base β0 H0 w0→∀ β ca w,St base N nw β0 H0 w0 a H β ca w →
   ∀ (b:Frame) (k:List Item) (cs:List Frame),∃ e a' w',StPost base N nw β0 H0 w0 Q e a' w'∧Arrives P (lone (b.at ca (.code c :: .inLoop c::k)) cs w) b k cs e a' w'
theorem SW.loopIn {c:Code} (h:SWIn P N nw H0 c Q a H):SW P N nw H0 (.loop c) Q a H:=by
 intro base β0 w0 s0 β ca w st b k cs
 obtain ⟨e,a',w',hq,harr⟩:=h base β0 w0 s0 β ca w st b k cs
 exact ⟨e,a',w',hq,.of_steps (.one step_loop) harr⟩
theorem SWIn.round {c:Code} (h:SW P N nw H0 c (thenA (SWIn P N nw H0 c Q) Q) a H):SWIn P N nw H0 c Q a H:=by
 intro base β0 w0 s0 β ca w st b k cs
 obtain ⟨e,ca1,w1,hq,harr⟩:=h base β0 w0 s0 β ca w st b (.inLoop c::k) cs
 obtain ⟨a2,H2,β2,hQ,st2⟩:=hq
 cases e with
 | normal =>
  obtain ⟨e2,a4,w4,hq4,harr4⟩:=hQ base β0 w0 s0 β2 ca1 w1 st2 b k cs
  exact ⟨e2,a4,w4,hq4,.of_steps (Steps.trans harr (.one step_inLoop)) harr4⟩
 | exit id=>exact ⟨_,ca1,w1,⟨a2,H2,β2,hQ,st2⟩,.pass (x:=.inLoop c) rfl (fun _ _=>.inl (by simp)) harr⟩
 | goto l=>exact ⟨_,ca1,w1,⟨a2,H2,β2,hQ,st2⟩,.pass (x:=.inLoop c) rfl (fun _ _=>.inl (by simp)) harr⟩
 | ret=>exact ⟨_,ca1,w1,⟨a2,H2,β2,hQ,st2⟩,.pass (x:=.inLoop c) rfl (fun _ _=>.inl (by simp)) harr⟩
 | panic ch=>exact ⟨_,ca1,w1,⟨a2,H2,β2,hQ,st2⟩,.pass (x:=.inLoop c) rfl (fun _ _=>.inl (by simp)) harr⟩
 | outgrown=>exact ⟨_,ca1,w1,⟨a2,H2,β2,hQ,st2⟩,.pass (x:=.inLoop c) rfl (fun _ _=>.inl (by simp)) harr⟩
theorem SW.loop {c:Code} (I:Nat→Asg→AH→Prop) (n0:Nat) (h0:I n0 a H) (hround:∀ n a1 H1,I n a1 H1→SW P N nw H0 c (thenA (Back nw N H0 I n) Q) a1 H1):SW P N nw H0 (.loop c) Q a H:=by
 intro base β0 w0 s0 β ca w st
 have key:∀ (n:Nat) (a:Asg) (H:AH) (β:Bm) (ca:Act) (w:World),I n a H→St base N nw β0 H0 w0 a H β ca w →
   ∀ (b:Frame) (k:List Item) (cs:List Frame),∃ e a' w',StPost base N nw β0 H0 w0 Q e a' w'∧Arrives P (lone (b.at ca (.code c :: .inLoop c::k)) cs w) b k cs e a' w':=by
  intro n
  induction n using Nat.strongRecOn with
  | _ n ihn =>
   intro a H β ca w hI st b k cs
   obtain ⟨e,ca1,w1,hq,harr⟩:=hround n a H hI base β0 w0 s0 β ca w st b (.inLoop c::k) cs
   obtain ⟨a2,H2,β2,hQ,st2⟩:=hq
   cases e with
   | normal =>
    obtain ⟨n3,a3,H3,hg3,hI3,hlt⟩:=hQ
    obtain ⟨β3,st3⟩:=hg3 base β0 w0 β2 ca1 w1 s0 st2
    obtain ⟨e2,a4,w4,hq4,harr4⟩:=ihn n3 hlt a3 H3 β3 ca1 w1 hI3 st3 b k cs
    exact ⟨e2,a4,w4,hq4,.of_steps (Steps.trans harr (.one step_inLoop)) harr4⟩
   | exit id=>exact ⟨_,ca1,w1,⟨a2,H2,β2,hQ,st2⟩,.pass (x:=.inLoop c) rfl (fun _ _=>.inl (by simp)) harr⟩
   | goto l=>exact ⟨_,ca1,w1,⟨a2,H2,β2,hQ,st2⟩,.pass (x:=.inLoop c) rfl (fun _ _=>.inl (by simp)) harr⟩
   | ret=>exact ⟨_,ca1,w1,⟨a2,H2,β2,hQ,st2⟩,.pass (x:=.inLoop c) rfl (fun _ _=>.inl (by simp)) harr⟩
   | panic ch=>exact ⟨_,ca1,w1,⟨a2,H2,β2,hQ,st2⟩,.pass (x:=.inLoop c) rfl (fun _ _=>.inl (by simp)) harr⟩
   | outgrown=>exact ⟨_,ca1,w1,⟨a2,H2,β2,hQ,st2⟩,.pass (x:=.inLoop c) rfl (fun _ _=>.inl (by simp)) harr⟩
 intro b k cs
 obtain ⟨e,a',w',hq,harr⟩:=key n0 a H β ca w h0 st b k cs
 exact ⟨e,a',w',hq,.of_steps (.one step_loop) harr⟩
end
end Go.Proofs.YtldndhdohlfpgaaGreat.V
