/- The pure part. -/
import Derived.Test.YtldndhdohlfpgaaXT
namespace Go.Proofs.Ytldndhdohlfpgaa.V
open Go Go.Proofs Go.RowKit
set_option maxRecDepth 100000
theorem ob {α β:Type} (a:α) (f:α→Option β):(some a).bind f=f a:=rfl
theorem G6 {σ ρ:Type} {step:σ→Option (σ ⊕ ρ)} (st:Nat→σ) (n:Nat) {r:ρ} (hs:∀ i,i<n→step (st i)=some (.inl (st (i+1)))) (he:step (st n)=some (.inr r)):iter step (st 0)=some r:=by
 have key:∀ d i,i+d=n→iter step (st i)=some r:=by
  intro d
  induction d with
  | zero => intro i hi; have : i = n := by omega
            subst this; exact Z4 he
  | succ d ih=>intro i hi; rw [Co (hs i (by omega))]; exact ih (i+1) (by omega)
 exact key n 0 (by omega)
theorem G9 {n:Int} (h:-9223372036854775808≤n) (h':n<9223372036854775808):w64 n=n:=by
 unfold w64 IntKind.wrap
 simp [IntKind.bits,IntKind.signed]
 omega
theorem B6 {n:Nat} (h:n<9223372036854775807):w64 ((n:Int)+1)=((n+1:Nat):Int):=by rw [G9 (by omega) (by omega)]; omega
theorem Mq (n:Int):IntKind.u32.wrap n=n%4294967296:=by
 unfold IntKind.wrap
 simp [IntKind.bits,IntKind.signed]
theorem at?_nat {α:Type} {l:List α} {i:Nat} (h:i<l.length):at? l (i:Int)=some l[i]:=by
 unfold at?
 rw [if_pos ⟨by omega,by omega⟩]
 simp [h]
theorem bt?_nat {s:List UInt8} {i:Nat} (h:i<s.length):bt? s (i:Int)=some s[i]:=by
 unfold bt?
 rw [if_pos (by omega)]
 simp [h]
theorem app?_ok {α:Type} {byt:Nat} {l m:List α} (h:l.length+m.length≤1099511627776) (h2:(l.length+m.length)*byt≤140737488355328):app? byt l m=some (l++m):=by unfold app?; rw [if_pos ⟨h,h2⟩]
def sumBit (n:Nat):Nat:=if n%2=1 then (xorv .u32 ((n / 2:Nat):Int) 3558460437).toNat else n / 2
theorem Fq (x y:Int):0≤xorv .u32 x y∧xorv .u32 x y<4294967296:=by
 unfold xorv
 rw [Mq]
 omega
theorem Wd {n:Nat} (h:n<4294967296):sumBit n<4294967296:=by
 unfold sumBit
 have:=Fq ((n / 2:Nat):Int) 3558460437
 split <;> omega
def iterK {α:Type} (f:α→α):Nat→α→α
 | 0,a=>a
 | k+1,a=>f (iterK f k a)
theorem Xt (k:Nat) {n:Nat} (h:n<4294967296):iterK sumBit k n<4294967296:=by
 induction k with
 | zero=>exact h
 | succ k ih=>exact Wd ih
theorem Xg {n:Nat} (h:n<4294967296):iter X0 ((n:Int),0)=some ((iterK sumBit 8 n:Nat):Int):=by
 refine G6 (fun k=>(((iterK sumBit k n:Nat):Int),(k:Int))) 8 ?_ ?_
 ·intro k hk
  have hl:=Xt k h
  unfold X0
  have e0:w64 ((k:Int)+1)=((k+1:Nat):Int):=B6 (by omega)
  generalize hm:iterK sumBit k n=m at hl
  have e1:IntKind.u32.wrap (Int.tdiv (m:Int) 2)=((m / 2:Nat):Int):=by
   rw [Mq,Int.tdiv_eq_ediv_of_nonneg (by omega)]; omega
  have e2:Int.tmod (m:Int) 2=((m%2:Nat):Int):=by rw [Int.tmod_eq_emod_of_nonneg (by omega)]; omega
  simp only [show decide ((k:Int)<8)=true from by simp; omega,if_true,e0,e1,e2]
  have e3:iterK sumBit (k+1) n=sumBit m:=by simp [iterK,hm]
  rw [e3]
  unfold sumBit
  by_cases hb:m%2=1
  ·have:=Fq ((m / 2:Nat):Int) 3558460437
   simp only [hb,if_true]
   rw [if_pos (by simp)]
   congr 3
  ·rw [if_neg (by simp; omega),if_neg hb]
 ·unfold X0
  simp
def sumB (n:Nat) (c:UInt8):Nat:=iterK sumBit 8 (xorv .u32 (n:Int) (c.toNat:Int)).toNat
def sumL (n:Nat) (s:List UInt8):Nat:=s.foldl sumB n
theorem Xx {step:List UInt8→Int×Int→Option ((Int×Int) ⊕ Int)} {s:List UInt8} (hs:s.length<9223372036854775807) {n:Nat}
  (h1:∀ (m i:Nat) (h:i<s.length),step s ((m:Int),(i:Int))=some (.inl ((sumB m s[i]:Nat),((i+1:Nat):Int))))
  (h2:∀ m:Nat,step s ((m:Int),(s.length:Int))=some (.inr (m:Int))):iter (step s) ((n:Int),0)=some ((sumL n s:Nat):Int):=by
 refine G6 (fun i=>(((sumL n (s.take i):Nat):Int),(i:Int))) s.length ?_ ?_
 ·intro i hi
  have e:sumL n (s.take (i+1))=sumB (sumL n (s.take i)) s[i]:=by
   unfold sumL
   rw [List.take_succ_eq_append_getElem hi,List.foldl_append]
   rfl
  rw [h1 _ i hi,e]
 ·rw [List.take_length]; exact h2 _
theorem A00 (c:UInt8):IntKind.u32.wrap (c.toNat:Int)=c.toNat:=by
 rw [Mq]
 have:=c.toNat_lt
 omega
theorem A0c {s:List UInt8} (hs:s.length<9223372036854775807) (n:Nat):Ef (n:Int) s=some ((sumL n s:Nat):Int):=by
 unfold Ef
 rw [Xx (step:=X3) hs]
 ·rfl
 ·intro m i hi
  unfold X3
  simp only [show decide ((i:Int)<(s.length:Int))=true from by simp; omega,if_true,bt?_nat hi,ob,A00,B6 (show i<9223372036854775807 by omega)]
  have hx:=Fq (m:Int) ((s[i]).toNat:Int)
  have:xorv .u32 (m:Int) ((s[i]).toNat:Int)=((xorv .u32 (m:Int) ((s[i]).toNat:Int)).toNat:Int):=by omega
  rw [this,Xg (by omega)]
  rfl
 ·intro m
  unfold X3
  simp
def inR (n lo hi:Int):Bool:=decide (lo≤n)&&decide (n≤hi)
theorem Kt (n lo hi:Int):E5 n lo hi=some (inR n lo hi):=by
 unfold E5 inR
 by_cases h:lo≤n <;> simp [h]
theorem Kr (n lo hi:Int):Q9 n lo hi=some (inR n lo hi):=by
 unfold Q9 inR
 by_cases h:lo≤n <;> simp [h]
def lowB (c:UInt8):Bool:=decide (97≤c.toNat)&&decide (c.toNat≤122)
def wordOk (s:List UInt8):Bool:=s.all lowB&&inR s.length 1 8
theorem Gv {σ ρ:Type} {step:σ→Option (σ ⊕ ρ)} (st:Nat→σ) (n:Nat) (p:Nat→Bool) {bad good:ρ} (h1:∀ i,i<n→p i=true→step (st i)=some (.inl (st (i+1)))) (h2:∀ i,i<n→p i=false→step (st i)=some (.inr bad)) (he:step (st n)=some (.inr good)) :
  iter step (st 0)=some (if (List.range n).all p then good else bad):=by
 have key:∀ d i,i+d=n→iter step (st i)=some (if ((List.range n).drop i).all p then good else bad):=by
  intro d
  induction d with
  | zero =>
   intro i hi
   have:i=n:=by omega
   subst this
   rw [Z4 he,List.drop_eq_nil_of_le (by simp)]; simp
  | succ d ih =>
   intro i hi
   have hd:(List.range n).drop i=i::(List.range n).drop (i+1):=by
    rw [List.drop_eq_getElem_cons (by simp; omega)]; simp
   rw [hd]
   cases hp:p i with
   | true=>rw [Co (h1 i (by omega) hp),ih (i+1) (by omega)]; simp [hp]
   | false=>rw [Z4 (h2 i (by omega) hp)]; simp [hp]
 simpa using key n 0 (by omega)
theorem Qh {α:Type} (l:List α) (p:α→Bool):(List.range l.length).all (fun i=>match l[i]? with | some x=>p x | none=>true)=l.all p:=by
 rw [Bool.eq_iff_iff,List.all_eq_true,List.all_eq_true]
 constructor
 ·intro h x hx
  obtain ⟨i,hi⟩:=List.getElem?_of_mem hx
  have:=h i (List.mem_range.2 (qI hi).1)
  simpa [hi] using this
 ·intro h i hi
  have hi':=List.mem_range.1 hi
  rw [qG hi']
  exact h _ (List.getElem_mem hi')
theorem Qd {s:List UInt8} (hs:s.length<9223372036854775807):U7 s=some (wordOk s):=by
 have hl:iter (L1 s) 0=some (if s.all lowB then .inr () else .inl false):=by
  rw [← Qh]
  refine Gv (fun i=>(i:Int)) s.length _ ?_ ?_ ?_
  ·intro i hi hp
   rw [qG hi] at hp
   simp only [lowB,Bool.and_eq_true,decide_eq_true_eq] at hp
   unfold L1
   simp only [show decide ((i:Int)<(s.length:Int))=true from by simp; omega,if_true,bt?_nat hi,ob]
   rw [if_neg (by simp; omega),if_neg (by simp; omega)]
   simp [B6 (show i<9223372036854775807 by omega)]
  ·intro i hi hp
   rw [qG hi] at hp
   simp only [lowB,Bool.and_eq_false_iff,decide_eq_false_iff_not] at hp
   unfold L1
   simp only [show decide ((i:Int)<(s.length:Int))=true from by simp; omega,if_true,bt?_nat hi,ob]
   by_cases h:(s[i]).toNat<97
   ·rw [if_pos (by simp; omega)]; rfl
   ·rw [if_neg (by simp; omega),if_pos (by simp; omega)]; rfl
  ·unfold L1
   simp
 unfold U7
 rw [hl]
 unfold wordOk
 cases s.all lowB <;> simp [Kt]
theorem Qj {s:List UInt8} (hs:s.length<9223372036854775807):U6 s=some (wordOk s):=by
 have hl:iter (L0 s) 0=some (if s.all lowB then .inr () else .inl false):=by
  rw [← Qh]
  refine Gv (fun i=>(i:Int)) s.length _ ?_ ?_ ?_
  ·intro i hi hp
   rw [qG hi] at hp
   simp only [lowB,Bool.and_eq_true,decide_eq_true_eq] at hp
   unfold L0
   simp only [show decide ((i:Int)<(s.length:Int))=true from by simp; omega,if_true,bt?_nat hi,ob]
   rw [if_neg (by simp; omega),if_neg (by simp; omega)]
   simp [B6 (show i<9223372036854775807 by omega)]
  ·intro i hi hp
   rw [qG hi] at hp
   simp only [lowB,Bool.and_eq_false_iff,decide_eq_false_iff_not] at hp
   unfold L0
   simp only [show decide ((i:Int)<(s.length:Int))=true from by simp; omega,if_true,bt?_nat hi,ob]
   by_cases h:(s[i]).toNat<97
   ·rw [if_pos (by simp; omega)]; rfl
   ·rw [if_neg (by simp; omega),if_pos (by simp; omega)]; rfl
  ·unfold L0
   simp
 unfold U6
 rw [Kr,ob,hl]
 unfold wordOk
 cases s.all lowB <;> cases inR (s.length:Int) 1 8 <;> simp
theorem Xp {α:Type} {l:List α} {i:Nat} {x:α}:set' l (i:Int) x=l.set i x:=by simp [set']
theorem dlt {i:Nat} {n:Nat} (h:i<n):decide ((i:Int)<(n:Int))=true:=by simpa using h
theorem Zq {α:Type} {l:List α} {z:α} {step:Int×List α→Option ((Int×List α) ⊕ List α)} (hl:l.length<9223372036854775807)
  (h1:∀ (i:Nat) (h:i<l.length) (m:List α),m.length=l.length→step ((i:Int),m)=some (.inl (((i+1:Nat):Int),m.set i l[i])))
  (h2:∀ m:List α,step ((l.length:Int),m)=some (.inr m)):iter step (0,List.replicate l.length z)=some l:=by
 have:=G6 (step:=step) (fun i=>((i:Int),l.take i++List.replicate (l.length - i) z)) l.length (r:=l) ?_ ?_
 ·simpa using this
 ·intro i hi
  rw [h1 i hi _ (by simp; omega)]
  have e:(l.take i++List.replicate (l.length - i) z).set i l[i]=l.take (i+1)++List.replicate (l.length - (i+1)) z:=by
   have e1:l.length - i=(l.length - (i+1))+1:=by omega
   have e2:(l.take i).length=i:=by simp; omega
   rw [e1,List.replicate_succ,List.set_append_right _ _ (by omega),e2,Nat.sub_self,List.set_cons_zero,List.take_succ_eq_append_getElem hi,List.append_assoc]
   rfl
  rw [e]
 ·simp [h2]
theorem mk?_ok {α:Type} {byt:Nat} {z:α} {n:Nat} (h:n≤1099511627776) (h2:n*byt≤140737488355328):mk? byt z (n:Int)=some (List.replicate n z):=by
 unfold mk?
 have h3:((n*byt:Nat):Int)≤140737488355328:=by omega
 rw [if_pos ⟨by omega,by rw [Int.mul_comm]; rw [Int.natCast_mul] at h3; exact h3,by omega⟩]; simp
theorem Hg {α ρ:Type} {l:List α} {k:Nat} (hk:k≤l.length) {q:α→Bool} {step:Int→Option (Int ⊕ ρ)} {bad good:ρ} (h1:∀ (i:Nat) (h:i<l.length),i<k→step (i:Int)=if q l[i] then some (.inr bad) else some (.inl ((i+1:Nat):Int))) (h2:step (k:Int)=some (.inr good)):iter step 0=some (if (l.take k).any q then bad else good):=by
 have key:∀ d i,i+d=k→iter step (i:Int)=some (if ((l.take k).drop i).any q then bad else good):=by
  intro d
  induction d with
  | zero => intro i hi; have : i = k := by omega
            subst this; rw [Z4 h2,List.drop_eq_nil_of_le (by simp; omega)]; simp
  | succ d ih =>
   intro i hi
   have hd:(l.take k).drop i=l[i]::(l.take k).drop (i+1):=by
    rw [List.drop_eq_getElem_cons (by simp; omega)]; simp
   rw [hd,List.any_cons]
   have hs:=h1 i (by omega) (by omega)
   cases hq:q l[i] with
   | true=>rw [hq] at hs; rw [Z4 hs]; simp
   | false=>rw [hq] at hs; rw [Co hs,ih (i+1) (by omega)]; simp
 simpa using key k 0 (by omega)
theorem Gn {α:Type} {l:List α} {q:α→Bool} {step:Int→Option (Int ⊕ (Int ⊕ Unit))} (h1:∀ (i:Nat) (h:i<l.length),step (i:Int)=if q l[i] then some (.inr (.inl (i:Int))) else some (.inl ((i+1:Nat):Int))) (h2:step (l.length:Int)=some (.inr (.inr ()))):iter step 0=some (match l.findIdx? q with | some i=>.inl (i:Int) | none=>.inr ()):=by
 have key:∀ d i,i+d=l.length→iter step (i:Int)=some (match (l.drop i).findIdx? q with | some j=>.inl ((i+j:Nat):Int) | none=>.inr ()):=by
  intro d
  induction d with
  | zero => intro i hi; have : i = l.length := by omega
            subst this; rw [Z4 h2,List.drop_eq_nil_of_le (by simp)]; simp
  | succ d ih =>
   intro i hi
   have hs:=h1 i (by omega)
   rw [List.drop_eq_getElem_cons (by omega),List.findIdx?_cons]
   cases hq:q l[i] with
   | true=>rw [hq] at hs; rw [Z4 hs]; simp
   | false =>
    rw [hq] at hs; rw [Co hs,ih (i+1) (by omega)]
    cases (l.drop (i+1)).findIdx? q with
    | none=>simp
    | some j=>simp; omega
 have:=key l.length 0 (by omega)
 simp only [List.drop_zero,Nat.zero_add] at this
 exact this
def idxI:Option Nat→Int
 | some i=>i
 | none=>-1
theorem Qu {α:Type} {l:List α} {q:α→Bool}:decide (idxI (l.findIdx? q)≥0)=l.any q:=by
 rw [← List.findIdx?_isSome]
 cases l.findIdx? q <;> simp [idxI]
theorem sub?_take {α:Type} {l:List α} {i:Nat} (h:i≤l.length):sub? l 0 (i:Int)=some (l.take i):=by
 unfold sub?
 simp
 omega
structure Gi (x:TRec):Prop where
 sUser:x.User.length≤1048576
 sName:x.Name.length≤1048576
 sText:x.Text.length≤1048576
structure Mp (x:TItem):Prop where
 sRec:Gi x.Rec
structure Rp (x:TMail):Prop where
 sText:x.Text.length≤1048576
structure Zh (x:TBox):Prop where
 sUser:x.User.length≤1048576
 sName:x.Name.length≤1048576
 sMails:x.Mails.length≤1048576∧∀ y∈x.Mails,Rp y
theorem Z7 {x0:List TItem} {x1:TItem} {q:TItem→Bool} (hl:x0.length≤9223372036854775806) (hq:∀ y∈x0,K5 y x1=some (q y)):C7 x0 x1=some (idxI (x0.findIdx? q)):=by
 unfold C7
 rw [Gn (l:=x0) (q:=q) ?_ ?_]
 ·cases x0.findIdx? q <;> rfl
 ·intro i hi
  unfold D6
  simp only [dlt hi,if_true,at?_nat hi,ob,hq _ (List.getElem_mem hi),B6 (show i<9223372036854775807 by omega)]
 ·unfold D6
  simp
theorem X6 {x0:List TItem} {x1:TItem} {q:TItem→Bool} (hl:x0.length≤9223372036854775806) (hq:∀ y∈x0,K5 y x1=some (q y)):C1 x0 x1=some (x0.any q):=by
 unfold C1
 rw [Z7 hl hq,ob,Qu]
theorem Ac {x0:List TItem} {x1:TItem} {q:TItem→Bool} (hl:x0.length≤9223372036854775806) (hq:∀ y∈x0,L6 y x1=some (q y)):D1 x0 x1=some (idxI (x0.findIdx? q)):=by
 unfold D1
 rw [Gn (l:=x0) (q:=q) ?_ ?_]
 ·cases x0.findIdx? q <;> rfl
 ·intro i hi
  unfold D8
  simp only [dlt hi,if_true,at?_nat hi,ob,hq _ (List.getElem_mem hi),B6 (show i<9223372036854775807 by omega)]
 ·unfold D8
  simp
theorem Y1 {x0:List TItem} {x1:TItem} {q:TItem→Bool} (hl:x0.length≤9223372036854775806) (hq:∀ y∈x0,L6 y x1=some (q y)):C3 x0 x1=some (x0.any q):=by
 unfold C3
 rw [Ac hl hq,ob,Qu]
theorem Ag {x0:List TItem} {x1:TRec} {q:TItem→Bool} (hl:x0.length≤9223372036854775806) (hq:∀ y∈x0,J1 y x1=some (q y)):D0 x0 x1=some (idxI (x0.findIdx? q)):=by
 unfold D0
 rw [Gn (l:=x0) (q:=q) ?_ ?_]
 ·cases x0.findIdx? q <;> rfl
 ·intro i hi
  unfold D9
  simp only [dlt hi,if_true,at?_nat hi,ob,hq _ (List.getElem_mem hi),B6 (show i<9223372036854775807 by omega)]
 ·unfold D9
  simp
theorem X7 {x0:List TItem} {x1:TRec} {q:TItem→Bool} (hl:x0.length≤9223372036854775806) (hq:∀ y∈x0,J1 y x1=some (q y)):C2 x0 x1=some (x0.any q):=by
 unfold C2
 rw [Ag hl hq,ob,Qu]
theorem Z8 {x0:List TBox} {x1:TBox} {q:TBox→Bool} (hl:x0.length≤9223372036854775806) (hq:∀ y∈x0,R9 y x1=some (q y)):B8 x0 x1=some (idxI (x0.findIdx? q)):=by
 unfold B8
 rw [Gn (l:=x0) (q:=q) ?_ ?_]
 ·cases x0.findIdx? q <;> rfl
 ·intro i hi
  unfold E0
  simp only [dlt hi,if_true,at?_nat hi,ob,hq _ (List.getElem_mem hi),B6 (show i<9223372036854775807 by omega)]
 ·unfold E0
  simp
theorem andv255 (a:Int):0≤andv .i64 a 255∧andv .i64 a 255≤255:=by
 have h:andv .i64 a 255=w64 ((BitVec.ofInt 64 a &&& BitVec.ofInt 64 255).toNat:Int):=rfl
 have h2:(BitVec.ofInt 64 a &&& BitVec.ofInt 64 255).toNat≤255:=by
  rw [BitVec.toNat_and]
  exact Nat.le_trans Nat.and_le_right (by decide)
 rw [h,G9 (by omega) (by omega)]
 omega
def IOk (b:List Int) (i:Int):Prop:=0≤i∧i≤(b.length:Int)∧(b.length:Int)≤1048576
def Dr {α:Type} (b:List Int) (o:Option (α×TL01Cur)) (P:α→Prop):Prop:=∃ r i h,o=some (r,⟨b,i,h⟩)∧P r∧IOk b i
theorem Dr.bind {α β:Type} {b:List Int} {o:Option (α×TL01Cur)} {P:α→Prop} {f:α×TL01Cur→Option (β×TL01Cur)} {Q:β→Prop} (h:Dr b o P) (g:∀ r i h,P r→IOk b i→Dr b (f (r,⟨b,i,h⟩)) Q):Dr b (o.bind f) Q:=by
 obtain ⟨r,i,h',rfl,hp,hi⟩:=h
 exact g r i h' hp hi
theorem Dr.ret {α:Type} {b:List Int} {r:α} {i h:Int} {Q:α→Prop} (hi:IOk b i) (hq:Q r):Dr b (some (r,⟨b,i,h⟩)) Q:=⟨r,i,h,rfl,hq,hi⟩
theorem Gm {b:List Int} {i h:Int} (hi:IOk b i):Dr b (E9 ⟨b,i,h⟩) fun x=>0≤x∧x≤255:=by
 unfold E9
 obtain ⟨h0,h1,h2⟩:=hi
 by_cases hl:i<(b.length:Int)
 ·obtain ⟨n,rfl⟩:∃ n:Nat,i=n:=⟨i.toNat,by omega⟩
  rw [if_pos (by simpa using hl),at?_nat (show n<b.length by omega),ob]
  refine ⟨_,_,_,rfl,andv255 _,?_⟩
  show IOk b (w64 ((n:Int)+1))
  rw [G9 (by omega) (by omega)]; exact ⟨by omega,by omega,h2⟩
 ·rw [if_neg (by simpa using hl)]
  exact ⟨_,_,_,rfl,andv255 _,h0,h1,h2⟩
theorem H8 {b:List Int} {i h:Int} (hi:IOk b i) {n:Int} (hn:1≤n) (hm:n≤4294967296):Dr b (A9 ⟨b,i,h⟩ n) fun x=>0≤x∧x<n:=by
 unfold A9
 rw [if_neg (by simp; omega)]
 have tm:∀ x:Int,0≤x→0≤Int.tmod x n∧Int.tmod x n<n:=fun x hx=>⟨Int.tmod_nonneg _ hx,Int.tmod_lt_of_pos _ (by omega)⟩
 have rm:∀ x:Int,rem? x n=some (Int.tmod x n):=fun x=>by unfold rem?; rw [if_neg (by omega)]
 by_cases hs:n≤256
 ·rw [if_pos (by simpa using hs)]
  refine Dr.bind (Gm hi) fun x i h hx hi=>?_
  rw [rm,ob]
  exact Dr.ret hi (tm x hx.1)
 ·rw [if_neg (by simpa using hs)]
  refine Dr.bind (Gm hi) fun x i h hx hi=>Dr.bind (Gm hi) fun y i h hy hi=>Dr.bind (Gm hi) fun z i h hz hi=>Dr.bind (Gm hi) fun u i h hu hi=>?_
  rw [rm,ob]
  refine Dr.ret hi (tm _ ?_)
  dsimp only
  rw [G9 (n:=x*16777216) (by omega) (by omega),G9 (n:=y*65536) (by omega) (by omega),G9 (n:=z*256) (by omega) (by omega),G9 (n:=x*16777216+y*65536) (by omega) (by omega),G9 (n:=x*16777216+y*65536+z*256) (by omega) (by omega),G9 (by omega) (by omega)]
  omega
theorem Ko {b:List Int} {i h:Int} (hi:IOk b i) {n:Int} (hn:1≤n) (hm:n≤4294967296):Dr b (E4 ⟨b,i,h⟩ n) fun _=>True:=by
 unfold E4
 exact Dr.bind (H8 hi hn hm) fun x i h _ hi=>Dr.ret hi trivial
theorem Mr {b:List Int} {i h:Int} (hi:IOk b i) {l:List Int} (h1:1≤l.length) (h2:l.length≤100):Dr b (G7 ⟨b,i,h⟩ l) fun x=>x∈l:=by
 unfold G7
 refine Dr.bind (H8 hi (by omega) (by omega)) fun x i h hx hi=>?_
 obtain ⟨n,rfl⟩:∃ n:Nat,x=n:=⟨x.toNat,by omega⟩
 rw [at?_nat (by omega),ob]
 exact Dr.ret hi (List.getElem_mem _)
theorem Ra {b:List Int} {i h:Int} (hi:IOk b i) {l:List (List UInt8)} (h1:1≤l.length) (h2:l.length≤100):Dr b (H4 ⟨b,i,h⟩ l) fun x=>x∈l:=by
 unfold H4
 refine Dr.bind (H8 hi (by omega) (by omega)) fun x i h hx hi=>?_
 obtain ⟨n,rfl⟩:∃ n:Nat,x=n:=⟨x.toNat,by omega⟩
 rw [at?_nat (by omega),ob]
 exact Dr.ret hi (List.getElem_mem _)
theorem Xo {b:List Int} (_hb:b.length≤1048576):∃ h,J5 b=some ⟨b,0,h⟩:=by
 have key:∃ r,iter (U9 b) (w64 (76001+(b.length:Int)),0)=some r∧True:=by
  refine Gl (fun s:Int×Int=>0≤s.2∧s.2≤(b.length:Int)) (fun s=>((b.length:Int) - s.2).toNat) (fun _=>True) ?_ _ ⟨by simp,by simp⟩
  rintro ⟨x,i⟩ ⟨h0,h1⟩
  simp only at h0 h1
  unfold U9
  by_cases hl:i<(b.length:Int)
  ·by_cases h4:i<4000
   ·left
    obtain ⟨n,rfl⟩:∃ n:Nat,i=n:=⟨i.toNat,by omega⟩
    rw [if_pos (by simpa using hl),if_pos (by simpa using h4),ob,if_pos rfl]
    show ∃ s',(at? b (n:Int)).bind _=_∧_
    rw [at?_nat (by omega),ob]
    refine ⟨_,rfl,?_,?_⟩
    ·simp only; rw [G9 (by omega) (by omega)]; omega
    ·simp only; rw [G9 (by omega) (by omega)]; omega
   ·right
    rw [if_pos (by simpa using hl),if_neg (by simpa using h4)]
    exact ⟨_,rfl,trivial⟩
  ·right
   rw [if_neg (by simpa using hl)]
   exact ⟨_,rfl,trivial⟩
 obtain ⟨r,e,_⟩:=key
 exact ⟨r,by unfold J5; rw [e,ob]⟩
theorem iok0 {b:List Int} (hb:b.length≤1048576):IOk b 0:=⟨by omega,by omega,by omega⟩
def uniq (l:List Int):List Int:=Lib.compact (sortI l)
def Asc (l:List Int):Prop:=l.Pairwise (fun a b=>a<b)
theorem Ug:∀ {l m:List Int},Asc l→Asc m→(∀ x,x∈l↔x∈m)→l=m
 | [],[],_,_,_=>rfl
 | [],y::m,_,_,h=>absurd ((h y).2 (by simp)) (by simp)
 | x::l,[],_,_,h=>absurd ((h x).1 (by simp)) (by simp)
 | x::l,y::m,hl,hm,h=>by
  have hl':=List.pairwise_cons.1 hl
  have hm':=List.pairwise_cons.1 hm
  have hxy:x=y:=by
   have h1:=(h x).1 (by simp)
   have h2:=(h y).2 (by simp)
   rcases List.mem_cons.1 h1 with e | e
   ·exact e
   ·rcases List.mem_cons.1 h2 with e' | e'
    ·exact e'.symm
    ·have:=hl'.1 y e'
     have:=hm'.1 x e
     omega
  subst hxy
  congr 1
  refine Ug hl'.2 hm'.2 fun z=>?_
  constructor
  ·intro hz
   have:=hl'.1 z hz
   rcases List.mem_cons.1 ((h z).1 (by simp [hz])) with e | e
   ·omega
   ·exact e
  ·intro hz
   have:=hm'.1 z hz
   rcases List.mem_cons.1 ((h z).2 (by simp [hz])) with e | e
   ·omega
   ·exact e
theorem Pu (d:Array Int) (hs:∀ i j,i<j→j<d.size→d[i]!≤d[j]!):∀ m,m≤d.size→Asc (Lib.compactUpTo d m)∧(∀ x,x∈Lib.compactUpTo d m↔∃ i,i<m∧d[i]! = x)
 | 0,_=>by simp [Lib.compactUpTo,Asc]
 | m+1,hm=>by
  obtain ⟨h1,h2⟩:=Pu d hs m (by omega)
  rw [Lib.compactUpTo_succ]
  cases hk:Lib.keeps d m
  ·simp only [Bool.false_eq_true,if_false,List.append_nil]
   refine ⟨h1,fun x=>?_⟩
   rw [h2]
   constructor
   ·rintro ⟨i,hi,e⟩; exact ⟨i,by omega,e⟩
   ·rintro ⟨i,hi,e⟩
    by_cases him:i<m
    ·exact ⟨i,him,e⟩
    ·have hi':i=m:=by omega
     subst hi'
     simp only [Lib.keeps,decide_eq_false_iff_not,not_or,Decidable.not_not,ne_eq] at hk
     exact ⟨i - 1,by omega,by rw [← hk.2]; exact e⟩
  ·simp only [if_true]
   refine ⟨?_,fun x=>?_⟩
   ·unfold Asc
    rw [List.pairwise_append]
    refine ⟨h1,by simp,?_⟩
    intro a ha b hb
    obtain ⟨i,hi,rfl⟩:=(h2 a).1 ha
    have hb':b=d[m]!:=by simpa using hb
    subst hb'
    simp only [Lib.keeps,decide_eq_true_eq] at hk
    rcases hk with hk | hk
    ·omega
    ·have h3:d[m - 1]!≤d[m]!:=hs (m - 1) m (by omega) (by omega)
     have h4:d[i]!≤d[m - 1]!:=by
      by_cases e:i=m - 1
      ·rw [e]; exact Int.le_refl _
      ·exact hs i (m - 1) (by omega) (by omega)
     have hk':d[m]!≠d[m - 1]!:=hk
     omega
   ·rw [List.mem_append,h2]
    constructor
    ·rintro (⟨i,hi,e⟩ | e)
     ·exact ⟨i,by omega,e⟩
     ·exact ⟨m,by omega,by simpa using Eq.symm (List.mem_singleton.1 e)⟩
    ·rintro ⟨i,hi,e⟩
     by_cases him:i<m
     ·exact .inl ⟨i,him,e⟩
     ·have hi':i=m:=by omega
      subst hi'
      exact .inr (by simp [← e])
theorem Qt (l:List Int):(sortI l).Pairwise (fun a b=>a≤b):=by
 have h:=List.pairwise_mergeSort (le:=fun x y:Int=>decide (x≤y)) (fun a b c h1 h2=>by simp only [decide_eq_true_eq] at *; omega) (fun a b=>by simp only [Bool.or_eq_true,decide_eq_true_eq]; omega) l
 exact h.imp (fun h=>by simpa using h)
theorem Xf {l:List Int} {x:Int}:x∈sortI l↔x∈l:=by simp [sortI]
theorem P3 (l:List Int):Asc (uniq l)∧∀ x,x∈uniq l↔x∈l:=by
 have hs:∀ i j,i<j→j<(sortI l).toArray.size→(sortI l).toArray[i]!≤(sortI l).toArray[j]!:=by
  intro i j hij hj
  have hj':j<(sortI l).length:=by simpa using hj
  have:=List.pairwise_iff_getElem.1 (Qt l) i j (by omega) hj' hij
  simpa [hj',show i<(sortI l).length by omega] using this
 obtain ⟨h1,h2⟩:=Pu (sortI l).toArray hs (sortI l).length (by simp)
 refine ⟨h1,fun x=>?_⟩
 have h3:x∈uniq l↔∃ i,i<(sortI l).length∧(sortI l).toArray[i]! = x:=h2 x
 rw [h3,← Xf (l:=l),List.mem_iff_getElem]
 constructor
 ·rintro ⟨i,hi,e⟩; exact ⟨i,hi,by simpa [hi] using e⟩
 ·rintro ⟨i,hi,e⟩; exact ⟨i,hi,by simpa [hi] using e⟩
theorem Vq {l m:List Int} (hm:Asc m) (h:∀ x,x∈l↔x∈m):uniq l=m :=
 Ug (P3 l).1 hm fun x=>((P3 l).2 x).trans (h x)
def ins (l:List Int) (x:Int):List Int:=l.filter (fun y=>decide (y<x))++([x]++l.filter (fun y=>decide (y>x)))
theorem Zc {l:List Int} (h:Asc l) (x:Int):Asc (ins l x):=by
 unfold ins Asc
 rw [List.pairwise_append]
 refine ⟨h.filter _,?_,?_⟩
 ·rw [List.singleton_append,List.pairwise_cons]
  exact ⟨fun a ha=>by have:=(List.mem_filter.1 ha).2; simp at this; omega,h.filter _⟩
 ·intro a ha b hb
  have ha':=(List.mem_filter.1 ha).2
  simp only [decide_eq_true_eq] at ha'
  rcases List.mem_append.1 hb with hb | hb
  ·have:b=x:=by simpa using hb
   omega
  ·have:=(List.mem_filter.1 hb).2
   simp only [decide_eq_true_eq] at this
   omega
theorem Zi {l:List Int} {x y:Int}:y∈ins l x↔y=x∨y∈l:=by
 unfold ins
 simp only [List.mem_append,List.mem_filter,List.mem_singleton,decide_eq_true_eq]
 constructor
 ·rintro (⟨h,_⟩ | h | ⟨h,_⟩)
  ·exact .inr h
  ·exact .inl h
  ·exact .inr h
 ·rintro (h | h)
  ·exact .inr (.inl h)
  ·rcases Int.lt_trichotomy y x with h1 | h1 | h1
   ·exact .inl ⟨h,h1⟩
   ·exact .inr (.inl h1)
   ·exact .inr (.inr ⟨h,h1⟩)
theorem Tr (l:List Int):∀ s:List Int,Asc s→Asc (l.foldl ins s)∧∀ x,x∈l.foldl ins s↔x∈s∨x∈l:=by
 induction l with
 | nil=>intro s hs; exact ⟨hs,by simp⟩
 | cons a l ih =>
  intro s hs
  obtain ⟨h1,h2⟩:=ih (ins s a) (Zc hs a)
  refine ⟨h1,fun x=>?_⟩
  rw [List.foldl_cons,h2,Zi,List.mem_cons]
  constructor
  ·rintro ((h | h) | h)
   ·exact .inr (.inl h)
   ·exact .inl h
   ·exact .inr (.inr h)
  ·rintro (h | h | h)
   ·exact .inl (.inr h)
   ·exact .inl (.inl h)
   ·exact .inr h
theorem Jn (l:List Int):l.foldl ins []=uniq l:=by
 obtain ⟨h1,h2⟩:=Tr l [] .nil
 exact (Vq h1 fun x=>by rw [h2]; simp).symm
theorem Z3 (l:List Int):(uniq l).length≤l.length:=by
 have:=Eg (sortI l)
 rw [Bj] at this
 exact this
theorem Lm {l:List Int} (h:Asc l) (p:Int→Bool):Asc (l.filter p):=List.Pairwise.filter p h
theorem Rr (l:List Int) (p:Int→Bool):(uniq l).filter p=uniq (l.filter p):=by
 refine (Vq (Lm (P3 l).1 p) fun x=>?_).symm
 rw [List.mem_filter,List.mem_filter,(P3 l).2]
structure RecS (x:TRec):Prop where
 user:x.User.length≤1048576
 name:x.Name.length≤1048576
 text:x.Text.length≤1048576
def recOk (x:TRec):Bool:=inR x.Kind 1 5&&inR x.Valid 1 9999 &&
 (if x.Kind=1 then wordOk x.User&&wordOk x.Name&&inR x.Next 1 10000 else x.User==[]&&x.Name==[]&&x.Next==0) &&
 (if x.Kind=3∨x.Kind=4∨x.Kind=5 then inR x.Uid 1 9999 else x.Uid==0) &&
 (if x.Kind=3∨x.Kind=4 then inR x.Flags 0 7 else x.Flags==0) &&
 (if x.Kind=3 then decide (x.Text.length≤100) else x.Text==[])
theorem kinds {n:Int}:inR n 1 5=true→n=1∨n=2∨n=3∨n=4∨n=5:=by
 unfold inR
 intro h
 simp only [Bool.and_eq_true,decide_eq_true_eq] at h
 omega
theorem Yw {n:Int}:inR n 1 5=false→n≠1∧n≠2∧n≠3∧n≠4∧n≠5:=by
 unfold inR
 intro h
 simp only [Bool.and_eq_false_iff,decide_eq_false_iff_not] at h
 omega
theorem iteS {α:Type} {p:Prop} [Decidable p] {a b:α}:(if p then some a else some b)=some (if p then a else b):=by split <;> rfl
theorem Tz {x:TRec} (h:RecS x):Ai x=some (recOk x):=by
 have h1:=Qd (s:=x.User) (by have:=h.user; omega)
 have h2:=Qd (s:=x.Name) (by have:=h.name; omega)
 unfold Ai recOk
 simp only [Kt,h1,h2,ob]
 cases hk:inR x.Kind 1 5 with
 | false=>simp
 | true =>
  cases hv:inR x.Valid 1 9999 with
  | false=>simp
  | true =>
   rcases kinds hk with k | k | k | k | k <;> simp [k,iteS] <;> grind
theorem Uq {x:TRec} (h:RecS x):Z9 x=some (recOk x):=by
 have h1:=Qj (s:=x.User) (by have:=h.user; omega)
 have h2:=Qj (s:=x.Name) (by have:=h.name; omega)
 unfold Z9 recOk
 simp only [Kr,h1,h2,ob]
 cases hv:inR x.Valid 1 9999 with
 | false=>simp
 | true =>
  cases hk:inR x.Kind 1 5 with
  | false =>
   obtain ⟨k1,k2,k3,k4,k5⟩:=Yw hk
   simp [k1,k2,k3,k4,k5]
  | true =>
   rcases kinds hk with k | k | k | k | k <;> simp [k,iteS] <;> grind
def item0:TItem:={ Seq:=0,Rec:={ Kind:=0,Valid:=0,Uid:=0,Next:=0,Flags:=0,User:=[],Name:=[],Text:=[] } }
def itemEq (a b:TItem):Bool:=(a.Seq==b.Seq&&(a.Rec.Kind==b.Rec.Kind&&(a.Rec.Valid==b.Rec.Valid&&(a.Rec.Uid==b.Rec.Uid&&(a.Rec.Next==b.Rec.Next&&(a.Rec.Flags==b.Rec.Flags&&(a.Rec.User==b.Rec.User&&(a.Rec.Name==b.Rec.Name&&(a.Rec.Text==b.Rec.Text&&true)))))))))
theorem De {a b:TItem}:itemEq a b=true↔a=b:=by
 unfold itemEq
 constructor
 ·intro h
  simp only [Bool.and_eq_true,beq_iff_eq,and_true] at h
  obtain ⟨h0,h1,h2,h3,h4,h5,h6,h7,h8⟩:=h
  obtain ⟨s,⟨_,_,_,_,_,_,_,_⟩⟩:=a
  obtain ⟨s',⟨_,_,_,_,_,_,_,_⟩⟩:=b
  simp_all
 ·rintro rfl; simp
theorem RecS.of {x:TRec} (h:Gi x):RecS x:=⟨h.sUser,h.sName,h.sText⟩
def SzI (l:List TItem):Prop:=l.length≤1048576∧∀ y∈l,Mp y
def clash (x y:TItem):Bool:=y.Seq==x.Seq&&!itemEq y x
def itOk (l:List TItem) (i:Nat):Bool:=match l[i]? with
 | some x=>inR x.Seq 1 1000000000&&recOk x.Rec&&!(l.take i).any (clash x)
 | none=>true
def itemsOk (l:List TItem):Bool:=(List.range l.length).all (itOk l)&&decide (l.length≤200)
theorem J7 {l:List TItem} (h:itemsOk l=true):l.length≤200∧(∀ x∈l,(1≤x.Seq∧x.Seq≤1000000000)∧recOk x.Rec=true)∧∀ x∈l,∀ y∈l,x.Seq=y.Seq→x=y:=by
 unfold itemsOk at h
 simp only [Bool.and_eq_true,decide_eq_true_eq,List.all_eq_true] at h
 obtain ⟨h1,h2⟩:=h
 have key:∀ i (hi:i<l.length),(1≤l[i].Seq∧l[i].Seq≤1000000000)∧recOk l[i].Rec=true∧∀ j (hj:j<i),l[j].Seq=l[i].Seq→l[j]=l[i]:=by
  intro i hi
  have h3:=h1 i (List.mem_range.2 hi)
  unfold itOk at h3
  rw [qG hi] at h3
  simp only [Bool.and_eq_true,inR,decide_eq_true_eq,Bool.not_eq_true',List.any_eq_false] at h3
  refine ⟨h3.1.1,h3.1.2,?_⟩
  intro j hj he
  have h4:=h3.2 l[j] (qM (i:=j) (by rw [List.getElem?_take_of_lt hj,qG (by omega)]))
  unfold clash at h4
  rw [he] at h4
  simp only [beq_self_eq_true,Bool.true_and,Bool.not_eq_true',Bool.not_eq_false] at h4
  exact De.1 h4
 refine ⟨h2,?_,?_⟩
 ·intro x hx
  obtain ⟨i,hi,rfl⟩:=List.mem_iff_getElem.1 hx
  exact ⟨(key i hi).1,(key i hi).2.1⟩
 ·intro x hx y hy he
  obtain ⟨i,hi,rfl⟩:=List.mem_iff_getElem.1 hx
  obtain ⟨j,hj,rfl⟩:=List.mem_iff_getElem.1 hy
  rcases Nat.lt_trichotomy i j with h | h | h
  ·exact (key j hj).2.2 i h he
  ·subst h; rfl
  ·exact ((key i hi).2.2 j h he.symm).symm
theorem Ct {l:List TItem} (h:SzI l):K7 l=some (itemsOk l):=by
 have hlen:=h.1
 have hl:iter (M9 l) 0=some (if (List.range l.length).all (itOk l) then .inr () else .inl false):=by
  refine Gv (fun i=>(i:Int)) l.length _ ?_ ?_ ?_
  all_goals first
   | (unfold M9; simp; done)
   | skip
  all_goals
   intro i hi hp
   have inner:iter (Q2 l (i:Int)) 0=some (if (l.take i).any (clash l[i]) then .inl false else .inr ()):=by
    refine Hg (by omega) ?_ ?_
    ·intro j hj hji
     unfold Q2
     simp only [dlt hji,if_true,at?_nat hj,at?_nat hi,ob,B6 (show j<9223372036854775807 by omega)]
     show ((if (l[j].Seq==l[i].Seq)=true then (if (!itemEq l[j] l[i])=true then some true else some false) else some false):Option Bool).bind _=_
     unfold clash
     cases l[j].Seq==l[i].Seq <;> cases itemEq l[j] l[i] <;> simp
    ·unfold Q2
     simp
   have hr:=Tz (RecS.of (h.2 _ (List.getElem_mem hi)).sRec)
   unfold itOk at hp
   rw [qG hi] at hp
   dsimp only at hp
   unfold M9
   simp only [dlt hi,if_true,at?_nat hi,ob,Kt,inner,hr]
   generalize inR l[i].Seq 1 1000000000=b1 at hp ⊢
   generalize recOk l[i].Rec=b2 at hp ⊢
   generalize (l.take i).any (clash l[i])=b4 at hp ⊢
   revert hp
   cases b1 <;> cases b2 <;> cases b4 <;> simp [B6 (show i<9223372036854775807 by omega)]
 unfold K7 itemsOk
 rw [hl]
 cases (List.range l.length).all (itOk l)
 ·simp
 ·simp; omega
theorem Dc {l:List TItem} (h:SzI l):K2 l=some (itemsOk l):=by
 have hlen:=h.1
 have hl:iter (R7 l) 0=some (if (List.range l.length).all (itOk l) then .inr () else .inl false):=by
  refine Gv (fun i=>(i:Int)) l.length _ ?_ ?_ ?_
  all_goals first
   | (unfold R7; simp; done)
   | skip
  all_goals
   intro i hi hp
   have hc:=X6 (x0:=l.take i) (x1:=l[i]) (q:=clash l[i]) (by simp; omega) (fun y _=>by
    show (if (y.Seq==l[i].Seq)=true then some (!itemEq y l[i]) else some false)=_
    unfold clash
    cases y.Seq==l[i].Seq <;> simp)
   have hr:=Uq (RecS.of (h.2 _ (List.getElem_mem hi)).sRec)
   unfold itOk at hp
   rw [qG hi] at hp
   dsimp only at hp
   unfold R7
   simp only [dlt hi,if_true,at?_nat hi,ob,Kr,hc,hr,sub?_take (Nat.le_of_lt hi)]
   generalize inR l[i].Seq 1 1000000000=b1 at hp ⊢
   generalize recOk l[i].Rec=b2 at hp ⊢
   generalize (l.take i).any (clash l[i])=b4 at hp ⊢
   revert hp
   cases b1 <;> cases b2 <;> cases b4 <;> simp [B6 (show i<9223372036854775807 by omega)]
 unfold K2 itemsOk
 rw [hl]
 by_cases h2:l.length≤200
 ·rw [if_neg (by simp; omega)]
  cases (List.range l.length).all (itOk l) <;> simp [h2]
 ·rw [if_pos (by simp; omega)]
  simp [h2]
def pk (p:TItem→Bool) (lt:TItem→TItem→Bool) (l:List TItem):Nat→Option TItem
 | 0=>none
 | i+1=>match l[i]? with
  | some x=>if p x&&(match pk p lt l i with | none=>true | some b=>lt b x) then some x else pk p lt l i
  | none=>pk p lt l i
def pick (p:TItem→Bool) (lt:TItem→TItem→Bool) (l:List TItem):Option TItem:=pk p lt l l.length
abbrev StI:=Bool×Int×Int×Int×Int×Int×Int×Int×List UInt8×List UInt8×List UInt8
abbrev ReI:=Bool×Int×Int×Int×Int×Int×Int×List UInt8×List UInt8×List UInt8
def stI (o:Option TItem) (i:Int):StI:=(o.isSome,i,(o.getD item0).Seq,(o.getD item0).Rec.Kind,(o.getD item0).Rec.Valid,(o.getD item0).Rec.Uid,(o.getD item0).Rec.Next,(o.getD item0).Rec.Flags,(o.getD item0).Rec.User,(o.getD item0).Rec.Name,(o.getD item0).Rec.Text)
def reI (o:Option TItem):ReI:=(o.isSome,(o.getD item0).Seq,(o.getD item0).Rec.Kind,(o.getD item0).Rec.Valid,(o.getD item0).Rec.Uid,(o.getD item0).Rec.Next,(o.getD item0).Rec.Flags,(o.getD item0).Rec.User,(o.getD item0).Rec.Name,(o.getD item0).Rec.Text)
theorem Cn {l:List TItem} {p:TItem→Bool} {lt:TItem→TItem→Bool} {step:StI→Option (StI ⊕ ReI)}
  (h1:∀ (i:Nat) (h:i<l.length) (o:Option TItem),step (stI o (i:Int))=some (.inl (stI (if p l[i]&&(match o with | none=>true | some b=>lt b l[i]) then some l[i] else o) ((i+1:Nat):Int))))
  (h2:∀ o,step (stI o (l.length:Int))=some (.inr (reI o))):iter step (stI none 0)=some (reI (pick p lt l)):=by
 refine G6 (step:=step) (fun i=>stI (pk p lt l i) (i:Int)) l.length ?_ (h2 _)
 intro i hi
 rw [h1 i hi]
 conv=>rhs; rw [pk,qG hi]
def optI (o:Option TItem):TItem×Bool:=(o.getD item0,o.isSome)
def bySeq (a b:TItem):Bool:=decide (a.Seq<b.Seq)
def byNext (a b:TItem):Bool:=if a.Rec.Next != b.Rec.Next then decide (a.Rec.Next<b.Rec.Next) else decide (a.Seq<b.Seq)
def isM (kind valid uid:Int) (x:TItem):Bool:=x.Rec.Kind==kind&&x.Rec.Valid==valid&&x.Rec.Uid==uid
def isB (kind valid:Int) (x:TItem):Bool:=x.Rec.Kind==kind&&x.Rec.Valid==valid
theorem Al {l:List TItem} (h:l.length≤1048576) (k v u:Int):E2 l k v u=some (optI (pick (isM k v u) bySeq l)):=by
 unfold E2
 have:=Cn (l:=l) (p:=isM k v u) (lt:=bySeq) (step:=P5 l k v u) ?_ ?_
 ·rw [show ((false,0,0,0,0,0,0,0,[],[],[]):StI)=stI none 0 from rfl,this]; rfl
 ·intro i hi o
  unfold P5 stI
  simp only [dlt hi,if_true,at?_nat hi,ob,B6 (show i<9223372036854775807 by omega),isM,bySeq]
  rcases o with _ | b
  ·by_cases hk:l[i].Rec.Kind=k <;> by_cases hv:l[i].Rec.Valid=v <;> by_cases hu:l[i].Rec.Uid=u <;> simp [hk,hv,hu]
  ·by_cases hk:l[i].Rec.Kind=k <;> by_cases hv:l[i].Rec.Valid=v <;> by_cases hu:l[i].Rec.Uid=u <;> by_cases hb:b.Seq<l[i].Seq <;> simp [hk,hv,hu,hb]
 ·intro o
  unfold P5 stI reI
  simp
theorem M1 {l:List TItem} (h:l.length≤1048576) (k v u:Int):E3 l k v u=some (optI (pick (isM k v u) bySeq l)):=by
 unfold E3 E7
 have:=Cn (l:=l) (p:=isM k v u) (lt:=bySeq) (step:=C9 l k v u) ?_ ?_
 ·rw [show ((false,0,0,0,0,0,0,0,[],[],[]):StI)=stI none 0 from rfl,this]; rfl
 ·intro i hi o
  unfold C9 stI M5 E8 L8
  simp only [dlt hi,if_true,at?_nat hi,ob,B6 (show i<9223372036854775807 by omega),isM,bySeq]
  rcases o with _ | b
  ·by_cases hk:l[i].Rec.Kind=k <;> by_cases hv:l[i].Rec.Valid=v <;> by_cases hu:l[i].Rec.Uid=u <;> simp [hk,hv,hu]
  ·by_cases hk:l[i].Rec.Kind=k <;> by_cases hv:l[i].Rec.Valid=v <;> by_cases hu:l[i].Rec.Uid=u <;> by_cases hb:b.Seq<l[i].Seq <;> simp [hk,hv,hu,hb]
 ·intro o
  unfold C9 stI reI
  simp
theorem Wq {l:List TItem} (h:l.length≤1048576) (v:Int):D5 l v=some (optI (pick (isB 2 v) bySeq l)):=by
 unfold D5
 have:=Cn (l:=l) (p:=isB 2 v) (lt:=bySeq) (step:=C8 l v) ?_ ?_
 ·rw [show ((false,0,0,0,0,0,0,0,[],[],[]):StI)=stI none 0 from rfl,this]; rfl
 ·intro i hi o
  unfold C8 stI M4 E8 L8
  simp only [dlt hi,if_true,at?_nat hi,ob,B6 (show i<9223372036854775807 by omega),isB,bySeq]
  rcases o with _ | b
  ·by_cases hk:l[i].Rec.Kind=2 <;> by_cases hv:l[i].Rec.Valid=v <;> simp [hk,hv]
  ·by_cases hk:l[i].Rec.Kind=2 <;> by_cases hv:l[i].Rec.Valid=v <;> by_cases hb:b.Seq<l[i].Seq <;> simp [hk,hv,hb]
 ·intro o
  unfold C8 stI reI
  simp
theorem Uu {l:List TItem} (h:l.length≤1048576) (r:TRec):E1 l r=some (optI (pick (isB 2 r.Valid) bySeq l)):=by
 unfold E1
 have:=Cn (l:=l) (p:=isB 2 r.Valid) (lt:=bySeq) (step:=D4 l r) ?_ ?_
 ·rw [show ((false,0,0,0,0,0,0,0,[],[],[]):StI)=stI none 0 from rfl,this]; rfl
 ·intro i hi o
  unfold D4 stI V0 E8 L8
  simp only [dlt hi,if_true,at?_nat hi,ob,B6 (show i<9223372036854775807 by omega),isB,bySeq]
  rcases o with _ | b
  ·by_cases hk:l[i].Rec.Kind=2 <;> by_cases hv:l[i].Rec.Valid=r.Valid <;> simp [hk,hv]
  ·by_cases hk:l[i].Rec.Kind=2 <;> by_cases hv:l[i].Rec.Valid=r.Valid <;> by_cases hb:b.Seq<l[i].Seq <;> simp [hk,hv,hb]
 ·intro o
  unfold D4 stI reI
  simp
theorem Yv {l:List TItem} (h:l.length≤1048576) (v:Int):D3 l v=some (optI (pick (isB 1 v) byNext l)):=by
 unfold D3
 have:=Cn (l:=l) (p:=isB 1 v) (lt:=byNext) (step:=C6 l v) ?_ ?_
 ·rw [show ((false,0,0,0,0,0,0,0,[],[],[]):StI)=stI none 0 from rfl,this]; rfl
 ·intro i hi o
  unfold C6 stI M6 E8 Aw
  simp only [dlt hi,if_true,at?_nat hi,ob,B6 (show i<9223372036854775807 by omega),isB,byNext]
  rcases o with _ | b
  ·by_cases hk:l[i].Rec.Kind=1 <;> by_cases hv:l[i].Rec.Valid=v <;> simp [hk,hv]
  ·by_cases hk:l[i].Rec.Kind=1 <;> by_cases hv:l[i].Rec.Valid=v <;> by_cases hn:b.Rec.Next=l[i].Rec.Next <;> by_cases hb:b.Seq<l[i].Seq <;> by_cases hx:b.Rec.Next<l[i].Rec.Next <;> simp [hk,hv,hb,hn,hx]
 ·intro o
  unfold C6 stI reI
  simp
theorem Kp {p:TItem→Bool} {lt:TItem→TItem→Bool} {l:List TItem} (irr:∀ a,lt a a=false) (tr:∀ a b c,lt a b=true→lt b c=true→lt a c=true):∀ i,i≤l.length →
  (match pk p lt l i with | some b=>b∈l∧p b=true∧∀ (j:Nat) y,j<i→l[j]?=some y→p y=true→lt b y=false | none=>∀ (j:Nat) y,j<i→l[j]?=some y→p y=false)
 | 0,_=>by simp [pk]
 | i+1,hi=>by
  have ih:=Kp irr tr (p:=p) (l:=l) i (by omega)
  have hg:l[i]?=some l[i]:=qG (by omega)
  rw [pk,hg]
  dsimp only
  cases hp:pk p lt l i with
  | none =>
   rw [hp] at ih
   dsimp only at ih
   cases hx:p l[i] with
   | true =>
    simp only [Bool.true_and,if_true]
    refine ⟨List.getElem_mem _,hx,?_⟩
    intro j y hj hy hpy
    by_cases e:j=i
    ·subst e; rw [hg] at hy; cases hy; exact irr _
    ·rw [ih j y (by omega) hy] at hpy; cases hpy
   | false =>
    simp only [Bool.false_and]
    intro j y hj hy
    by_cases e:j=i
    ·subst e; rw [hg] at hy; cases hy; exact hx
    ·exact ih j y (by omega) hy
  | some b =>
   rw [hp] at ih
   dsimp only at ih
   obtain ⟨h1,h2,h3⟩:=ih
   cases hx:p l[i] with
   | false =>
    simp only [Bool.false_and]
    refine ⟨h1,h2,?_⟩
    intro j y hj hy hpy
    by_cases e:j=i
    ·subst e; rw [hg] at hy; cases hy; rw [hx] at hpy; cases hpy
    ·exact h3 j y (by omega) hy hpy
   | true =>
    simp only [Bool.true_and]
    cases hl:lt b l[i] with
    | false =>
     simp only [Bool.false_eq_true,if_false]
     refine ⟨h1,h2,?_⟩
     intro j y hj hy hpy
     by_cases e:j=i
     ·subst e; rw [hg] at hy; cases hy; exact hl
     ·exact h3 j y (by omega) hy hpy
    | true =>
     simp only [if_true]
     refine ⟨List.getElem_mem _,hx,?_⟩
     intro j y hj hy hpy
     by_cases e:j=i
     ·subst e; rw [hg] at hy; cases hy; exact irr _
     ·have h4:=h3 j y (by omega) hy hpy
      cases h5:lt l[i] y with
      | false=>rfl
      | true=>rw [tr _ _ _ hl h5] at h4; cases h4
theorem Ar (a:TItem):bySeq a a=false:=by simp [bySeq]
theorem Br (a b c:TItem) (h:bySeq a b=true) (h':bySeq b c=true):bySeq a c=true:=by simp [bySeq] at *; omega
theorem M2 (a:TItem):byNext a a=false:=by simp [byNext]
theorem Cx {a b:TItem}:byNext a b=true↔a.Rec.Next<b.Rec.Next∨(a.Rec.Next=b.Rec.Next∧a.Seq<b.Seq):=by
 unfold byNext
 by_cases h:a.Rec.Next=b.Rec.Next
 ·simp [h]
 ·simp [h]
theorem U5 (a b c:TItem) (h:byNext a b=true) (h':byNext b c=true):byNext a c=true:=by
 rw [Cx] at *
 omega
theorem Bn {p lt l b} (irr:∀ a,lt a a=false) (tr:∀ a b c,lt a b=true→lt b c=true→lt a c=true) (h:pick p lt l=some b):b∈l∧p b=true∧∀ y∈l,p y=true→lt b y=false:=by
 have:=Kp (p:=p) (l:=l) irr tr l.length (Nat.le_refl _)
 unfold pick at h
 rw [h] at this
 refine ⟨this.1,this.2.1,?_⟩
 intro y hy hp
 obtain ⟨j,hj⟩:=List.getElem?_of_mem hy
 exact this.2.2 j y (qI hj).1 hj hp
theorem Eo {p lt l} (irr:∀ a,lt a a=false) (tr:∀ a b c,lt a b=true→lt b c=true→lt a c=true) (h:pick p lt l=none):∀ y∈l,p y=false:=by
 have:=Kp (p:=p) (l:=l) irr tr l.length (Nat.le_refl _)
 unfold pick at h
 rw [h] at this
 intro y hy
 obtain ⟨j,hj⟩:=List.getElem?_of_mem hy
 exact this j y (qI hj).1 hj
theorem Tp {p q:TItem→Bool} {lt:TItem→TItem→Bool} {l:List TItem} (h:∀ y∈l,p y=q y):∀ i,pk p lt l i=pk q lt l i
 | 0=>rfl
 | i+1=>by
  unfold pk
  rw [Tp h i]
  cases hx:l[i]? with
  | none=>rfl
  | some x=>simp only [h x (qM hx)]
theorem Ms {p q:TItem→Bool} {lt:TItem→TItem→Bool} {l:List TItem} (h:∀ y∈l,p y=q y):pick p lt l=pick q lt l:=Tp h _
theorem Ay {p lt l} (irr:∀ a,lt a a=false) (tr:∀ a b c,lt a b=true→lt b c=true→lt a c=true):(pick p lt l).isSome=l.any p:=by
 cases h:pick p lt l with
 | none =>
  have:=Eo irr tr h
  symm
  simp only [Option.isSome_none,List.any_eq_false]
  intro y hy; rw [this y hy]; simp
 | some b =>
  obtain ⟨h1,h2,_⟩:=Bn irr tr h
  symm
  simp only [Option.isSome_some,List.any_eq_true]
  exact ⟨b,h1,h2⟩
def hasB (l:List TItem) (k v u:Int):Bool:=(pick (isM k v u) bySeq l).isSome
def there (l:List TItem) (v:Int):Bool:=hasB l 1 v 0&&!hasB l 2 v 0
def bigger (a b:TItem):Bool:=decide (a.Rec.Next>b.Rec.Next)||(a.Rec.Next==b.Rec.Next&&decide (a.Seq>b.Seq))
def seqIs (o:Option TItem) (x:TItem):Bool:=(o.getD item0).Seq==x.Seq
def needB (l:List TItem) (x:TItem):Bool :=
 if x.Rec.Kind=1 then !(l.any fun y=>isB 1 x.Rec.Valid y&&bigger y x)&&there l x.Rec.Valid
 else if x.Rec.Kind=2 then (l.any fun y=>y.Rec.Kind != 2&&y.Rec.Valid==x.Rec.Valid)&&seqIs (pick (isM 2 x.Rec.Valid 0) bySeq l) x
 else if x.Rec.Kind=5 then there l x.Rec.Valid&&hasB l 3 x.Rec.Valid x.Rec.Uid&&seqIs (pick (isM 5 x.Rec.Valid x.Rec.Uid) bySeq l) x
 else there l x.Rec.Valid&&hasB l 3 x.Rec.Valid x.Rec.Uid&&!hasB l 5 x.Rec.Valid x.Rec.Uid&&seqIs (pick (isM x.Rec.Kind x.Rec.Valid x.Rec.Uid) bySeq l) x
def needK (l:List TItem) (k:Nat) (x:TItem):Bool:=!(l.take k).any (fun y=>y.Seq==x.Seq)&&needB l x
theorem Ed {l:List TItem} (h:l.length≤1048576) (k v u:Int):H5 l k v u=some (hasB l k v u):=by
 unfold H5; rw [Al h]; rfl
theorem Fg {l:List TItem} (h:l.length≤1048576) (v:Int):J4 l v=some (there l v):=by
 unfold J4 there
 rw [Ed h,ob,Ed h]
 cases hasB l 1 v 0 <;> simp
theorem Rl (a b:TItem):R3 a b=some (bigger a b):=by
 unfold R3 bigger
 by_cases h1:a.Rec.Next>b.Rec.Next <;> by_cases h2:a.Rec.Next=b.Rec.Next <;> simp [h1,h2]
theorem Qe {l:List TItem} (h:l.length≤1048576) {k:Nat} (hk:k<l.length):P4 l (k:Int)=some (needK l k l[k]):=by
 have d1:iter (P1 l (k:Int) l[k]) 0=some (if (l.take k).any (fun y=>y.Seq==l[k].Seq) then .inl false else .inr ()):=by
  refine Hg (by omega) ?_ ?_
  ·intro j hj hjk
   unfold P1
   simp only [dlt hjk,if_true,at?_nat hj,ob,B6 (show j<9223372036854775807 by omega)]
  ·unfold P1; simp
 have d2:∀ v:TItem×Bool,iter (Q6 l l[k] v) 0=some (if (l.take l.length).any (fun y=>y.Rec.Kind != 2&&y.Rec.Valid==l[k].Rec.Valid) then .inl (v.1.Seq==l[k].Seq) else .inr ()):=by
  intro v
  refine Hg (by omega) ?_ ?_
  ·intro j hj hjk
   unfold Q6
   simp only [dlt hjk,if_true,at?_nat hj,ob,B6 (show j<9223372036854775807 by omega)]
   by_cases q1:l[j].Rec.Kind=2 <;> by_cases q2:l[j].Rec.Valid=l[k].Rec.Valid <;> simp [q1,q2]
  ·unfold Q6; simp
 have d3:iter (Q4 l l[k]) 0=some (if (l.take l.length).any (fun y=>isB 1 l[k].Rec.Valid y&&bigger y l[k]) then .inl false else .inr ()):=by
  refine Hg (by omega) ?_ ?_
  ·intro j hj hjk
   unfold Q4
   simp only [dlt hjk,if_true,at?_nat hj,ob,B6 (show j<9223372036854775807 by omega),Rl,isB]
   by_cases q1:l[j].Rec.Kind=1 <;> by_cases q2:l[j].Rec.Valid=l[k].Rec.Valid <;> cases bigger l[j] l[k] <;> simp [q1,q2]
  ·unfold Q4; simp
 unfold P4 needK
 rw [at?_nat hk,ob,d1,ob]
 cases (l.take k).any (fun y=>y.Seq==l[k].Seq) with
 | true=>rfl
 | false =>
  simp only [Bool.not_false,Bool.true_and,Sum.elim_inr]
  unfold needB
  rw [List.take_length] at d2 d3
  by_cases k1:l[k].Rec.Kind=1
  ·rw [if_pos (by simpa using k1),if_pos k1,d3,ob]
   cases l.any (fun y=>isB 1 l[k].Rec.Valid y&&bigger y l[k])
   ·simp [Fg h]
   ·simp
  ·rw [if_neg (by simpa using k1),if_neg k1]
   by_cases k2:l[k].Rec.Kind=2
   ·rw [if_pos (by simpa using k2),if_pos k2,Al h,ob,d2,ob]
    cases l.any (fun y=>y.Rec.Kind != 2&&y.Rec.Valid==l[k].Rec.Valid) <;> simp [optI,seqIs]
   ·rw [if_neg (by simpa using k2),if_neg k2]
    by_cases k5:l[k].Rec.Kind=5
    ·rw [if_pos (by simpa using k5),if_pos k5,Al h,ob,Fg h,ob,Ed h]
     cases there l l[k].Rec.Valid <;> cases hasB l 3 l[k].Rec.Valid l[k].Rec.Uid <;> simp [optI,seqIs]
    ·rw [if_neg (by simpa using k5),if_neg k5,Al h,ob,Fg h,ob,Ed h,Ed h]
     cases there l l[k].Rec.Valid <;> cases hasB l 3 l[k].Rec.Valid l[k].Rec.Uid <;> cases hasB l 5 l[k].Rec.Valid l[k].Rec.Uid <;> simp [optI,seqIs]
theorem Jb {x:TRec} (h:recOk x=true) (hk:x.Kind=1∨x.Kind=2):x.Uid=0:=by
 unfold recOk at h
 simp only [Bool.and_eq_true] at h
 have:=h.1.1.2
 rw [if_neg (by omega)] at this
 simpa using this
theorem El {l:List TItem} (hok:itemsOk l=true) {k:Int} (hk:k=1∨k=2) (v:Int):∀ y∈l,isB k v y=isM k v 0 y:=by
 intro y hy
 have h1:=((J7 hok).2.1 y hy).2
 unfold isB isM
 by_cases h2:y.Rec.Kind=k
 ·have:=Jb h1 (by rw [h2]; exact hk)
  simp [this]
 ·simp [h2]
theorem En {l:List TItem} (hok:itemsOk l=true) {p:TItem→Bool} {x:TItem} (hx:x∈l) (hp:p x=true) {o:Option TItem} (ho:pick p bySeq l=o):(o.isSome&&itemEq (o.getD item0) x)=seqIs o x:=by
 subst ho
 cases h:pick p bySeq l with
 | none=>have:=Eo Ar Br h x hx; rw [hp] at this; cases this
 | some b =>
  obtain ⟨h1,h2,_⟩:=Bn Ar Br h
  unfold seqIs
  rw [Bool.eq_iff_iff]
  simp only [Option.isSome_some,Option.getD_some,Bool.true_and,De,beq_iff_eq]
  exact ⟨fun e=>by rw [e],fun e=>(J7 hok).2.2 b h1 x hx e⟩
theorem Xu {l:List TItem} (hok:itemsOk l=true) {x:TItem} (hx:x∈l) (hk:x.Rec.Kind=1):itemEq ((pick (isB 1 x.Rec.Valid) byNext l).getD item0) x=!(l.any fun y=>isB 1 x.Rec.Valid y&&bigger y x):=by
 have hp:isB 1 x.Rec.Valid x=true:=by simp [isB,hk]
 cases h:pick (isB 1 x.Rec.Valid) byNext l with
 | none=>have:=Eo M2 U5 h x hx; rw [hp] at this; cases this
 | some b =>
  obtain ⟨h1,h2,h3⟩:=Bn M2 U5 h
  rw [Bool.eq_iff_iff]
  simp only [Option.getD_some,De,Bool.not_eq_true',List.any_eq_false,Bool.and_eq_true,not_and]
  have hb:∀ y z:TItem,bigger y z=true↔byNext z y=true:=by
   intro y z
   rw [Cx]
   unfold bigger
   simp only [Bool.or_eq_true,Bool.and_eq_true,decide_eq_true_eq,beq_iff_eq]
   omega
  constructor
  ·rintro rfl y hy hpy hby
   rw [hb,h3 y hy hpy] at hby; cases hby
  ·intro hall
   have g1:=hall b h1 h2
   rw [hb] at g1
   have g2:=h3 x hx hp
   rw [← Bool.not_eq_true] at g2
   rw [Cx] at g1 g2
   exact (J7 hok).2.2 b h1 x hx (by omega)
theorem X8 {l:List TItem} (h:l.length≤1048576) (hok:itemsOk l=true) (v:Int):G8 l v=some (if there l v then optI (pick (isB 1 v) byNext l) else (item0,false)):=by
 unfold G8 there hasB
 rw [Wq h,ob,Yv h,Ms (El hok (.inr rfl) v)]
 have e:(pick (isB 1 v) byNext l).isSome=(pick (isM 1 v 0) bySeq l).isSome:=by
  rw [Ay M2 U5,Ay Ar Br]
  rw [Bool.eq_iff_iff,List.any_eq_true,List.any_eq_true]
  exact ⟨fun ⟨y,h1,h2⟩=>⟨y,h1,by rw [← El hok (.inl rfl) v y h1]; exact h2⟩,fun ⟨y,h1,h2⟩=>⟨y,h1,by rw [El hok (.inl rfl) v y h1]; exact h2⟩⟩
 rw [← e]
 unfold optI
 cases (pick (isM 2 v 0) bySeq l).isSome with
 | true=>simp; rfl
 | false =>
  cases hb:pick (isB 1 v) byNext l <;> simp
theorem Ea {l:List TItem} (h:l.length≤1048576) (hok:itemsOk l=true) (v u:Int):∃ y,F0 l v u=some (y,there l v&&!hasB l 5 v u&&hasB l 3 v u):=by
 unfold F0
 rw [X8 h hok,ob]
 have hs:there l v=true→(pick (isB 1 v) byNext l).isSome=true:=by
  intro ht
  unfold there hasB at ht
  simp only [Bool.and_eq_true] at ht
  rw [Ay M2 U5]
  have:=ht.1
  rw [Ay Ar Br] at this
  obtain ⟨y,h1,h2⟩:=List.any_eq_true.1 this
  exact List.any_eq_true.2 ⟨y,h1,by rw [El hok (.inl rfl) v y h1]; exact h2⟩
 cases ht:there l v with
 | false=>exact ⟨item0,by simp; rfl⟩
 | true =>
  have:=hs ht
  simp only [if_true,optI,this,Bool.not_true,Bool.false_eq_true,if_false,M1 h,ob]
  unfold hasB
  cases (pick (isM 5 v u) bySeq l).isSome with
  | true=>exact ⟨item0,by simp; rfl⟩
  | false=>exact ⟨_,by simp; rfl⟩
theorem Pw {l:List TItem} (h:l.length≤1048576) (hok:itemsOk l=true) {k:Nat} (hk:k<l.length):U8 l (k:Int)=some (needK l k l[k]):=by
 have hc:=Y1 (x0:=l.take k) (x1:=l[k]) (q:=fun y=>y.Seq==l[k].Seq) (by simp; omega) (fun y _=>rfl)
 have hc2:=X7 (x0:=l) (x1:=l[k].Rec) (q:=fun y=>y.Rec.Kind != 2&&y.Rec.Valid==l[k].Rec.Valid) (by omega) (fun y _=>by
  unfold J1
  by_cases q1:y.Rec.Kind=2 <;> by_cases q2:y.Rec.Valid=l[k].Rec.Valid <;> simp [q1,q2])
 have hm:l[k]∈l:=List.getElem_mem hk
 have hr:=((J7 hok).2.1 _ hm).2
 unfold U8 needK
 rw [at?_nat hk,ob,sub?_take (Nat.le_of_lt hk),ob,hc,ob]
 cases (l.take k).any (fun y=>y.Seq==l[k].Seq) with
 | true=>rfl
 | false =>
  simp only [Bool.not_false,Bool.true_and,Bool.false_eq_true,if_false]
  unfold needB
  have fin:∀ {o:Option TItem},(if o.isSome=true then some ((o.getD item0).Seq==l[k].Seq&&((o.getD item0).Rec.Kind==l[k].Rec.Kind&&((o.getD item0).Rec.Valid==l[k].Rec.Valid&&((o.getD item0).Rec.Uid==l[k].Rec.Uid&&((o.getD item0).Rec.Next==l[k].Rec.Next&&((o.getD item0).Rec.Flags==l[k].Rec.Flags&&((o.getD item0).Rec.User==l[k].Rec.User&&((o.getD item0).Rec.Name==l[k].Rec.Name&&((o.getD item0).Rec.Text==l[k].Rec.Text&&true))))))))) else some false)=some (o.isSome&&itemEq (o.getD item0) l[k]):=by
   intro o
   cases o <;> rfl
  have kk:=kinds (n:=l[k].Rec.Kind) (by unfold recOk at hr; simp only [Bool.and_eq_true] at hr; exact hr.1.1.1.1.1)
  rcases kk with e | e | e | e | e
  ·have hb:=Xu hok hm e
   have h1:=X8 h hok l[k].Rec.Valid
   rw [if_pos (by simpa using e),if_pos e,h1,ob,ob]
   cases ht:there l l[k].Rec.Valid with
   | false=>simp
   | true =>
    have hp:isB 1 l[k].Rec.Valid l[k]=true:=by simp [isB,e]
    have hs:(pick (isB 1 l[k].Rec.Valid) byNext l).isSome=true:=by rw [Ay M2 U5]; exact List.any_eq_true.2 ⟨_,hm,hp⟩
    rw [← hb]
    simp only [if_true,optI,Sum.elim_inr]
    rw [fin,hs]; simp
  ·have hp:isM 2 l[k].Rec.Valid 0 l[k]=true:=by simp [isM,e,Jb hr (.inr e)]
   have hs:=En hok hm hp rfl
   rw [if_neg (by simp [e]),if_pos (by simp [e]),if_neg (by omega),if_pos e,hc2,ob,Uu h,Ms (El hok (.inr rfl) _)]
   cases l.any (fun y=>y.Rec.Kind != 2&&y.Rec.Valid==l[k].Rec.Valid) with
   | false=>simp
   | true =>
    simp only [if_true,optI,ob,Sum.elim_inr]
    rw [fin,hs]; simp
  ·have hp:isM l[k].Rec.Kind l[k].Rec.Valid l[k].Rec.Uid l[k]=true:=by simp [isM]
   have hs:=En hok hm hp rfl
   obtain ⟨y,h1⟩:=Ea h hok l[k].Rec.Valid l[k].Rec.Uid
   rw [if_neg (by simp [e]),if_neg (by simp [e]),if_pos (by simp [e]),if_neg (by omega),if_neg (by omega),if_neg (by omega),h1,ob,M1 h]
   cases there l l[k].Rec.Valid <;> cases hasB l 5 l[k].Rec.Valid l[k].Rec.Uid <;> cases hasB l 3 l[k].Rec.Valid l[k].Rec.Uid <;> simp only [Bool.not_true,Bool.not_false,Bool.true_and,Bool.false_and,Bool.and_false,if_true,if_false,Bool.false_eq_true,optI,ob,Sum.elim_inr,Sum.elim_inl]
   all_goals first
    | (rw [fin,hs]; done)
    | rfl
  ·have hp:isM l[k].Rec.Kind l[k].Rec.Valid l[k].Rec.Uid l[k]=true:=by simp [isM]
   have hs:=En hok hm hp rfl
   obtain ⟨y,h1⟩:=Ea h hok l[k].Rec.Valid l[k].Rec.Uid
   rw [if_neg (by simp [e]),if_neg (by simp [e]),if_neg (by simp [e]),if_pos (by simp [e]),ob,if_pos rfl,if_neg (by omega),if_neg (by omega),if_neg (by omega),h1,ob,M1 h]
   cases there l l[k].Rec.Valid <;> cases hasB l 5 l[k].Rec.Valid l[k].Rec.Uid <;> cases hasB l 3 l[k].Rec.Valid l[k].Rec.Uid <;> simp only [Bool.not_true,Bool.not_false,Bool.true_and,Bool.false_and,Bool.and_false,if_true,if_false,Bool.false_eq_true,optI,ob,Sum.elim_inr,Sum.elim_inl]
   all_goals first
    | (rw [fin,hs]; done)
    | rfl
  ·have hp:isM 5 l[k].Rec.Valid l[k].Rec.Uid l[k]=true:=by simp [isM,e]
   have hs:=En hok hm hp rfl
   have h1:=X8 h hok l[k].Rec.Valid
   have hbx:there l l[k].Rec.Valid=true→(pick (isB 1 l[k].Rec.Valid) byNext l).isSome=true:=by
    intro ht
    unfold there hasB at ht
    simp only [Bool.and_eq_true] at ht
    rw [Ay M2 U5]
    have:=ht.1
    rw [Ay Ar Br] at this
    obtain ⟨y,g1,g2⟩:=List.any_eq_true.1 this
    exact List.any_eq_true.2 ⟨y,g1,by rw [El hok (.inl rfl) _ y g1]; exact g2⟩
   rw [if_neg (by simp [e]),if_neg (by simp [e]),if_neg (by simp [e]),if_neg (by simp [e]),ob,if_neg (by simp),if_pos (by simp [e]),if_neg (by omega),if_neg (by omega),if_pos e,h1,ob,M1 h,ob,M1 h]
   unfold hasB optI
   cases ht:there l l[k].Rec.Valid with
   | false=>rfl
   | true =>
    have:=hbx ht
    generalize (pick (isM 3 l[k].Rec.Valid l[k].Rec.Uid) bySeq l).isSome=b3
    cases b3 <;> simp only [Bool.not_true,Bool.not_false,Bool.true_and,Bool.false_and,Bool.and_false,if_true,if_false,Bool.false_eq_true,this,ob,Sum.elim_inr,Sum.elim_inl]
    rw [fin,hs]
def mailOf (l:List TItem) (v u:Int):TMail:={ Uid:=u,Flags:=((pick (isM 4 v u) bySeq l).getD ((pick (isM 3 v u) bySeq l).getD item0)).Rec.Flags,Text:=((pick (isM 3 v u) bySeq l).getD item0).Rec.Text }
def isA (l:List TItem) (v:Int) (x:TItem):Bool:=x.Rec.Kind==3&&(x.Rec.Valid==v&&!hasB l 5 v x.Rec.Uid)
def uidsOf (l:List TItem) (v:Int):List Int:=uniq ((l.filter (isA l v)).map fun x=>x.Rec.Uid)
def isAG (v:Int) (x:TItem):Bool:=(x.Rec.Kind==3&&x.Rec.Valid==v)||(x.Rec.Kind==5&&x.Rec.Valid==v)
def allUids (l:List TItem) (v:Int):List Int:=uniq ((l.filter (isAG v)).map fun x=>x.Rec.Uid)
def tellOf (l:List TItem) (v:Int):TItem:=(pick (isB 1 v) byNext l).getD item0
def kOf (v:Int) (x:TItem):Int:=if x.Rec.Valid=v then (if x.Rec.Kind=1 then x.Rec.Next else if x.Rec.Kind=3∨x.Rec.Kind=5 then x.Rec.Uid+1 else 0) else 0
def nextOf (l:List TItem) (v:Int):Int:=l.foldl (fun n x=>max n (kOf v x)) 1
def mailsOf (l:List TItem) (v:Int):List TMail:=(uidsOf l v).map (mailOf l v)
def boxOf (l:List TItem) (v:Int):TBox:={ Valid:=v,User:=(tellOf l v).Rec.User,Name:=(tellOf l v).Rec.Name,Next:=nextOf l v,Mails:=mailsOf l v }
def isBx (l:List TItem) (x:TItem):Bool:=x.Rec.Kind==1&&!hasB l 2 x.Rec.Valid 0
def validsOf (l:List TItem):List Int:=uniq ((l.filter (isBx l)).map fun x=>x.Rec.Valid)
def allValids (l:List TItem):List Int:=uniq ((l.filter fun x=>x.Rec.Kind==1).map fun x=>x.Rec.Valid)
def stateOf (l:List TItem):TState:=if itemsOk l then { Boxes:=(validsOf l).map (boxOf l) } else { Boxes:=[] }
theorem Gj {l:List TItem} {k v u:Int}:hasB l k v u=true↔∃ y∈l,y.Rec.Kind=k∧y.Rec.Valid=v∧y.Rec.Uid=u:=by
 unfold hasB
 rw [Ay Ar Br,List.any_eq_true]
 simp only [isM,Bool.and_eq_true,beq_iff_eq]
 exact ⟨fun ⟨y,h,⟨h1,h2⟩,h3⟩=>⟨y,h,h1,h2,h3⟩,fun ⟨y,h,h1,h2,h3⟩=>⟨y,h,⟨h1,h2⟩,h3⟩⟩
theorem Rf {l:List TItem} (hok:itemsOk l=true) {x:TItem} (hx:x∈l):recOk x.Rec=true:=((J7 hok).2.1 x hx).2
theorem Ut {x:TRec} (h:recOk x=true) (hk:x.Kind=1):1≤x.Next∧x.Next≤10000:=by
 unfold recOk at h
 simp only [Bool.and_eq_true] at h
 have:=h.1.1.1.2
 rw [if_pos hk] at this
 simp only [inR,Bool.and_eq_true,decide_eq_true_eq] at this
 exact this.2
theorem Lp {x:TRec} (h:recOk x=true):0≤x.Uid∧x.Uid≤9999:=by
 unfold recOk at h
 simp only [Bool.and_eq_true] at h
 have:=h.1.1.2
 by_cases hk:x.Kind=3∨x.Kind=4∨x.Kind=5
 ·rw [if_pos hk] at this
  simp only [inR,Bool.and_eq_true,decide_eq_true_eq] at this; omega
 ·rw [if_neg hk] at this
  have:x.Uid=0:=by simpa using this
  omega
theorem Vs {l:List TItem} (hok:itemsOk l=true):(allValids l).filter (there l)=validsOf l:=by
 unfold allValids validsOf
 rw [Rr,List.filter_map,List.filter_filter]
 congr 2
 refine List.filter_congr fun x hx=>?_
 show (there l x.Rec.Valid&&(x.Rec.Kind==1))=isBx l x
 unfold isBx
 by_cases hk:x.Rec.Kind=1
 ·have h1:hasB l 1 x.Rec.Valid 0=true:=Gj.2 ⟨x,hx,hk,rfl,Jb (Rf hok hx) (.inl hk)⟩
  simp [there,h1,hk]
 ·have h0:(x.Rec.Kind==1)=false:=by simpa using hk
  simp [h0]
theorem Yz {l:List TItem} {v:Int} (ht:there l v=true):(allUids l v).filter (fun u=>there l v&&!hasB l 5 v u&&hasB l 3 v u)=uidsOf l v:=by
 unfold allUids uidsOf
 refine Ug (Lm (P3 _).1 _) (P3 _).1 fun u=>?_
 rw [List.mem_filter,(P3 _).2,(P3 _).2]
 simp only [List.mem_map,List.mem_filter,ht,Bool.true_and,Bool.and_eq_true,isA,isAG,Bool.or_eq_true,beq_iff_eq]
 constructor
 ·rintro ⟨_,h5,h3⟩
  obtain ⟨y,hy,h1,h2,rfl⟩:=Gj.1 h3
  exact ⟨y,⟨hy,h1,h2,h5⟩,rfl⟩
 ·rintro ⟨y,⟨hy,h1,h2,h5⟩,rfl⟩
  exact ⟨⟨y,⟨hy,.inl ⟨h1,h2⟩⟩,rfl⟩,h5,Gj.2 ⟨y,hy,h1,h2,rfl⟩⟩
theorem Hd {α:Type} (f:α→Int):∀ (l:List α) (n:Int),n≤l.foldl (fun n x=>max n (f x)) n∧(∀ x∈l,f x≤l.foldl (fun n x=>max n (f x)) n)∧∀ M,n≤M→(∀ x∈l,f x≤M)→l.foldl (fun n x=>max n (f x)) n≤M
 | [],n=>⟨Int.le_refl _,by simp,fun M h _=>h⟩
 | a::l,n=>by
  obtain ⟨h1,h2,h3⟩:=Hd f l (max n (f a))
  simp only [List.foldl_cons]
  refine ⟨by omega,?_,?_⟩
  ·intro x hx
   rcases List.mem_cons.1 hx with rfl | hx
   ·omega
   ·exact h2 x hx
  ·intro M hn hM
   refine h3 M ?_ fun x hx=>hM x (by simp [hx])
   have:=hM a (by simp)
   omega
theorem Em {l:List TItem} (hok:itemsOk l=true) {v:Int} (ht:there l v=true):tellOf l v∈l∧(tellOf l v).Rec.Kind=1∧(tellOf l v).Rec.Valid=v∧(∀ y∈l,y.Rec.Kind=1→y.Rec.Valid=v→byNext (tellOf l v) y=false)∧pick (isB 1 v) byNext l=some (tellOf l v):=by
 unfold there at ht
 simp only [Bool.and_eq_true] at ht
 obtain ⟨y,hy,h1,h2,_⟩:=Gj.1 ht.1
 unfold tellOf
 cases h:pick (isB 1 v) byNext l with
 | none =>
  have:=Eo M2 U5 h y hy
  simp [isB,h1,h2] at this
 | some b =>
  obtain ⟨g1,g2,g3⟩:=Bn M2 U5 h
  simp only [isB,Bool.and_eq_true,beq_iff_eq] at g2
  exact ⟨g1,g2.1,g2.2,fun y hy e1 e2=>g3 y hy (by simp [isB,e1,e2]),rfl⟩
theorem Zj {l:List TItem} (hok:itemsOk l=true) {v:Int} (ht:there l v=true):(allUids l v).foldl (fun n u=>max n (u+1)) (tellOf l v).Rec.Next=nextOf l v:=by
 obtain ⟨h1,h2,h3,h4,_⟩:=Em hok ht
 obtain ⟨a1,a2,a3⟩:=Hd (fun u:Int=>u+1) (allUids l v) (tellOf l v).Rec.Next
 obtain ⟨b1,b2,b3⟩:=Hd (kOf v) l 1
 have hn:=Ut (Rf hok h1) h2
 refine Int.le_antisymm ?_ ?_
 ·refine a3 _ ?_ ?_
  ·have:=b2 _ h1
   rw [kOf,if_pos h3,if_pos h2] at this
   exact this
  ·intro u hu
   unfold allUids at hu
   rw [(P3 _).2] at hu
   simp only [List.mem_map,List.mem_filter,isAG,Bool.or_eq_true,Bool.and_eq_true,beq_iff_eq] at hu
   obtain ⟨x,⟨hx,hk⟩,rfl⟩:=hu
   have:=b2 x hx
   rw [kOf,if_pos (by rcases hk with hk | hk <;> exact hk.2),if_neg (by rcases hk with hk | hk <;> omega),if_pos (by rcases hk with hk | hk <;> simp [hk.1])] at this
   exact this
 ·refine b3 _ (by omega) ?_
  intro x hx
  unfold kOf
  split
  case isFalse=>omega
  rename_i hv
  split
  ·rename_i hk
   have:=h4 x hx hk hv
   rw [← Bool.not_eq_true,Cx] at this
   omega
  ·split
   ·rename_i hk
    refine a2 _ ?_
    unfold allUids
    rw [(P3 _).2]
    exact List.mem_map.2 ⟨x,List.mem_filter.2 ⟨hx,by rcases hk with hk | hk <;> simp [isAG,hk,hv]⟩,rfl⟩
   ·omega
theorem Um {l:List TItem} (hok:itemsOk l=true) {v u:Int} (h:u∈allUids l v):0≤u∧u≤9999:=by
 unfold allUids at h
 rw [(P3 _).2] at h
 obtain ⟨x,hx,rfl⟩:=List.mem_map.1 h
 exact Lp (Rf hok (List.mem_filter.1 hx).1)
theorem Bx {α:Type} {l:List α} {i:Nat} (h:i<l.length):l.take (i+1)=l.take i++[l[i]]:=List.take_succ_eq_append_getElem h
theorem Ba {α β:Type} {l:List α} {byt:Nat} {p:α→Bool} {f:α→β} {o0:List β} {step:Int×List β→Option ((Int×List β) ⊕ List β)} (hl:l.length≤1048576) (h0:o0.length≤1048577) (hb:byt≤1000000)
  (h1:∀ (i:Nat) (h:i<l.length) (o:List β),step ((i:Int),o)=if p l[i] then (app? byt o [f l[i]]).bind fun v=>some (.inl (((i+1:Nat):Int),v)) else some (.inl (((i+1:Nat):Int),o)))
  (h2:∀ o,step ((l.length:Int),o)=some (.inr o)):iter step (0,o0)=some (o0++(l.filter p).map f):=by
 have h:=G6 (step:=step) (fun i=>((i:Int),o0++((l.take i).filter p).map f)) l.length (r:=o0++(l.filter p).map f) ?_ ?_
 ·simpa using h
 ·intro i hi
  rw [h1 i hi,Bx hi,List.filter_append,List.map_append]
  have hf:((l.take i).filter p).length≤i:=Nat.le_trans (List.length_filter_le _ _) (by simp; omega)
  cases hp:p l[i]
  ·simp [hp]
  ·have hm:(o0.length+i+1)*byt≤2097154*1000000:=Nat.mul_le_mul (by omega) hb
   rw [if_pos rfl,app?_ok (by simp; omega) ?_]
   ·simp [hp]
   ·refine Nat.le_trans (Nat.mul_le_mul_right byt (m:=o0.length+i+1) ?_) (by omega)
    simp; omega
 ·rw [List.take_length]; exact h2 _
theorem Ta {α β:Type} {l:List α} {byt:Nat} {f:α→β} {step:Int×List β→Option ((Int×List β) ⊕ List β)} (hl:l.length≤1048576) (hb:byt≤1000000)
  (h1:∀ (i:Nat) (h:i<l.length) (o:List β),step ((i:Int),o)=(app? byt o [f l[i]]).bind fun v=>some (.inl (((i+1:Nat):Int),v)))
  (h2:∀ o,step ((l.length:Int),o)=some (.inr o)):iter step (0,[])=some (l.map f):=by
 have h:=Ba (l:=l) (byt:=byt) (p:=fun _=>true) (f:=f) (o0:=[]) (step:=step) hl (by simp) hb (fun i h o=>by rw [h1 i h o,if_pos rfl]) h2
 have e:l.filter (fun _=>true)=l:=by simp
 rw [h,e]; rfl
theorem Tk {α:Type} {l:List α} {p:α→Bool} {f:α→Int} {step:Int×List Int→Option ((Int×List Int) ⊕ List Int)} (hl:l.length≤1048576)
  (h1:∀ (i:Nat) (h:i<l.length) (o:List Int),o.length≤1048576→step ((i:Int),o)=some (.inl (((i+1:Nat):Int),if p l[i] then ins o (f l[i]) else o)))
  (h2:∀ o,step ((l.length:Int),o)=some (.inr o)):iter step (0,[])=some (uniq ((l.filter p).map f)):=by
 have h:=G6 (step:=step) (fun i=>((i:Int),(((l.take i).filter p).map f).foldl ins [])) l.length (r:=uniq ((l.filter p).map f)) ?_ ?_
 ·simpa using h
 ·intro i hi
  have hlen:((((l.take i).filter p).map f).foldl ins []).length≤1048576:=by
   rw [Jn]
   refine Nat.le_trans (Z3 _) ?_
   rw [List.length_map]
   refine Nat.le_trans (List.length_filter_le _ _) (by simp; omega)
  rw [h1 i hi _ hlen,Bx hi,List.filter_append,List.map_append,List.foldl_append]
  cases hp:p l[i] <;> simp [hp]
 ·rw [List.take_length,h2,Jn]
theorem Jm {l:List Int} (h:l.length≤1048576) (x:Int):K0 l x=some (ins l x):=by
 unfold K0 ins
 rw [Ba (l:=l) (byt:=8) (p:=fun y=>decide (y<x)) (f:=fun y=>y) (o0:=[]) h (by simp) (by omega)]
 ·rw [ob,List.nil_append,List.map_id']
  have hf:(l.filter fun y=>decide (y<x)).length≤1048576:=Nat.le_trans (List.length_filter_le _ _) h
  rw [app?_ok (by simp; omega) (by simp; omega),ob]
  rw [Ba (l:=l) (byt:=8) (p:=fun y=>decide (y>x)) (f:=fun y=>y) h (by simp; omega) (by omega)]
  ·simp
  ·intro i hi o
   unfold T3
   simp only [dlt hi,if_true,at?_nat hi,ob,B6 (show i<9223372036854775807 by omega)]
  ·intro o
   unfold T3; simp
 ·intro i hi o
  unfold T2
  simp only [dlt hi,if_true,at?_nat hi,ob,B6 (show i<9223372036854775807 by omega)]
 ·intro o
  unfold T2; simp
theorem Qg {l:List Int} (h:l.length≤1048576):((sort? l).bind fun v=>(comp? v).bind fun v8=>some v8)=some (uniq l):=by
 unfold sort? comp?
 rw [if_pos (by omega),ob,if_pos (by rw [Bj]; omega)]
 rfl
theorem Wi {l:List TItem} (hok:itemsOk l=true) (v:Int):W2 l v=some (tellOf l v):=by
 have hl:=(J7 hok).1
 have hseq:∀ i b,i≤l.length→pk (isB 1 v) byNext l i=some b→1≤b.Seq:=by
  intro i b hi hb
  have:=Kp (p:=isB 1 v) (l:=l) M2 U5 i hi
  rw [hb] at this
  exact ((J7 hok).2.1 b this.1).1.1
 unfold W2 tellOf pick
 let st:Option TItem→Int→Int×Int×Int×Int×Int×Int×Int×List UInt8×List UInt8×List UInt8:=fun o i=>(i,(o.getD item0).Seq,(o.getD item0).Rec.Kind,(o.getD item0).Rec.Valid,(o.getD item0).Rec.Uid,(o.getD item0).Rec.Next,(o.getD item0).Rec.Flags,(o.getD item0).Rec.User,(o.getD item0).Rec.Name,(o.getD item0).Rec.Text)
 have h:=G6 (step:=P9 l v) (fun i=>st (pk (isB 1 v) byNext l i) (i:Int)) l.length (r:=(st (pk (isB 1 v) byNext l l.length) 0).2) ?_ ?_
 ·have h0:st (pk (isB 1 v) byNext l 0) ((0:Nat):Int)=(0,0,0,0,0,0,0,[],[],[]):=rfl
  rw [h0] at h
  rw [h]; rfl
 ·intro i hi
  conv=>rhs; rw [pk,qG hi]
  have hq:=hseq i
  generalize pk (isB 1 v) byNext l i=o at hq ⊢
  simp only [st]
  unfold P9
  simp only [dlt hi,if_true,at?_nat hi,ob,B6 (show i<9223372036854775807 by omega),isB,byNext]
  rcases o with _ | b
  ·by_cases hk:l[i].Rec.Kind=1 <;> by_cases hv:l[i].Rec.Valid=v <;> simp [hk,hv,item0]
  ·have hb:=hq b (by omega) rfl
   have hb0:b.Seq≠0:=by omega
   rcases Int.lt_trichotomy b.Rec.Next l[i].Rec.Next with hn | hn | hn
   ·have e1:¬ b.Rec.Next=l[i].Rec.Next:=by omega
    by_cases hk:l[i].Rec.Kind=1 <;> by_cases hv:l[i].Rec.Valid=v <;> simp [hk,hv,hb0,hn,e1]
   ·by_cases hk:l[i].Rec.Kind=1 <;> by_cases hv:l[i].Rec.Valid=v <;> by_cases h2:b.Seq<l[i].Seq <;> simp [hk,hv,hb0,hn,h2]
   ·have e1:¬ b.Rec.Next=l[i].Rec.Next:=by omega
    have e2:¬ l[i].Rec.Next=b.Rec.Next:=by omega
    have e3:¬ b.Rec.Next<l[i].Rec.Next:=by omega
    by_cases hk:l[i].Rec.Kind=1 <;> by_cases hv:l[i].Rec.Valid=v <;> simp [hk,hv,hb0,e1,e2,e3]
 ·unfold P9
  simp [st]
theorem Xk {l:List TItem} (hok:itemsOk l=true) (v:Int):W5 l v=some (nextOf l v):=by
 have hl:=(J7 hok).1
 unfold W5 nextOf
 have h:=G6 (step:=Q0 l v) (fun i=>((l.take i).foldl (fun n x=>max n (kOf v x)) 1,(i:Int))) l.length (r:=l.foldl (fun n x=>max n (kOf v x)) 1) ?_ ?_
 ·simp only [List.take_zero,List.foldl_nil] at h
  rw [show ((1,0):Int×Int)=(1,((0:Nat):Int)) from rfl,h]; rfl
 ·intro i hi
  have hu:=Lp (Rf hok (List.getElem_mem hi))
  rw [Bx hi,List.foldl_append]
  have hge:1≤(l.take i).foldl (fun n x=>max n (kOf v x)) 1:=(Hd (kOf v) (l.take i) 1).1
  generalize (l.take i).foldl (fun n x=>max n (kOf v x)) 1=a at hge ⊢
  unfold Q0
  simp only [dlt hi,if_true,at?_nat hi,ob,B6 (show i<9223372036854775807 by omega),G9 (n:=l[i].Rec.Uid+1) (by omega) (by omega),List.foldl_cons,List.foldl_nil,kOf]
  have mx:∀ y:Int,(if decide (y>a)=true then some (Sum.inl (y,((i+1:Nat):Int))) else some (Sum.inl (a,((i+1:Nat):Int))):Option ((Int×Int) ⊕ Int))=some (.inl (max a y,((i+1:Nat):Int))):=by
   intro y
   by_cases h:y>a
   ·rw [if_pos (by simpa using h),Int.max_eq_right (by omega)]
   ·rw [if_neg (by simpa using h),Int.max_eq_left (by omega)]
  by_cases hv:l[i].Rec.Valid=v
  ·simp only [hv,bne_self_eq_false,Bool.false_eq_true,if_true,if_false]
   by_cases h1:l[i].Rec.Kind=1
   ·simp only [h1,beq_self_eq_true,if_true,ob]; exact mx _
   ·have k1:(l[i].Rec.Kind==1)=false:=by simpa using h1
    by_cases h3:l[i].Rec.Kind=3
    ·have k3:(l[i].Rec.Kind==3)=true:=by simpa using h3
     simp only [k1,k3,Bool.false_eq_true,if_false,if_true,ob,if_neg h1,if_pos (Or.inl h3:l[i].Rec.Kind=3∨l[i].Rec.Kind=5)]; exact mx _
    ·have k3:(l[i].Rec.Kind==3)=false:=by simpa using h3
     by_cases h5:l[i].Rec.Kind=5
     ·have k5:(l[i].Rec.Kind==5)=true:=by simpa using h5
      simp only [k1,k3,k5,Bool.false_eq_true,if_false,if_true,ob,if_neg h1,if_pos (Or.inr h5:l[i].Rec.Kind=3∨l[i].Rec.Kind=5)]; exact mx _
     ·have k5:(l[i].Rec.Kind==5)=false:=by simpa using h5
      simp only [k1,k3,k5,Bool.false_eq_true,if_false,ob,if_neg h1,if_neg (show ¬ (l[i].Rec.Kind=3∨l[i].Rec.Kind=5) by omega)]; exact mx _
  ·have hvb:(l[i].Rec.Valid != v)=true:=by simp [hv]
   simp only [hvb,if_true,if_neg hv]
   rw [Int.max_eq_left (by omega)]
 ·rw [List.take_length]
  unfold Q0
  simp
theorem Uw {l:List TItem} (hl:l.length≤1048576) (v:Int):U2 l v=some (mailsOf l v):=by
 unfold U2 mailsOf
 rw [Tk (l:=l) (p:=isA l v) (f:=fun x=>x.Rec.Uid) hl,ob]
 ·have hu:(uidsOf l v).length≤1048576:=by
   unfold uidsOf
   refine Nat.le_trans (Z3 _) ?_
   rw [List.length_map]
   exact Nat.le_trans (List.length_filter_le _ _) hl
  show (iter (L2 l v (uidsOf l v)) (0,[])).bind _=_
  rw [Ta (l:=uidsOf l v) (byt:=32) (f:=mailOf l v) hu (by omega)]
  ·rfl
  ·intro i hi o
   unfold L2
   simp only [dlt hi,if_true,at?_nat hi,ob,B6 (show i<9223372036854775807 by omega),Al hl,mailOf,optI]
   cases pick (isM 4 v (uidsOf l v)[i]) bySeq l <;> simp
  ·intro o
   unfold L2; simp
 ·intro i hi o ho
  unfold V4
  simp only [dlt hi,if_true,at?_nat hi,ob,B6 (show i<9223372036854775807 by omega),Al hl,Jm ho,isA,hasB,optI]
  by_cases h1:l[i].Rec.Kind=3 <;> by_cases h2:l[i].Rec.Valid=v <;> by_cases h3:(pick (isM 5 v l[i].Rec.Uid) bySeq l).isSome=true <;> simp [h1,h2,h3]
 ·intro o
  unfold V4; simp
theorem Fv {l:List TItem}:(validsOf l).length≤l.length:=by
 unfold validsOf
 refine Nat.le_trans (Z3 _) ?_
 rw [List.length_map]
 exact List.length_filter_le _ _
theorem Ga {l:List TItem} (h:SzI l):P7 l=some (stateOf l):=by
 have hl:=h.1
 unfold P7 stateOf
 rw [Ct h,ob]
 cases hok:itemsOk l with
 | false=>rfl
 | true =>
  rw [if_pos rfl,if_pos rfl,Tk (l:=l) (p:=isBx l) (f:=fun x=>x.Rec.Valid) hl,ob]
  ·show (iter (Q7 l (validsOf l)) (0,[])).bind _=_
   have hv:(validsOf l).length≤1048576:=Nat.le_trans Fv hl
   rw [Ta (l:=validsOf l) (byt:=72) (f:=boxOf l) hv (by omega)]
   ·rfl
   ·intro i hi o
    unfold Q7
    simp only [dlt hi,if_true,at?_nat hi,ob,B6 (show i<9223372036854775807 by omega),Wi hok,Xk hok,Uw hl,boxOf]
   ·intro o
    unfold Q7; simp
  ·intro i hi o ho
   unfold X5
   simp only [dlt hi,if_true,at?_nat hi,ob,B6 (show i<9223372036854775807 by omega),Al hl,Jm ho,isBx,hasB,optI]
   by_cases h1:l[i].Rec.Kind=1 <;> by_cases h3:(pick (isM 2 l[i].Rec.Valid 0) bySeq l).isSome=true <;> simp [h1,h3]
  ·intro o
   unfold X5; simp
theorem Kl {l:List TItem} (h:l.length≤1048576) (hok:itemsOk l=true) (v u:Int):F0 l v u=some (if there l v&&!hasB l 5 v u&&hasB l 3 v u then ((pick (isM 3 v u) bySeq l).getD item0,true) else (item0,false)):=by
 unfold F0
 rw [X8 h hok,ob]
 have hs:there l v=true→(pick (isB 1 v) byNext l).isSome=true:=by
  intro ht
  rw [(Em hok ht).2.2.2.2]; rfl
 cases ht:there l v with
 | false=>simp; rfl
 | true =>
  have:=hs ht
  simp only [if_true,optI,this,Bool.not_true,Bool.false_eq_true,if_false,M1 h,ob]
  unfold hasB
  by_cases h5:(pick (isM 5 v u) bySeq l).isSome=true
  ·simp [h5]; rfl
  ·cases h3:pick (isM 3 v u) bySeq l <;> simp [h5]
theorem Xc {l:List TItem} (hl:l.length≤1048576):F3 l=some (allValids l):=by
 unfold F3 allValids
 rw [Ba (l:=l) (byt:=8) (p:=fun x=>x.Rec.Kind==1) (f:=fun x=>x.Rec.Valid) (o0:=[]) hl (by simp) (by omega),ob]
 ·refine Qg ?_
  rw [List.nil_append,List.length_map]
  exact Nat.le_trans (List.length_filter_le _ _) hl
 ·intro i hi o
  unfold G5 X2
  simp only [dlt hi,if_true,at?_nat hi,ob,B6 (show i<9223372036854775807 by omega)]
 ·intro o
  unfold G5; simp
theorem Xb {l:List TItem} (hl:l.length≤1048576) (v:Int):F1 l v=some (allUids l v):=by
 unfold F1 allUids
 rw [Ba (l:=l) (byt:=8) (p:=isAG v) (f:=fun x=>x.Rec.Uid) (o0:=[]) hl (by simp) (by omega),ob]
 ·refine Qg ?_
  rw [List.nil_append,List.length_map]
  exact Nat.le_trans (List.length_filter_le _ _) hl
 ·intro i hi o
  unfold F8 M8 E8 isAG
  simp only [dlt hi,if_true,at?_nat hi,ob,B6 (show i<9223372036854775807 by omega)]
  by_cases h2:l[i].Rec.Valid=v
  ·by_cases h1:l[i].Rec.Kind=3
   ·simp [h1,h2]
   ·by_cases h3:l[i].Rec.Kind=5 <;> simp [h1,h2,h3]
  ·by_cases h1:l[i].Rec.Kind=3
   ·simp [h1,h2]
   ·by_cases h3:l[i].Rec.Kind=5 <;> simp [h1,h2,h3]
 ·intro o
  unfold F8; simp
theorem Tg {l:List TItem} {v:Int}:(allUids l v).length≤l.length:=by
 unfold allUids
 refine Nat.le_trans (Z3 _) ?_
 rw [List.length_map]
 exact List.length_filter_le _ _
theorem Fa {l:List TItem}:(allValids l).length≤l.length:=by
 unfold allValids
 refine Nat.le_trans (Z3 _) ?_
 rw [List.length_map]
 exact List.length_filter_le _ _
theorem Po {l:List TItem} (hl:l.length≤1048576) (hok:itemsOk l=true) {v:Int} (ht:there l v=true):U3 l (tellOf l v)=some (boxOf l v):=by
 obtain ⟨t1,t2,t3,t4,_⟩:=Em hok ht
 have hul:(allUids l v).length≤1048576:=Nat.le_trans Tg hl
 unfold U3
 rw [t3,Xb hl,ob]
 let q:Int→Bool:=fun u=>there l v&&!hasB l 5 v u&&hasB l 3 v u
 have h:=G6 (step:=L3 l (tellOf l v) (allUids l v)) (fun i=>((i:Int),((allUids l v).take i).foldl (fun n u=>max n (u+1)) (tellOf l v).Rec.Next,(((allUids l v).take i).filter q).map (mailOf l v))) (allUids l v).length (r:=((allUids l v).foldl (fun n u=>max n (u+1)) (tellOf l v).Rec.Next,((allUids l v).filter q).map (mailOf l v))) ?_ ?_
 ·simp only [List.take_zero,List.foldl_nil,List.filter_nil,List.map_nil] at h
  rw [show ((0,(tellOf l v).Rec.Next,([]:List TMail)):Int×Int×List TMail)=(((0:Nat):Int),(tellOf l v).Rec.Next,[]) from rfl,h,ob,Zj hok ht,Yz ht]
  rfl
 ·intro i hi
  have hub:=Um hok (List.getElem_mem hi)
  rw [Bx hi,List.foldl_append,List.filter_append,List.map_append]
  have hf:(((allUids l v).take i).filter q).length≤1048576:=Nat.le_trans (List.length_filter_le _ _) (by simp; omega)
  generalize ((allUids l v).take i).foldl (fun n u=>max n (u+1)) (tellOf l v).Rec.Next=a
  unfold L3
  simp only [dlt hi,if_true,at?_nat hi,ob,B6 (show i<9223372036854775807 by omega),G9 (n:=(allUids l v)[i]+1) (by omega) (by omega),t3,Kl hl hok,M1 hl,optI]
  have mx:(if (allUids l v)[i]+1>a then (allUids l v)[i]+1 else a)=max a ((allUids l v)[i]+1):=by
   by_cases h:(allUids l v)[i]+1>a
   ·rw [if_pos h,Int.max_eq_right (by omega)]
   ·rw [if_neg h,Int.max_eq_left (by omega)]
  rw [mx]
  show _=some (Sum.inl (_,_,_++([(allUids l v)[i]].filter q).map (mailOf l v)))
  by_cases hq:(there l v&&!hasB l 5 v (allUids l v)[i]&&hasB l 3 v (allUids l v)[i])=true
  ·have hq':q (allUids l v)[i]=true:=hq
   rw [if_pos hq,List.filter_cons,if_pos hq']
   simp only [Bool.not_true,Bool.false_eq_true,if_false]
   have fl':((if (pick (isM 4 v (allUids l v)[i]) bySeq l).isSome=true then some ((pick (isM 4 v (allUids l v)[i]) bySeq l).getD item0).Rec.Flags else some ((pick (isM 3 v (allUids l v)[i]) bySeq l).getD item0).Rec.Flags):Option Int)=some ((pick (isM 4 v (allUids l v)[i]) bySeq l).getD ((pick (isM 3 v (allUids l v)[i]) bySeq l).getD item0)).Rec.Flags:=by
    cases pick (isM 4 v (allUids l v)[i]) bySeq l <;> rfl
   rw [fl',ob,app?_ok (by simp; omega) (by simp; omega)]
   rfl
  ·have hq':q (allUids l v)[i]=false:=(Bool.not_eq_true _).mp hq
   rw [if_neg hq,List.filter_cons,hq']
   simp
 ·rw [List.take_length]
  unfold L3
  simp
theorem Hi {l:List TItem} (h:SzI l):Q3 l=some (stateOf l):=by
 have hl:=h.1
 unfold Q3 stateOf
 rw [Dc h,ob]
 cases hok:itemsOk l with
 | false=>rfl
 | true =>
  rw [if_pos rfl,if_pos rfl,Xc hl,ob]
  rw [Ba (l:=allValids l) (byt:=72) (p:=there l) (f:=boxOf l) (o0:=[]) (Nat.le_trans Fa hl) (by simp) (by omega),ob,Vs hok]
  ·rfl
  ·intro i hi o
   have hvl:=@Fa l
   unfold X1
   simp only [dlt hi,if_true,at?_nat hi,ob,B6 (show i<9223372036854775807 by omega),X8 hl hok]
   by_cases ht:there l (allValids l)[i]=true
   ·have ho:(optI (pick (isB 1 (allValids l)[i]) byNext l)).2=true:=by rw [(Em hok ht).2.2.2.2]; rfl
    have ho1:(optI (pick (isB 1 (allValids l)[i]) byNext l)).1=tellOf l (allValids l)[i]:=rfl
    rw [if_pos ht,if_pos ht,ho,if_pos rfl,ho1,Po hl hok ht,ob]
   ·rw [if_neg ht,if_neg ht]; simp
  ·intro o
   unfold X1; simp
theorem Yl {l:List TItem} {p:TItem→Bool} {b:TItem} (h:pick p bySeq l=some b):b∈l:=(Bn Ar Br h).1
theorem Lg:item0.Rec.User.length≤1048576∧item0.Rec.Name.length≤1048576∧item0.Rec.Text.length≤1048576:=by decide
theorem Ul {l:List TItem} (h:SzI l) (p:TItem→Bool):((pick p bySeq l).getD item0).Rec.Text.length≤1048576:=by
 cases hp:pick p bySeq l with
 | none=>exact Lg.2.2
 | some b=>exact (h.2 b (Yl hp)).sRec.sText
theorem Ve {l:List TItem} (h:SzI l) (v:Int):(tellOf l v).Rec.User.length≤1048576∧(tellOf l v).Rec.Name.length≤1048576:=by
 unfold tellOf
 cases hp:pick (isB 1 v) byNext l with
 | none=>exact ⟨Lg.1,Lg.2.1⟩
 | some b =>
  have hb:=(h.2 b (Bn M2 U5 hp).1).sRec
  exact ⟨hb.sUser,hb.sName⟩
theorem Xn {l:List TItem} (h:SzI l) (v:Int):(mailsOf l v).length≤1048576∧∀ m∈mailsOf l v,Rp m:=by
 unfold mailsOf
 refine ⟨?_,?_⟩
 ·rw [List.length_map]
  unfold uidsOf
  refine Nat.le_trans (Z3 _) ?_
  rw [List.length_map]
  exact Nat.le_trans (List.length_filter_le _ _) h.1
 ·intro m hm
  obtain ⟨u,_,rfl⟩:=List.mem_map.1 hm
  exact ⟨Ul h _⟩
theorem Dz {l:List TItem} (h:SzI l):(stateOf l).Boxes.length≤1048576∧∀ b∈(stateOf l).Boxes,Zh b:=by
 unfold stateOf
 split
 ·refine ⟨?_,?_⟩
  ·show ((validsOf l).map _).length≤_
   rw [List.length_map]
   exact Nat.le_trans Fv h.1
  ·intro b hb
   obtain ⟨v,_,rfl⟩:=List.mem_map.1 hb
   exact ⟨(Ve h v).1,(Ve h v).2,Xn h v⟩
 ·exact ⟨by simp,by simp⟩
def dropB (d:List Bool) (k:Nat):Bool:=(d[k]?).getD false
def woT (l:List TItem) (d:List Bool):Nat→List TItem
 | 0=>[]
 | i+1=>woT l d i++(match l[i]? with | some x=>if dropB d i then [] else [x] | none=>[])
def without (l:List TItem) (d:List Bool):List TItem:=woT l d l.length
theorem Gs {l:List TItem} {d:List Bool}:∀ i,(woT l d i).length≤i
 | 0=>by simp [woT]
 | i+1=>by
  have:=Gs (l:=l) (d:=d) i
  unfold woT
  rw [List.length_append]
  split
  ·split <;> simp <;> omega
  ·simp; omega
theorem Vj {l:List TItem} {d:List Bool} {x:TItem}:∀ i,x∈woT l d i→x∈l
 | 0,h=>by simp [woT] at h
 | i+1,h=>by
  unfold woT at h
  rcases List.mem_append.1 h with h | h
  ·exact Vj i h
  ·split at h
   ·rename_i y hy
    split at h
    ·simp at h
    ·simp at h; subst h; exact qM hy
   ·simp at h
theorem Tl {l:List TItem} {d:List Bool} {i:Nat} (hi:i<l.length):woT l d (i+1)=if dropB d i then woT l d i else woT l d i++[l[i]]:=by
 rw [woT,qG hi]
 cases dropB d i <;> simp
theorem Qy {d:List Bool} {k:Nat}:W4 d (k:Int)=some (dropB d k):=by
 unfold W4 dropB
 by_cases h:k<d.length
 ·simp [h,at?_nat h]
 ·rw [if_neg (by simp; omega),List.getElem?_eq_none (by omega)]; rfl
theorem Gk {l:List TItem} {d:List Bool} (h:l.length≤1048576):R2 l d=some (without l d):=by
 unfold R2
 have:iter (R1 l d) (0,[])=some (without l d):=by
  refine G6 (fun i=>((i:Int),woT l d i)) l.length ?_ ?_
  ·intro i hi
   have hl:=Gs (l:=l) (d:=d) i
   unfold R1
   simp only [dlt hi,if_true,at?_nat hi,ob,B6 (show i<9223372036854775807 by omega),app?_ok (byt:=96) (l:=woT l d i) (m:=[l[i]]) (by simp; omega) (by simp; omega),Tl hi]
   unfold dropB
   by_cases hd:i<d.length
   ·rw [if_neg (by simp; omega),at?_nat hd,qG hd]
    cases hb:d[i] <;> simp [hb]
   ·rw [if_pos (by simp; omega),List.getElem?_eq_none (by omega)]
    simp
  ·unfold R1
   simp [without]
 rw [this]; rfl
theorem Gb {l:List TItem} {d:List Bool} (h:l.length≤1048576):P2 l d=some (without l d):=by
 unfold P2
 have:iter (R6 l d) (0,[])=some (without l d):=by
  refine G6 (fun i=>((i:Int),woT l d i)) l.length ?_ ?_
  ·intro i hi
   have hl:=Gs (l:=l) (d:=d) i
   unfold R6
   simp only [dlt hi,if_true,at?_nat hi,ob,Qy,B6 (show i<9223372036854775807 by omega),app?_ok (byt:=96) (l:=woT l d i) (m:=[l[i]]) (by simp; omega) (by simp; omega),Tl hi]
   cases dropB d i <;> simp
  ·unfold R6
   simp [without]
 rw [this]; rfl
def nextRec (b:TBox):TRec:={ Kind:=1,Valid:=b.Valid,Uid:=0,Next:=b.Next,Flags:=0,User:=b.User,Name:=b.Name,Text:=[] }
def toldQ (b c:TBox):Bool:=c.Valid==b.Valid&&decide (c.Next≥b.Next)
def told (s:TState) (b:TBox):Bool:=s.Boxes.any (toldQ b)
def nextsOf (l:List TItem) (d:List Bool):List TRec:=((stateOf l).Boxes.filter fun b=>!told (stateOf (without l d)) b).map nextRec
theorem Dd {l:List TItem} (h:SzI l) (d:List Bool):SzI (without l d):=by
 refine ⟨?_,fun y hy=>h.2 y (Vj _ hy)⟩
 have:=Gs (l:=l) (d:=d) l.length
 unfold without
 have:=h.1
 omega
theorem Vo {l:List TItem} {c:TBox} (h:c∈(stateOf l).Boxes):c=boxOf l c.Valid:=by
 unfold stateOf at h
 split at h
 ·obtain ⟨v,_,rfl⟩:=List.mem_map.1 h
  rfl
 ·simp at h
theorem Ud {l:List TItem} (h:SzI l) (d:List Bool):(nextsOf l d).length≤1048576∧∀ r∈nextsOf l d,Gi r:=by
 have hs:=Dz h
 unfold nextsOf
 refine ⟨?_,?_⟩
 ·rw [List.length_map]
  exact Nat.le_trans (List.length_filter_le _ _) hs.1
 ·intro r hr
  obtain ⟨b,hb,rfl⟩:=List.mem_map.1 hr
  have:=hs.2 b (List.mem_filter.1 hb).1
  exact ⟨this.sUser,this.sName,by simp [nextRec]⟩
theorem Wn {s:TState} (hs:s.Boxes.length≤1048576) (b:TBox):iter (K1 s b) (false,0)=some (told s b):=by
 have h:=G6 (step:=K1 s b) (fun i=>((s.Boxes.take i).any (toldQ b),(i:Int))) s.Boxes.length (r:=told s b) ?_ ?_
 ·simp only [List.take_zero,List.any_nil] at h
  exact h
 ·intro i hi
  rw [Bx hi,List.any_append]
  generalize (s.Boxes.take i).any (toldQ b)=a
  unfold K1
  simp only [dlt hi,if_true,at?_nat hi,ob,B6 (show i<9223372036854775807 by omega),List.any_cons,List.any_nil,Bool.or_false,toldQ]
  cases a
  ·by_cases h1:s.Boxes[i].Valid=b.Valid <;> by_cases h2:s.Boxes[i].Next≥b.Next <;> simp [h1,h2]
  ·simp
 ·rw [List.take_length]
  unfold K1
  simp [told]
theorem Qq {l:List TItem} (h:SzI l) (d:List Bool):W3 l d=some (nextsOf l d):=by
 have hs:=Dz h
 have hs2:=Dz (Dd h d)
 unfold W3 nextsOf
 rw [Ga h,ob,Gk h.1,ob,Ga (Dd h d),ob]
 rw [Ba (l:=(stateOf l).Boxes) (byt:=88) (p:=fun b=>!told (stateOf (without l d)) b) (f:=nextRec) (o0:=[]) hs.1 (by simp) (by omega)]
 ·simp
 ·intro i hi o
  unfold X4
  simp only [dlt hi,if_true,at?_nat hi,ob,B6 (show i<9223372036854775807 by omega),Wn hs2.1]
  cases told (stateOf (without l d)) (stateOf l).Boxes[i]
  ·rfl
  ·rfl
 ·intro o
  unfold X4; simp
theorem Xj {l:List TItem} {b:TBox}:(match (stateOf l).Boxes.findIdx? (fun c=>c.Valid==b.Valid) with | none=>true | some j=>decide ((((stateOf l).Boxes[j]?).getD b).Next<b.Next))=!told (stateOf l) b:=by
 cases hf:(stateOf l).Boxes.findIdx? (fun c=>c.Valid==b.Valid) with
 | none =>
  rw [List.findIdx?_eq_none_iff] at hf
  have:told (stateOf l) b=false:=by
   unfold told
   rw [List.any_eq_false]
   intro c hc
   have:=hf c hc
   simp only [toldQ,this,Bool.false_and,Bool.false_eq_true,not_false_eq_true]
  rw [this]; rfl
 | some j =>
  rw [List.findIdx?_eq_some_iff_getElem] at hf
  obtain ⟨hj,hv,_⟩:=hf
  have hv':(stateOf l).Boxes[j].Valid=b.Valid:=by simpa using hv
  have hd:=Vo (List.getElem_mem hj)
  rw [hv'] at hd
  have ht:told (stateOf l) b=decide ((stateOf l).Boxes[j].Next≥b.Next):=by
   unfold told
   rw [Bool.eq_iff_iff,List.any_eq_true,decide_eq_true_eq]
   constructor
   ·rintro ⟨c,hc,hq⟩
    simp only [toldQ,Bool.and_eq_true,beq_iff_eq,decide_eq_true_eq] at hq
    have hc':=Vo hc
    rw [hq.1] at hc'
    rw [hd,← hc']; exact hq.2
   ·intro hn
    exact ⟨_,List.getElem_mem hj,by simp only [toldQ,hv',beq_self_eq_true,Bool.true_and,decide_eq_true_eq]; exact hn⟩
  simp only [qG hj,Option.getD_some,ht]
  by_cases hn:(stateOf l).Boxes[j].Next<b.Next
  ·simp [hn]
  ·have h2:(stateOf l).Boxes[j].Next≥b.Next:=by omega
   simp [hn,h2]
theorem Gx {l:List TItem} (h:SzI l) (d:List Bool):H9 l d=some (nextsOf l d):=by
 have hs:=Dz h
 have hs2:=Dz (Dd h d)
 unfold H9 nextsOf
 rw [Gb h.1,ob,Hi (Dd h d),ob,Hi h,ob]
 rw [Ba (l:=(stateOf l).Boxes) (byt:=88) (p:=fun b=>!told (stateOf (without l d)) b) (f:=nextRec) (o0:=[]) hs.1 (by simp) (by omega)]
 ·simp
 ·intro i hi o
  have hidx:=Z8 (x0:=(stateOf (without l d)).Boxes) (x1:=(stateOf l).Boxes[i]) (q:=fun c=>c.Valid==(stateOf l).Boxes[i].Valid) (by omega) (fun y _=>rfl)
  have ht:=Xj (l:=without l d) (b:=(stateOf l).Boxes[i])
  unfold W7
  show _=if (!told (stateOf (without l d)) (stateOf l).Boxes[i])=true then (app? 88 o [nextRec (stateOf l).Boxes[i]]).bind _ else _
  rw [← ht]
  cases hf:(stateOf (without l d)).Boxes.findIdx? (fun c=>c.Valid==(stateOf l).Boxes[i].Valid) with
  | none =>
   have hidx':B8 (stateOf (without l d)).Boxes (stateOf l).Boxes[i]=some (-1):=by rw [hidx,hf]; rfl
   simp only [dlt hi,if_true,at?_nat hi,ob,B6 (show i<9223372036854775807 by omega),hidx']
   rfl
  | some j =>
   have hidx':B8 (stateOf (without l d)).Boxes (stateOf l).Boxes[i]=some (j:Int):=by rw [hidx,hf]; rfl
   have hj:j<(stateOf (without l d)).Boxes.length:=by
    rw [List.findIdx?_eq_some_iff_getElem] at hf
    exact hf.1
   have hj0:decide ((j:Int)<0)=false:=by simp
   simp only [dlt hi,if_true,at?_nat hi,ob,B6 (show i<9223372036854775807 by omega),hidx',hj0,Bool.false_eq_true,if_false,at?_nat hj,qG hj,Option.getD_some]
   by_cases hn:(stateOf (without l d)).Boxes[j].Next<(stateOf l).Boxes[i].Next
   ·simp only [hn,decide_true,if_true,ob]; rfl
   ·simp only [hn,decide_false,Bool.false_eq_true,if_false,ob]
 ·intro o
  unfold W7; simp
theorem Fw {β:Type} {n byt:Nat} {f:Nat→β} {step:Int×List β→Option ((Int×List β) ⊕ List β)} (hl:n≤1048576) (hb:byt≤1000000)
  (h1:∀ (i:Nat) (o:List β),i<n→step ((i:Int),o)=(app? byt o [f i]).bind fun v=>some (.inl (((i+1:Nat):Int),v)))
  (h2:∀ o,step ((n:Int),o)=some (.inr o)):iter step (0,[])=some ((List.range n).map f):=by
 refine G6 (step:=step) (fun i=>((i:Int),(List.range i).map f)) n ?_ (h2 _)
 intro i hi
 have hm:(i+1)*byt≤1048576*1000000:=Nat.mul_le_mul (by omega) hb
 rw [h1 i _ hi,app?_ok (by simp; omega) (by simp; omega),List.range_succ,List.map_append]
 rfl
noncomputable def needAll (l:List TItem):List Bool:=(List.range l.length).map fun i=>itemsOk l&&needK l i ((l[i]?).getD item0)
theorem Tj (l:List TItem):(needAll l).length=l.length:=by simp [needAll]
theorem My {l:List TItem} (h:SzI l):R5 l=some (needAll l):=by
 have hl:=h.1
 unfold R5 needAll
 rw [Ct h,ob]
 cases itemsOk l with
 | true =>
  rw [if_pos rfl,Fw (n:=l.length) (byt:=1) (f:=fun i=>needK l i ((l[i]?).getD item0)) hl (by omega)]
  ·simp
  ·intro i o hi
   unfold T9
   simp only [dlt hi,if_true,Qe hl hi,ob,B6 (show i<9223372036854775807 by omega),qG hi,Option.getD_some]
  ·intro o
   unfold T9; simp
 | false =>
  rw [if_neg (by simp),Fw (n:=l.length) (byt:=1) (f:=fun _=>false) hl (by omega)]
  ·simp
  ·intro i o hi
   unfold T7
   simp only [dlt hi,if_true,B6 (show i<9223372036854775807 by omega)]
  ·intro o
   unfold T7; simp
theorem Mi {l:List TItem} (h:SzI l):Q8 l=some (needAll l):=by
 have hl:=h.1
 unfold Q8 needAll
 rw [Dc h,ob]
 cases hok:itemsOk l with
 | true =>
  rw [if_pos rfl,Fw (n:=l.length) (byt:=1) (f:=fun i=>needK l i ((l[i]?).getD item0)) hl (by omega)]
  ·simp
  ·intro i o hi
   unfold T6
   simp only [dlt hi,if_true,Pw hl hok hi,ob,B6 (show i<9223372036854775807 by omega),qG hi,Option.getD_some]
  ·intro o
   unfold T6; simp
 | false =>
  rw [if_neg (by simp),Fw (n:=l.length) (byt:=1) (f:=fun _=>false) hl (by omega)]
  ·simp
  ·intro i o hi
   unfold T8
   simp only [dlt hi,if_true,B6 (show i<9223372036854775807 by omega)]
  ·intro o
   unfold T8; simp
theorem Jt {l:List TItem}:itemsOk l=true↔l.length≤200∧(∀ x∈l,(1≤x.Seq∧x.Seq≤1000000000)∧recOk x.Rec=true)∧∀ x∈l,∀ y∈l,x.Seq=y.Seq→x=y:=by
 refine ⟨J7,fun ⟨h1,h2,h3⟩=>?_⟩
 unfold itemsOk
 simp only [Bool.and_eq_true,decide_eq_true_eq,List.all_eq_true]
 refine ⟨fun i hi=>?_,h1⟩
 have hi:=List.mem_range.1 hi
 unfold itOk
 rw [qG hi]
 have hx:=h2 l[i] (List.getElem_mem hi)
 simp only [Bool.and_eq_true,inR,decide_eq_true_eq,Bool.not_eq_true',List.any_eq_false]
 refine ⟨⟨hx.1,hx.2⟩,fun y hy=>?_⟩
 have hy:=List.mem_of_mem_take hy
 unfold clash
 by_cases he:y.Seq=l[i].Seq
 ·have:=h3 y hy l[i] (List.getElem_mem hi) he
  simp [this,De.2 rfl]
 ·simp [he]
structure RecD (r:TRec):Prop where
 ok:recOk r=true
 valid:r.Valid≤3
 next:r.Next≤6
 uid:r.Uid≤5
 user:r.User.length≤3
 name:r.Name.length≤5
 text:r.Text.length≤28
theorem Gc {k v u n f:Int} {us nm tx:List UInt8} (h:recOk { Kind:=k,Valid:=v,Uid:=u,Next:=n,Flags:=f,User:=us,Name:=nm,Text:=tx }=true) (h1:v≤3) (h2:n≤6) (h3:u≤5) (h4:us.length≤3) (h5:nm.length≤5) (h6:tx.length≤28):RecD { Kind:=k,Valid:=v,Uid:=u,Next:=n,Flags:=f,User:=us,Name:=nm,Text:=tx }:=⟨h,h1,h2,h3,h4,h5,h6⟩
theorem Zm {b:List Int} {i h:Int} (hi:IOk b i):Dr b (Q1 ⟨b,i,h⟩) fun x=>x.length≤28:=by
 unfold Q1
 refine Dr.bind (Ra hi (by decide) (by decide)) fun x i h hx hi=>Dr.ret hi ?_
 simp only [List.mem_cons,List.not_mem_nil,or_false] at hx
 rcases hx with rfl | rfl | rfl | rfl | rfl <;> simp
theorem w64s {x:Int} (h:0≤x) (h':x≤1000000000):w64 (1+x)=1+x:=G9 (by omega) (by omega)
theorem Qo {b:List Int} {i h:Int} (hi:IOk b i):Dr b (F6 ⟨b,i,h⟩) RecD:=by
 unfold F6
 refine Dr.bind (Mr hi (by decide) (by decide)) fun k i h hk hi=>Dr.bind (H8 hi (by omega) (by omega)) fun v i h hv hi=>?_
 have hk':k=1∨k=2∨k=3∨k=4∨k=5:=by
  simp only [List.mem_cons,List.not_mem_nil,or_false] at hk; omega
 have hv1:w64 (1+v)=1+v:=w64s hv.1 (by omega)
 have iv:inR (1+v) 1 9999=true:=by unfold inR; simp; omega
 rcases hk' with rfl | rfl | rfl | rfl | rfl
 ·show Dr b (Option.bind _ _) _
  refine Dr.bind (Ra hi (by decide) (by decide)) fun us i h hus hi=>Dr.bind (Ra hi (by decide) (by decide)) fun nm i h hnm hi=>Dr.bind (H8 hi (by omega) (by omega)) fun n i h hn hi=>Dr.ret hi ?_
  dsimp only
  have hw:wordOk us=true∧us.length≤3:=by
   simp only [List.mem_cons,List.not_mem_nil,or_false] at hus
   rcases hus with rfl | rfl <;> decide
  have hw2:wordOk nm=true∧nm.length≤5:=by
   simp only [List.mem_cons,List.not_mem_nil,or_false] at hnm
   rcases hnm with rfl | rfl <;> decide
  rw [hv1,w64s hn.1 (by omega)]
  refine Gc ?_ (by omega) (by omega) (by omega) hw.2 hw2.2 (by simp)
  unfold recOk
  simp [hw.1,hw2.1,inR]; omega
 ·refine Dr.ret hi ?_
  dsimp only
  rw [hv1]
  refine Gc ?_ (by omega) (by omega) (by omega) (by simp) (by simp) (by simp)
  unfold recOk
  simp [iv]; decide
 ·show Dr b (Option.bind _ _) _
  refine Dr.bind (H8 hi (by omega) (by omega)) fun u i h hu hi=>Dr.bind (H8 hi (by omega) (by omega)) fun f i h hf hi=>Dr.bind (Zm hi) fun tx i h htx hi=>Dr.ret hi ?_
  dsimp only
  rw [hv1,w64s hu.1 (by omega)]
  refine Gc ?_ (by omega) (by omega) (by omega) (by simp) (by simp) htx
  have i2:inR (1+u) 1 9999=true:=by unfold inR; simp; omega
  have i3:inR f 0 7=true:=by unfold inR; simp; omega
  have i4:inR 3 1 5=true:=by decide
  unfold recOk
  simp [iv,i2,i3,i4]; omega
 ·show Dr b (Option.bind _ _) _
  refine Dr.bind (H8 hi (by omega) (by omega)) fun u i h hu hi=>Dr.bind (H8 hi (by omega) (by omega)) fun f i h hf hi=>Dr.ret hi ?_
  dsimp only
  rw [hv1,w64s hu.1 (by omega)]
  refine Gc ?_ (by omega) (by omega) (by omega) (by simp) (by simp) (by simp)
  have i2:inR (1+u) 1 9999=true:=by unfold inR; simp; omega
  have i3:inR f 0 7=true:=by unfold inR; simp; omega
  have i4:inR 4 1 5=true:=by decide
  unfold recOk
  simp [iv,i2,i3,i4]
 ·show Dr b (Option.bind _ _) _
  refine Dr.bind (H8 hi (by omega) (by omega)) fun u i h hu hi=>Dr.ret hi ?_
  dsimp only
  rw [hv1,w64s hu.1 (by omega)]
  refine Gc ?_ (by omega) (by omega) (by omega) (by simp) (by simp) (by simp)
  have i2:inR (1+u) 1 9999=true:=by unfold inR; simp; omega
  have i4:inR 5 1 5=true:=by decide
  unfold recOk
  simp [iv,i2,i4]
structure ItD (l:List TItem):Prop where
 ok:itemsOk l=true
 len:l.length≤22
 all:∀ x∈l,(2≤x.Seq∧x.Seq≤23)∧RecD x.Rec
theorem Yh {b:List Int} {i h:Int} (hi:IOk b i):Dr b (M0 ⟨b,i,h⟩) ItD:=by
 unfold M0
 have key:∃ r,iter (M7 ⟨b,i,h⟩) (0,i,h,[])=some r∧(IOk b r.1∧r.2.2.length≤21∧∀ (j:Nat) (hj:j<r.2.2.length),(r.2.2[j]).Seq=2+(j:Int)∧RecD (r.2.2[j]).Rec):=by
  refine Gl (fun s:Int×Int×Int×List TItem=>(0≤s.1∧s.1≤21∧(s.2.2.2.length:Int)=s.1)∧IOk b s.2.1∧∀ (j:Nat) (hj:j<s.2.2.2.length),(s.2.2.2[j]).Seq=2+(j:Int)∧RecD (s.2.2.2[j]).Rec) (fun s=>(22 - s.1).toNat) _ ?_ _ ⟨⟨by simp,by simp,by simp⟩,hi,by simp⟩
  rintro ⟨k,i,h',l⟩ ⟨⟨h0,h1,h2⟩,hi,hl⟩
  simp only at h0 h1 h2 hi hl
  unfold M7
  obtain ⟨n,i1,h1',e,hn,hi1⟩:=H8 (h:=h') hi (n:=22) (by omega) (by omega)
  have e':A9 { mB:=b,mI:=(k,i,h',l).2.1,mH:=(k,i,h',l).2.2.1 } 22=some (n,⟨b,i1,h1'⟩):=e
  rw [e',ob]
  by_cases hk:k<n
  ·left
   rw [if_pos (by simpa using hk)]
   obtain ⟨r,i2,h2',e2,hr,hi2⟩:=Qo (h:=h1') hi1
   have e2':F6 { mB:=b,mI:=((n,⟨b,i1,h1'⟩):Int×TL01Cur).2.mI,mH:=((n,⟨b,i1,h1'⟩):Int×TL01Cur).2.mH }=some (r,⟨b,i2,h2'⟩):=e2
   rw [e2',ob]
   show ∃ s',(app? 96 l [{ Seq:=w64 (2+k),Rec:=r }]).bind _=_∧_
   rw [app?_ok (by simp; omega) (by simp; omega),ob]
   refine ⟨_,rfl,⟨⟨?_,?_,?_⟩,hi2,?_⟩,?_⟩
   ·simp only; rw [G9 (by omega) (by omega)]; omega
   ·simp only; rw [G9 (by omega) (by omega)]; omega
   ·show ((l++[({ Seq:=w64 (2+k),Rec:=r }:TItem)]).length:Int)=w64 (k+1)
    rw [List.length_append,List.length_singleton,G9 (by omega) (by omega)]; omega
   ·show ∀ (j:Nat) (hj:j<(l++[({ Seq:=w64 (2+k),Rec:=r }:TItem)]).length),((l++[({ Seq:=w64 (2+k),Rec:=r }:TItem)])[j]).Seq=2+(j:Int)∧RecD ((l++[({ Seq:=w64 (2+k),Rec:=r }:TItem)])[j]).Rec
    intro j hj
    rw [List.length_append,List.length_singleton] at hj
    by_cases hjl:j<l.length
    ·rw [List.getElem_append_left hjl]; exact hl j hjl
    ·have:j=l.length:=by omega
     subst this
     rw [List.getElem_append_right (Nat.le_refl _)]
     simp only [Nat.sub_self,List.getElem_cons_zero]
     exact ⟨by rw [G9 (by omega) (by omega)]; omega,hr⟩
   ·simp only; rw [G9 (by omega) (by omega)]; omega
  ·right
   rw [if_neg (by simpa using hk)]
   exact ⟨_,rfl,hi1,(by show l.length≤21; omega),hl⟩
 obtain ⟨⟨i1,h1,l⟩,e,hi1,hlen,hl⟩:=key
 simp only at hi1 hlen hl
 have hall:∀ x∈l,(2≤x.Seq∧x.Seq≤23)∧RecD x.Rec:=by
  intro x hx
  obtain ⟨j,hj,rfl⟩:=List.mem_iff_getElem.1 hx
  have:=hl j hj
  exact ⟨by omega,this.2⟩
 have hinj:∀ x∈l,∀ y∈l,x.Seq=y.Seq→x=y:=by
  intro x hx y hy he
  obtain ⟨j,hj,rfl⟩:=List.mem_iff_getElem.1 hx
  obtain ⟨k,hk,rfl⟩:=List.mem_iff_getElem.1 hy
  have h1:=(hl j hj).1
  have h2:=(hl k hk).1
  have:j=k:=by omega
  subst this; rfl
 have hok:itemsOk l=true:=Jt.2 ⟨by omega,fun x hx=>⟨by have:=(hall x hx).1; omega,(hall x hx).2.ok⟩,hinj⟩
 rw [e,ob]
 have fin0:∀ (i' h':Int),IOk b i'→Dr b (some (l,({ mB:=b,mI:=i',mH:=h' }:TL01Cur))) ItD:=fun i' h' hi'=>Dr.ret hi' ⟨hok,by omega,hall⟩
 by_cases hl1:(l.length:Int)>1
 ·have hgt:decide ((((i1,h1,l):Int×Int×List TItem).2.2.length:Int)>1)=true:=by simpa using hl1
  rw [if_pos hgt]
  obtain ⟨o,i2,h2,e2,_,hi2⟩:=Ko (h:=h1) hi1 (n:=3) (by omega) (by omega)
  have e2':E4 { mB:=b,mI:=((i1,h1,l):Int×Int×List TItem).1,mH:=((i1,h1,l):Int×Int×List TItem).2.1 } 3=some (o,⟨b,i2,h2⟩):=e2
  rw [e2',ob]
  cases o
  ·exact fin0 i2 h2 hi2
  ·show Dr b (Option.bind (A9 ⟨b,i2,h2⟩ (l.length:Int)) _) ItD
   refine Dr.bind (H8 hi2 (by omega) (by omega)) fun n i3 h3 hn hi3=>?_
   obtain ⟨m,rfl⟩:∃ m:Nat,n=m:=⟨n.toNat,by omega⟩
   show Dr b ((at? l (m:Int)).bind _) ItD
   rw [at?_nat (show m<l.length by omega),ob]
   show Dr b ((app? 96 l [l[m]]).bind _) ItD
   rw [app?_ok (by simp; omega) (by simp; omega),ob]
   refine Dr.ret hi3 ?_
   have hmem:∀ x,x∈l++[l[m]'(by omega)]↔x∈l:=by
    intro x
    rw [List.mem_append,List.mem_singleton]
    exact ⟨fun h=>h.elim id fun h=>h ▸ List.getElem_mem _,.inl⟩
   refine ⟨Jt.2 ⟨by simp; omega,fun x hx=>?_,fun x hx y hy=>hinj x ((hmem x).1 hx) y ((hmem y).1 hy)⟩,by simp; omega,fun x hx=>hall x ((hmem x).1 hx)⟩
   have:=hall x ((hmem x).1 hx)
   exact ⟨by omega,this.2.ok⟩
 ·have hgt:¬ decide ((((i1,h1,l):Int×Int×List TItem).2.2.length:Int)>1)=true:=by simpa using hl1
  rw [if_neg hgt]
  exact fin0 i1 h1 hi1
theorem RecD.sz {r:TRec} (h:RecD r):Gi r:=⟨by have:=h.user; omega,by have:=h.name; omega,by have:=h.text; omega⟩
theorem ItD.sz {l:List TItem} (h:ItD l):SzI l:=⟨by have:=h.len; omega,fun y hy=>⟨(h.all y hy).2.sz⟩⟩
theorem Td {l:List TItem} (h:SzI l) (k:Int) (hk:-9223372036854775808≤k∧k<9223372036854775808):Y3 l k=some (itemsOk l&&inR k 0 ((l.length:Int) - 1)&&needK l k.toNat ((l[k.toNat]?).getD item0)):=by
 have hl:=h.1
 unfold Y3
 rw [Ct h,ob,G9 (by omega) (by omega)]
 cases itemsOk l with
 | false=>rfl
 | true =>
  simp only [if_true,Kt,ob]
  cases hr:inR k 0 ((l.length:Int) - 1) with
  | false=>rfl
  | true =>
   unfold inR at hr
   simp only [Bool.and_eq_true,decide_eq_true_eq] at hr
   obtain ⟨n,rfl⟩:∃ n:Nat,k=n:=⟨k.toNat,by omega⟩
   have hn:n<l.length:=by omega
   simp [Qe hl hn,hn]
theorem Jp {l:List TItem} (h:SzI l) (k:Int) (hk:-9223372036854775808≤k∧k<9223372036854775808):J8 l k=some (itemsOk l&&inR k 0 ((l.length:Int) - 1)&&needK l k.toNat ((l[k.toNat]?).getD item0)):=by
 have hl:=h.1
 unfold J8
 rw [Dc h,ob,G9 (by omega) (by omega)]
 cases hok:itemsOk l with
 | false=>rfl
 | true =>
  simp only [if_true,Kr,ob]
  cases hr:inR k 0 ((l.length:Int) - 1) with
  | false=>rfl
  | true =>
   unfold inR at hr
   simp only [Bool.and_eq_true,decide_eq_true_eq] at hr
   obtain ⟨n,rfl⟩:∃ n:Nat,k=n:=⟨k.toNat,by omega⟩
   have hn:n<l.length:=by omega
   simp [Pw hl hok hn,hn]
theorem Hm {ρ:Type} {n:Nat} {step:Int→Option (Int ⊕ (ρ ⊕ Unit))} (hn:n≤1048576) (h1:∀ i:Nat,i<n→step (i:Int)=some (.inl ((i+1:Nat):Int))) (h2:step (n:Int)=some (.inr (.inr ()))):iter step 0=some (.inr ()):=by
 exact G6 (step:=step) (fun i=>(i:Int)) n (fun i hi=>h1 i hi) h2
theorem Mw {l:List TItem} (h:l.length≤1048576):R4 l l=some true:=by
 unfold R4
 rw [if_neg (by simp),Hm (n:=l.length) h]
 ·rfl
 ·intro i hi
  unfold T1
  simp only [dlt hi,if_true,at?_nat hi,ob,B6 (show i<9223372036854775807 by omega),beq_self_eq_true,Bool.and_self,Bool.not_true,Bool.false_eq_true,if_false]
 ·unfold T1; simp
theorem A02 {b:List Int} (h:¬ (b.length:Int)>1048576):Y8 b=some false:=by unfold Y8; simp; omega
theorem Zf {b:List Int} (h:(b.length:Int)>1048576):Y8 b=some true:=by unfold Y8; simp; omega
theorem sub?_from {α:Type} {l:List α} {n:Nat} (h:n≤l.length):sub? l (n:Int) (l.length:Int)=some (l.drop n):=by
 unfold sub?
 rw [if_pos ⟨by omega,by omega,by omega⟩]
 simp
theorem Wg {n:Nat} (hn:n≤1048576) (c:Int):W0 (n:Int) c=some ((List.replicate n c).map ofI):=by
 unfold W0
 rw [mk?_ok (by omega) (by omega),ob]
 have h:=Zq (l:=List.replicate n c) (z:=(0:Int)) (step:=P8 (n:Int) c) (by simp; omega) ?_ ?_
 ·rw [List.length_replicate] at h
  rw [h]; rfl
 ·intro i hi o ho
  rw [List.length_replicate] at hi ho
  have hio:i<o.length:=by omega
  unfold P8
  simp only [dlt hi,if_true,at?_nat hio,ob,B6 (show i<9223372036854775807 by omega),Xp,List.getElem_replicate]
 ·intro o
  unfold P8
  simp
theorem tmodB {x n:Int} (h:0≤x) (hn:0<n):0≤Int.tmod x n∧Int.tmod x n<n:=⟨Int.tmod_nonneg _ h,Int.tmod_lt_of_pos _ hn⟩
theorem at?_in {α:Type} {l:List α} {i:Int} (h:0≤i∧i<(l.length:Int)):∃ x,at? l i=some x∧x∈l:=by
 obtain ⟨n,rfl⟩:∃ n:Nat,i=n:=⟨i.toNat,by omega⟩
 exact ⟨_,at?_nat (by omega),List.getElem_mem _⟩
theorem Xa {b:List Int} {i h:Int} (hi:IOk b i):Dr b (U1 ⟨b,i,h⟩) Gi:=by
 unfold U1
 refine Dr.bind (H8 hi (by omega) (by omega)) fun k i h hk hi=>Dr.bind (H8 hi (by omega) (by omega)) fun x i h hx hi=>Dr.bind (Qo hi) fun r i h hr hi=>?_
 have hs:=hr.sz
 have h1:=hs.sUser
 have h2:=hs.sName
 have h3:=hs.sText
 dsimp only
 by_cases k0:(k==0)=true
 ·rw [if_pos k0]; exact Dr.ret hi ⟨h1,h2,h3⟩
 rw [if_neg k0]
 by_cases k1:(k==1)=true
 ·rw [if_pos k1]
  obtain ⟨y,e,_⟩:=at?_in (l:=([0,9999,10000]:List Int)) (tmodB (n:=3) hx.1 (by omega))
  rw [e,ob]; exact Dr.ret hi ⟨h1,h2,h3⟩
 rw [if_neg k1]
 by_cases k2:(k==2)=true
 ·rw [if_pos k2]
  obtain ⟨y,e,_⟩:=at?_in (l:=([0,9999,10000,(-1)]:List Int)) (tmodB (n:=4) hx.1 (by omega))
  rw [e,ob]; exact Dr.ret hi ⟨h1,h2,h3⟩
 rw [if_neg k2]
 by_cases k3:(k==3)=true
 ·rw [if_pos k3]; exact Dr.ret hi ⟨h1,h2,h3⟩
 rw [if_neg k3]
 by_cases k4:(k==4)=true
 ·rw [if_pos k4]
  obtain ⟨y,e,hy⟩:=at?_in (l:=([[],[65],[110,105,110,101,98,121,116,101,115]]:List (List UInt8))) (tmodB (n:=3) hx.1 (by omega))
  rw [e,ob]
  refine Dr.ret hi ⟨?_,h2,h3⟩
  simp only [List.mem_cons,List.not_mem_nil,or_false] at hy
  rcases hy with rfl | rfl | rfl <;> simp
 rw [if_neg k4]
 by_cases k5:(k==5)=true
 ·rw [if_pos k5]
  have ht:=tmodB (x:=x) (n:=2) hx.1 (by omega)
  rw [G9 (by omega) (by omega)]
  obtain ⟨n,hn⟩:∃ n:Nat,100+Int.tmod x 2=n:=⟨(100+Int.tmod x 2).toNat,by omega⟩
  rw [hn,Wg (by omega),ob]
  refine Dr.ret hi ⟨h1,h2,?_⟩
  simp; omega
 rw [if_neg k5]
 by_cases k6:(k==6)=true
 ·rw [if_pos k6]; exact Dr.ret hi ⟨h1,h2,h3⟩
 rw [if_neg k6]
 exact Dr.ret hi hs
theorem SzI.app {l:List TItem} {x:TItem} (h:SzI l) (hl:l.length≤1000) (hx:Mp x):SzI (l++[x]):=by
 refine ⟨by simp; omega,fun y hy=>?_⟩
 rcases List.mem_append.1 hy with hy | hy
 ·exact h.2 y hy
 ·rw [List.mem_singleton] at hy; subst hy; exact hx
theorem Jl {b:List Int} {i h:Int} (hi:IOk b i):Dr b (J6 ⟨b,i,h⟩) fun l=>SzI l∧l.length≤300:=by
 unfold J6
 refine Dr.bind (H8 hi (by omega) (by omega)) fun k i h hk hi=>Dr.bind (H8 hi (by omega) (by omega)) fun x ix jx hx hi=>Dr.bind (Yh hi) fun l i h hl hi=>?_
 have hs:=hl.sz
 have hn:=hl.len
 have ap:∀ y:TItem,app? 96 l [y]=some (l++[y]):=fun y=>app?_ok (by simp; omega) (by simp; omega)
 dsimp only
 rw [app?_ok (by simp; omega) (by simp; omega),ob,List.nil_append]
 have fin:∀ {i h:Int} (y:TItem),IOk b i→Mp y→Dr b ((app? 96 l [y]).bind fun v=>some (v,({ mB:=b,mI:=i,mH:=h }:TL01Cur))) fun l=>SzI l∧l.length≤300:=by
  intro i h y hi hy
  rw [ap,ob]
  exact Dr.ret hi ⟨hs.app (by omega) hy,by simp; omega⟩
 by_cases k0:(k==0)=true
 ·rw [if_pos k0]
  exact Dr.bind (Qo hi) fun r i h hr hi=>fin _ hi ⟨hr.sz⟩
 rw [if_neg k0]
 by_cases k1:(k==1)=true
 ·rw [if_pos k1]
  exact Dr.bind (Xa hi) fun r i h hr hi=>fin _ hi ⟨hr⟩
 rw [if_neg k1]
 by_cases k2:(k==2)=true
 ·rw [if_pos k2]
  exact Dr.bind (Qo hi) fun r i h hr hi=>fin _ hi ⟨hr.sz⟩
 rw [if_neg k2]
 by_cases k3:(k==3)=true
 ·rw [if_pos k3]
  have ht:=tmodB (x:=x) (n:=3) hx.1 (by omega)
  have hw:w64 (199+Int.tmod x 3)=199+Int.tmod x 3:=G9 (by omega) (by omega)
  have key:∃ r,iter (L5 (x,⟨b,ix,jx⟩)) l=some r∧(SzI r∧r.length≤300):=by
   refine Gl (fun s:List TItem=>SzI s∧s.length≤300) (fun s=>300 - s.length) _ ?_ _ ⟨hs,by omega⟩
   rintro s ⟨h1,h2⟩
   unfold L5
   dsimp only
   rw [hw]
   by_cases hl:(s.length:Int)<199+Int.tmod x 3
   ·left
    rw [if_pos (by simpa using hl),app?_ok (by simp; omega) (by simp; omega),ob]
    exact ⟨_,rfl,⟨h1.app (by omega) ⟨⟨by simp,by simp,by simp⟩⟩,by simp; omega⟩,by simp; omega⟩
   ·right
    rw [if_neg (by simpa using hl)]
    exact ⟨_,rfl,h1,h2⟩
  obtain ⟨r,e,hr⟩:=key
  have e':iter (L5 (x,{ mB:=b,mI:=ix,mH:=jx })) l=some r:=e
  rw [e',ob]
  exact Dr.ret hi hr
 rw [if_neg k3]
 exact Dr.ret hi ⟨hs,by omega⟩
theorem Yo {b:List Int} {i h:Int} (hi:IOk b i) {n:Int} (hn:1≤n) (hm:n≤1000):Dr b (L7 ⟨b,i,h⟩ n) fun x=>-9223372036854775808≤x∧x<9223372036854775808:=by
 unfold L7
 refine Dr.bind (Ko hi (by omega) (by omega)) fun o i h _ hi=>?_
 cases o
 ·exact Dr.bind (H8 hi (by omega) (by omega)) fun x i h hx hi=>Dr.ret hi (by dsimp only; omega)
 ·refine Dr.bind (Mr hi (by simp) (by simp)) fun x i h hx hi=>Dr.ret hi ?_
  dsimp only
  rw [G9 (by omega) (by omega)] at hx
  simp only [List.mem_cons,List.not_mem_nil,or_false] at hx
  omega
theorem Ti {b:List Int} (hb:b.length≤1048576):∃ l k,L4 b=some (l,k)∧SzI l∧l.length≤300∧-9223372036854775808≤k∧k<9223372036854775808:=by
 obtain ⟨h,e⟩:=Xo hb
 unfold L4
 rw [e,ob]
 obtain ⟨k,i,h,e1,hk,hi⟩:=Yo (h:=h) (iok0 hb) (n:=20) (by omega) (by omega)
 obtain ⟨l,i,h,e2,hl,hi⟩:=Jl (h:=h) hi
 rw [e1,ob]
 dsimp only
 rw [e2,ob]
 exact ⟨l,k,rfl,hl.1,hl.2,hk⟩
theorem Zt {b:List Int} {i h:Int} (hi:IOk b i) {n:Nat} (hn:n≤1000):∃ v i' h' l lo hi,J9 ⟨b,i,h⟩ (n:Int)=some (v,⟨b,i',h'⟩,l,lo,hi)∧sub? l lo hi=some v∧v.length≤1000:=by
 unfold J9
 have key:∃ r,iter (K8 ⟨b,i,h⟩ (n:Int)) (0,i,h,[])=some r∧(IOk b r.1∧r.2.2.length=n):=by
  refine Gl (fun s:Int×Int×Int×List Bool=>(0≤s.1∧s.1≤(n:Int)∧(s.2.2.2.length:Int)=s.1)∧IOk b s.2.1) (fun s=>((n:Int) - s.1).toNat) _ ?_ _ ⟨⟨by simp,by simp,by simp⟩,hi⟩
  rintro ⟨k,i,h',l⟩ ⟨⟨h0,h1,h2⟩,hi⟩
  simp only at h0 h1 h2 hi
  unfold K8
  by_cases hk:k<(n:Int)
  ·left
   rw [if_pos (by simpa using hk)]
   obtain ⟨o,i1,h1',e,_,hi1⟩:=Ko (h:=h') hi (n:=2) (by omega) (by omega)
   show ∃ s',(E4 ⟨b,i,h'⟩ 2).bind _=_∧_
   rw [e,ob]
   show ∃ s',(app? 1 l [o]).bind _=_∧_
   rw [app?_ok (by simp; omega) (by simp; omega),ob]
   refine ⟨_,rfl,⟨⟨?_,?_,?_⟩,hi1⟩,?_⟩
   ·simp only; rw [G9 (by omega) (by omega)]; omega
   ·simp only; rw [G9 (by omega) (by omega)]; omega
   ·simp only [List.length_append,List.length_singleton]; rw [G9 (by omega) (by omega)]; omega
   ·simp only; rw [G9 (by omega) (by omega)]; omega
  ·right
   rw [if_neg (by simpa using hk)]
   exact ⟨_,rfl,hi,by show l.length=n; omega⟩
 obtain ⟨⟨i1,h1,l⟩,e,hi1,hl⟩:=key
 simp only at hi1 hl
 have e':iter (K8 ⟨b,i,h⟩ (n:Int)) (0,(⟨b,i,h⟩:TL01Cur).mI,(⟨b,i,h⟩:TL01Cur).mH,[])=some (i1,h1,l):=e
 rw [e',ob]
 obtain ⟨o,i2,h2,e2,_,hi2⟩:=Ko (h:=h1) hi1 (n:=8) (by omega) (by omega)
 dsimp only
 rw [e2,ob]
 dsimp only
 have all:sub? l 0 (l.length:Int)=some l:=by
  have:=sub?_take (l:=l) (i:=l.length) (by omega)
  simpa using this
 cases o
 ·exact ⟨l,i2,h2,l,0,_,rfl,all,by omega⟩
 ·by_cases hn0:(n:Int)>0
  ·rw [if_pos rfl,if_pos (by simpa using hn0),ob,if_pos rfl]
   have hs:sub? l 1 (l.length:Int)=some (l.drop 1):=by
    exact sub?_from (l:=l) (n:=1) (by omega)
   rw [hs,ob]
   exact ⟨_,i2,h2,l,1,_,rfl,hs,by simp; omega⟩
  ·rw [if_pos rfl,if_neg (by simpa using hn0),ob]
   exact ⟨l,i2,h2,l,0,_,rfl,all,by omega⟩
theorem Vw {b:List Int} (hb:b.length≤1048576):∃ l d,K4 b=some (l,d)∧SzI l∧l.length≤300∧d.length≤1000:=by
 obtain ⟨h,e⟩:=Xo hb
 obtain ⟨l,i,h,e2,hl,hi⟩:=Jl (h:=h) (iok0 hb)
 obtain ⟨v,i',h',m,lo,hi',e3,hs,hv⟩:=Zt (h:=h) hi (n:=l.length) (by omega)
 have e4:P0 b=some ((l,v),m,lo,hi'):=by
  unfold P0
  rw [e,ob]
  dsimp only
  rw [e2,ob]
  dsimp only
  rw [Pr e3 hs,ob]
 unfold K4
 rw [Pr e4 hs,ob]
 exact ⟨l,v,rfl,hl.1,hl.2,hv⟩
theorem Pb {l:List TRec} (h:l.length≤1048576):U0 l l=some true:=by
 unfold U0
 rw [if_neg (by simp),Hm (n:=l.length) h]
 ·rfl
 ·intro i hi
  unfold V3
  simp only [dlt hi,if_true,at?_nat hi,ob,B6 (show i<9223372036854775807 by omega),beq_self_eq_true,Bool.and_self,Bool.not_true,Bool.false_eq_true,if_false]
 ·unfold V3; simp
def oneI:List TItem:=[{ Seq:=5,Rec:={ Kind:=1,Valid:=1,Uid:=0,Next:=1,Flags:=0,User:=[97,110,110],Name:=[105,110,98,111,120],Text:=[] } }]
theorem Vd:SzI oneI:=⟨by simp [oneI],by intro y hy; simp only [oneI,List.mem_singleton] at hy; subst hy; exact ⟨⟨by simp,by simp,by simp⟩⟩⟩
theorem Hx {x:List Int} (_w:x.length≤maxLen∧∀ a∈x,(Lit.int .u8 a).wf=true):T0 x=some true:=by
 unfold T0
 by_cases hb:(x.length:Int)>1048576
 ·rw [Zf hb]; rfl
 rw [A02 hb,ob,if_neg (by simp)]
 have hx:x.length≤1048576:=by omega
 obtain ⟨l,k,e1,hl,hn,hk⟩:=Ti hx
 obtain ⟨m,d,e2,hm,hn2,hd⟩:=Vw hx
 have hna:=Tj l
 have hloop:iter (H7 (needAll l) (needAll l)) 0=some (.inr ()):=by
  refine Hm (n:=(needAll l).length) (by omega) ?_ ?_
  ·intro i hi
   unfold H7
   simp only [dlt hi,if_true,at?_nat hi,ob,B6 (show i<9223372036854775807 by omega),beq_self_eq_true,Bool.not_true,Bool.false_eq_true,if_false]
  ·unfold H7; simp
 have hnx:=Ud hm d
 have hwl:(without m d).length≤300:=Nat.le_trans (Gs _) hn2
 have q1:J8 oneI 0=some true:=by
  rw [Jp Vd 0 (by omega)]
  decide
 have q2:∃ v,H9 oneI [true]=some v∧v.length=1:=⟨_,Gx Vd [true],by kernel_rfl⟩
 obtain ⟨v,q2,q3⟩:=q2
 rw [e1,ob,e2,ob]
 dsimp only
 rw [Mi hl,ob,My hl,ob,if_neg (by simp),hloop,ob]
 simp only [Sum.elim_inr]
 rw [Jp hl k hk,ob,Td hl k hk,ob,if_pos (by simp),Gx hm,ob,Qq hm,ob,Pb hnx.1,ob,if_pos rfl,Gb (by omega),ob,Gk (by omega),ob,Mw (by omega),ob,if_pos rfl]
 have q1':J8 [({ Seq:=5,Rec:=({ Kind:=1,Valid:=1,Uid:=0,Next:=1,Flags:=0,User:=[97,110,110],Name:=[105,110,98,111,120],Text:=[] }:TRec) }:TItem)] 0=some true:=q1
 have q2':H9 [({ Seq:=5,Rec:=({ Kind:=1,Valid:=1,Uid:=0,Next:=1,Flags:=0,User:=[97,110,110],Name:=[105,110,98,111,120],Text:=[] }:TRec) }:TItem)] [true]=some v:=q2
 rw [q1',ob,if_pos rfl,q2',ob,q3]
 rfl
end Go.Proofs.Ytldndhdohlfpgaa.V
