/- The machine of values, part D. -/
import Derived.Test.YtldndhdohlfpgaaGreatXC
/- The abstract machine's text, the types told by numbers: its operations. -/
namespace Go.Proofs.YtldndhdohlfpgaaGreat.V
open Go Go.RowKit
abbrev AV.j (n:Int):AV:=.int .i64 n
inductive R0
 | t (n:Nat)
 | c (v:AV)
def rg (a:Asg):R0→Option AV
 | .t n=>get a n
 | .c v=>some v
def rgs (a:Asg):List R0→Option (List AV)
 | []=>some []
 | x::r=>match rg a x,rgs a r with | some v,some vs=>some (v::vs) | _,_=>none
def rgp (a:Asg):List (Nat×R0)→Option (List (Nat×AV))
 | []=>some []
 | (i,x)::r=>match rg a x,rgp a r with | some v,some vs=>some ((i,v)::vs) | _,_=>none
def rgo (a:Asg):Option R0→Option (Option AV)
 | none=>some none
 | some x=>(rg a x).map some
def rpart (ag:Bool) (sz:Nat) (cs:List AV) (off:Nat):Option AV:=if ag then some (.agg ((cs.drop off).take sz)) else cs[off]?
def leafEq:Nat→AV→AV→Option Bool
 | 0,.bool a,.bool b=>some (a==b)
 | 1,.int k a,.int k' b=>if k=k' then some (a==b) else none
 | 2,.str a,.str b=>some (a==b)
 | _,_,_=>none
def lvEq:List (Nat×Nat)→List AV→List AV→Option Bool
 | [],_,_=>some true
 | (o,k)::l,xs,ys=>match xs[o]?,ys[o]? with
  | some x,some y=>match leafEq k x y,lvEq l xs ys with
   | some a,some b=>some (a&&b)
   | _,_=>none
  | _,_=>none
inductive ROp
 | mv (x:R0)
 | pick (c x y:R0)
 | bin (op:BinOp) (x y:R0)
 | equ (ne:Bool) (ls:List (Nat×Nat)) (x y:R0)
 | eqb (ne:Bool) (x y:R0)
 | un (op:UnOp) (x:R0)
 | cvi (k:IntKind) (x:R0)
 | cvs (x:R0)
 | cvb (x:R0)
 | mkf (f:FuncId) (cap:List R0)
 | fld (off sz:Nat) (ag:Bool) (x:R0)
 | idx (x i:R0)
 | ext (x:R0) (i:Nat)
 | bld (z:List AV) (pl:List (Nat×Nat)) (parts:List (Nat×R0))
 | mn (x y:R0)
 | mx (x y:R0)
 | lens (x:R0)
 | lenl (x:R0)
 | sls (x:R0) (lo hi:Option R0)
 | sle (es:Nat) (x:R0) (lo hi:Option R0)
 | slz (x:R0)
 | fa (off:Nat) (x:R0)
 | ia (es:Nat) (x i:R0)
 | ld (ag:Bool) (sz:Nat) (x:R0)
 | nc (x:R0)
 | al (z:List AV)
 | bx (x:R0)
 | bs (es:Nat) (z:List AV) (len:Nat) (parts:List (Nat×R0))
 | ms (es:Nat) (z:List AV) (byt:Nat) (l c:R0)
 | st (sz:Nat) (x y:R0)
 | app (es byt:Nat) (s x:R0)
 | isn (neg:Bool) (x:R0)
 | cl (f:R0) (args:List R0)
def rload (ag:Bool) (sz:Nat) (cells:List AV) (off:Nat):Option AV :=
 if ag then (if off+sz≤cells.length then some (.agg ((cells.drop off).take sz)) else none) else cells[off]?
def ral {α:Type} (h:Option α) (H:AH):Option (α×AH):=h.map fun v=>(v,H)
def rcvb (H:AH):AV→Option AV
 | .lst _ es cells _=>if es=1 then (bytesOf cells).map .str else none
 | .nils=>some (.str [])
 | .sl b off n=>match H[b]? with
  | some (some k)=>if k.es=1∧off+n≤k.cells.length then (bytesOf ((k.cells.drop off).take n)).map .str else none
  | _=>none
 | _=>none
def rbin (op:BinOp) (x y:AV):Option AV :=
 match x,y with
 | .int k a,.int k' b=>if op=.shl∨op=.shr then ashift op k a b else if k=k' then aint op k a b else none
 | .str a,.str b=>astr op a b
 | _,_=>none
def ridx (x i:AV):Option AV :=
 match x,i with
 | .str s,.int _ i=>if 0≤i then (s[i.toNat]?).map fun b=>.int .u8 b.toNat else none
 | _,_=>none
def rsle (H:AH) (es:Nat) (x:AV) (lo hi:Option AV):Option AV :=
 match x with
 | .lst _ es' cells n=>if es=es' then (abnd n lo hi).map fun (l,h)=>.lst false es ((cells.take (h*es)).drop (l*es)) (h - l) else none
 | .sl b off n=>if liveB H b then (abnd n lo hi).map fun (l,h)=>.sl b (off+l*es) (h - l) else none
 | .nils=>(abnd 0 lo hi).map fun _=>.nils
 | _=>none
def ria (H:AH) (es:Nat) (x i:AV):Option AV :=
 match x,i with
 | .sl b off n,.int _ i=>if (0≤i∧i<(n:Int))∧liveB H b=true then some (.ptr b (off+i.toNat*es)) else none
 | .lst _ _ cells n,.int _ i=>if 0≤i∧i<(n:Int) then some (.el cells (i.toNat*es)) else none
 | .pv _ _ _ cells n,.int _ i=>if 0≤i∧i<(n:Int) then some (.el cells (i.toNat*es)) else none
 | _,_=>none
def rst (nw:Nat) (H:AH) (sz:Nat) (x v:AV):Option AH :=
 match x with
 | .ptr b off=>match H[b]? with
  | some (some k)=>if nw≤b∧(v.one||v.isAgg)=true∧v.cells.length=sz∧off+sz≤k.cells.length then some (H.set b (some { k with cells:=splice k.cells off (v.cells.map AV.strip) })) else none
  | _=>none
 | _=>none
def rapp (nw:Nat) (H:AH) (es byt:Nat) (s x:AV):Option (AV×AH) :=
 match abase nw H es s,acont H es x with
 | some (n,cells,kill),some (m,xs)=>if n+m≤1099511627776∧(n+m)*byt≤140737488355328 then some (.sl H.length 0 (n+m),killed H kill++[some ⟨cells++xs.map AV.strip,es⟩]) else none
 | _,_=>none
def rms (H:AH) (es:Nat) (z:List AV) (byt:Nat) (l c:AV):Option (AV×AH) :=
 match l,c with
 | .int _ n,.int _ m=>if 0≤n∧n=m∧(byt:Int)*n≤140737488355328∧n≤140737488355328 then some (.sl H.length 0 n.toNat,H++[some ⟨zrep z n.toNat,es⟩]) else none
 | _,_=>none
def rx (nw:Nat) (o:ROp) (a:Asg) (H:AH):Option (AV×AH) :=
 match o with
 | .mv x=>ral (rg a x) H
 | .pick c x y=>match rg a c with | some (.bool true)=>ral (rg a x) H | some (.bool false)=>ral (rg a y) H | _=>none
 | .bin op x y=>match rg a x,rg a y with | some x,some y=>ral (rbin op x y) H | _,_=>none
 | .equ ne ls x y=>match rg a x,rg a y with | some (.agg xs),some (.agg ys)=>ral ((lvEq ls xs ys).map fun b=>.bool (if ne then !b else b)) H | _,_=>none
 | .eqb ne x y=>match rg a x,rg a y with | some (.bool p),some (.bool q)=>some (.bool (if ne then !(p==q) else p==q),H) | _,_=>none
 | .un op x=>match rg a x with | some x=>ral (aun op x) H | none=>none
 | .cvi k x=>match rg a x with | some (.int _ n)=>some (.int k (k.wrap n),H) | _=>none
 | .cvs x=>match rg a x with | some (.str s)=>some (.str s,H) | _=>none
 | .cvb x=>match rg a x with | some x=>ral (rcvb H x) H | none=>none
 | .mkf f cap=>match rgs a cap with | some vs=>some (.fn f vs,H) | none=>none
 | .fld off sz ag x=>match rg a x with | some (.agg cs)=>if off+sz≤cs.length then ral (rpart ag sz cs off) H else none | _=>none
 | .idx x i=>match rg a x,rg a i with | some x,some i=>ral (ridx x i) H | _,_=>none
 | .ext x i=>match rg a x with | some (.tup vs)=>ral vs[i]? H | _=>none
 | .bld z pl parts=>match rgp a parts with | some ps=>ral ((afill (fun i=>pl[i]?) z ps).map .agg) H | none=>none
 | .mn x y=>match rg a x,rg a y with | some (.int k m),some (.int _ n)=>some (.int k (if n<m then n else m),H) | _,_=>none
 | .mx x y=>match rg a x,rg a y with | some (.int k m),some (.int _ n)=>some (.int k (if n>m then n else m),H) | _,_=>none
 | .lens x=>match rg a x with | some (.str s)=>some (.int .i64 s.length,H) | _=>none
 | .lenl x=>match rg a x with | some (.sl b _ n)=>(if liveB H b then some (.int .i64 n,H) else none) | some (.lst _ _ _ n)=>some (.int .i64 n,H) | some (.pv _ _ _ _ n)=>some (.int .i64 n,H) | some .nils=>some (.int .i64 0,H) | _=>none
 | .sls x lo hi=>match rg a x,rgo a lo,rgo a hi with | some (.str s),some lo,some hi=>ral ((abnd s.length lo hi).map fun (l,h)=>.str ((s.take h).drop l)) H | _,_,_=>none
 | .sle es x lo hi=>match rg a x,rgo a lo,rgo a hi with | some x,some lo,some hi=>ral (rsle H es x lo hi) H | _,_,_=>none
 | .slz x=>match rg a x with | some (.lst _ _ _ _)=>some (.nils,H) | some (.sl b _ _)=>(if liveB H b then some (.nils,H) else none) | some .nils=>some (.nils,H) | _=>none
 | .fa off x=>match rg a x with | some (.ptr b o)=>(if liveB H b then some (.ptr b (o+off),H) else none) | some (.el cells o)=>some (.el cells (o+off),H) | _=>none
 | .ia es x i=>match rg a x,rg a i with | some x,some i=>ral (ria H es x i) H | _,_=>none
 | .ld ag sz x=>match rg a x with
  | some (.el cells off)=>ral (rload ag sz cells off) H
  | some (.ptr b off)=>(match H[b]? with | some (some k)=>ral (rload ag sz (k.cells.map AV.hide) off) H | _=>none)
  | _=>none
 | .nc x=>match rg a x with | some (.ptr b off)=>(if liveB H b then some (.ptr b off,H) else none) | some (.el cells off)=>some (.el cells off,H) | _=>none
 | .al z=>some (.ptr H.length 0,H++[some ⟨z,0⟩])
 | .bx x=>match rg a x with | some v=>if (v.one||v.isAgg)=true then some (.ptr H.length 0,H++[some ⟨v.cells.map AV.strip,0⟩]) else none | none=>none
 | .bs es z len parts=>match rgp a parts with | some ps=>(afill (fun i=>some (i*es,es)) (zrep z len) ps).map fun cells=>(.sl H.length 0 len,H++[some ⟨cells.map AV.strip,es⟩]) | none=>none
 | .ms es z byt l c=>match rg a l,rg a c with | some l,some c=>rms H es z byt l c | _,_=>none
 | .st sz x y=>match rg a x,rg a y with | some x,some v=>(rst nw H sz x v).map fun H'=>(.und,H') | _,_=>none
 | .app es byt s x=>match rg a s,rg a x with | some s,some x=>rapp nw H es byt s x | _,_=>none
 | .isn _ _=>none
 | .cl _ _=>none
structure RO where
 d:Option Nat
 g:Option (Nat×Bool)
 o:ROp
abbrev on (o:ROp):RO:=⟨none,none,o⟩
inductive RC
 | skip
 | reg (ops:List RO)
 | drw (ops:List RO) (pl:List Pl)
 | seq (x y:RC)
 | cond (c:R0) (x y:RC)
 | blk (id:Nat) (x:RC)
 | loop (x:RC)
 | exit (id:Nat)
 | ret
end Go.Proofs.YtldndhdohlfpgaaGreat.V
/- From the model's operations to those whose types are told by numbers; each comes to what the abstract machine says. -/
namespace Go.Proofs.YtldndhdohlfpgaaGreat.V
open Go Go.RowKit
def r0:Operand→Option R0
 | .tmp t=>some (.t t)
 | .const v=>some (.c (cst v))
 | .func f=>some (.c (.fn f []))
 | .global _=>none
def r0s:List Operand→Option (List R0)
 | []=>some []
 | x::l=>match r0 x,r0s l with | some r,some rs=>some (r::rs) | _,_=>none
def r0p:List (Nat×Operand)→Option (List (Nat×R0))
 | []=>some []
 | (i,x)::l=>match r0 x,r0p l with | some r,some rs=>some ((i,r)::rs) | _,_=>none
def r0o:Option Operand→Option (Option R0)
 | none=>some none
 | some x=>(r0 x).map some
section
variable {P:Program} {a:Asg} {H:AH} {nw:Nat}
theorem Ja {x:Operand} {r:R0} (h:r0 x=some r):aev a x=rg a r:=by
 cases x <;> simp only [r0,qS,reduceCtorEq] at h <;> subst h <;> rfl
theorem A40:∀ {l:List Operand} {rs:List R0},r0s l=some rs→aevs a l=rgs a rs
 | [],rs,h=>by simp only [r0s,qS] at h; subst h; rfl
 | x::l,rs,h=>by
  simp only [r0s] at h
  split at h
  ·rename_i r rs' h1 h2
   simp only [qS] at h
   subst h
   simp only [aevs,rgs,Ja (a:=a) h1,A40 h2]
   rfl
  ·cases h
theorem A43:∀ {l:List (Nat×Operand)} {rs:List (Nat×R0)},r0p l=some rs→aparts a l=rgp a rs
 | [],rs,h=>by simp only [r0p,qS] at h; subst h; rfl
 | (i,x)::l,rs,h=>by
  simp only [r0p] at h
  split at h
  ·rename_i r rs' h1 h2
   simp only [qS] at h
   subst h
   simp only [aparts,rgp,Ja (a:=a) h1,A43 h2]
   rfl
  ·cases h
theorem A1y {x:Option Operand} {r:Option R0} (h:r0o x=some r):aevo a x=rgo a r:=by
 cases x with
 | none=>simp only [r0o,qS] at h; subst h; rfl
 | some x =>
  simp only [r0o,Option.map_eq_some_iff] at h
  obtain ⟨r',h1,rfl⟩:=h
  simp only [aevo,rgo,Ja (a:=a) h1]
end
theorem Wn {xs ys:List AV}:∀ {l m:List (Nat×Nat)} {b:Bool},lvEq (l++m) xs ys=some b→∃ p q,lvEq l xs ys=some p∧lvEq m xs ys=some q∧b=(p&&q)
 | [],m,b,h=>⟨true,b,rfl,h,by simp⟩
 | (o,k)::l,m,b,h=>by
  simp only [List.cons_append,lvEq] at h ⊢
  split at h
  ·rename_i x y hx hy
   split at h
   ·rename_i p q hp hq
    obtain ⟨p',q',h1,h2,rfl⟩:=Wn hq
    simp only [qS] at h
    subst h
    exact ⟨p&&p',q',by simp only [hp,h1],h2,by rw [Bool.and_assoc]⟩
   ·cases h
  ·cases h
def shift (off:Nat) (l:List (Nat×Nat)):List (Nat×Nat):=l.map fun p=>(off+p.1,p.2)
theorem A01 {xs ys:List AV} {off sz:Nat}:∀ {l:List (Nat×Nat)} {b:Bool},(l.all fun p=>Nat.blt p.1 sz)=true→lvEq (shift off l) xs ys=some b→lvEq l ((xs.drop off).take sz) ((ys.drop off).take sz)=some b
 | [],b,_,h=>h
 | (o,k)::l,b,hl,h=>by
  simp only [List.all_cons,Bool.and_eq_true] at hl
  simp only [shift,List.map_cons,lvEq] at h ⊢
  have ho:o<sz:=Nat.le_of_ble_eq_true hl.1
  have e:∀ zs:List AV,((zs.drop off).take sz)[o]?=zs[off+o]?:=by
   intro zs
   rw [List.getElem?_take,if_pos ho,List.getElem?_drop]
  rw [e,e]
  split at h
  ·rename_i x y hx hy
   split at h
   ·rename_i p q hp hq
    simp only [hp,A01 hl.2 hq]
    exact h
   ·cases h
  ·cases h
def shFs (P:Program) (sh:TypeId→Option (List (Nat×Nat))):List Field→Option (List (Nat×Nat))
 | []=>some []
 | f :: fs => if f.name ≠ "_" then (if undT P f.type && hasT P f.type then match P.underlying f.type, aggT P f.type, shFs P sh fs with
   | some .bool,false,some r=>some ((f.offset,0)::r)
   | some (.int _),false,some r=>some ((f.offset,1)::r)
   | some .string,false,some r=>some ((f.offset,2)::r)
   | some (.struct _),true,some r=>match sh f.type with
    | some l=>if l.all fun p=>Nat.blt p.1 (szT P f.type) then some (shift f.offset l++r) else none
    | none=>none
   | _,_,_=>none
  else none) else none
def shOf (P:Program):Nat→TypeId→Option (List (Nat×Nat))
 | 0,_=>none
 | d+1,t=>match P.underlying t with
  | some (.struct fs)=>if P.stoodInHeld t then none else shFs P (shOf P d) fs.toList
  | _=>none
theorem A1i {P:Program} {D:Nat} {sh:TypeId→Option (List (Nat×Nat))} (hs:∀ t s xs ys b,sh t=some s→lvEq s xs ys=some b→aeq P (D+1) t (.agg xs) (.agg ys)=some b) (xs ys:List AV) :
  ∀ (fs:List Field) (l:List (Nat×Nat)) (b:Bool),shFs P sh fs=some l→lvEq l xs ys=some b→aeqFs P (aeq P (D+1)) xs ys fs=some b
 | [],l,b,h,hb=>by
  simp only [shFs,qS] at h
  subst h
  simpa [lvEq,aeqFs] using hb
 | f::fs,l,b,h,hb=>by
  simp only [shFs] at h
  split at h
  case isFalse=>cases h
  rename_i hn
  split at h
  case isFalse=>cases h
  rename_i hu
  simp only [aeqFs,hn,ne_eq,not_false_eq_true,if_true]
  have leaf:∀ (k:Nat) (r:List (Nat×Nat)),aggT P f.type=false→(∀ x y p,leafEq k x y=some p→aeq P (D+1) f.type x y=some p)→shFs P sh fs=some r→lvEq ((f.offset,k)::r) xs ys=some b →
    (match apart P f.type xs f.offset,apart P f.type ys f.offset with | some x,some y=>(match aeq P (D+1) f.type x y,aeqFs P (aeq P (D+1)) xs ys fs with | some a,some b=>some (a&&b) | _,_=>none) | _,_=>none)=some b:=by
   intro k r ha hk hr hb
   simp only [lvEq] at hb
   split at hb
   ·rename_i x y hx hy
    split at hb
    ·rename_i p q hp hq
     have e:∀ cs:List AV,apart P f.type cs f.offset=cs[f.offset]?:=by
      intro cs; simp only [apart,hu,if_true,ha,Bool.false_eq_true,if_false]
     simp only [e,hx,hy,hk _ _ _ hp,A1i hs xs ys fs r q hr hq]
     exact hb
    ·cases hb
   ·cases hb
  split at h
  ·rename_i r hT ha hr
   simp only [qS] at h
   subst h
   refine leaf 0 r ha ?_ hr hb
   intro x y p hp
   unfold leafEq at hp
   unfold aeq
   split at hp <;> simp_all
  ·rename_i k r hT ha hr
   simp only [qS] at h
   subst h
   refine leaf 1 r ha ?_ hr hb
   intro x y p hp
   unfold leafEq at hp
   unfold aeq
   split at hp <;> simp_all
  ·rename_i r hT ha hr
   simp only [qS] at h
   subst h
   refine leaf 2 r ha ?_ hr hb
   intro x y p hp
   unfold leafEq at hp
   unfold aeq
   split at hp <;> simp_all
  ·rename_i gs r hT ha hr
   split at h
   ·rename_i l' hl
    split at h
    ·rename_i hall
     simp only [qS] at h
     subst h
     obtain ⟨p,q,h1,h2,rfl⟩:=Wn hb
     have e:∀ cs:List AV,apart P f.type cs f.offset=some (.agg ((cs.drop f.offset).take (szT P f.type))):=by
      intro cs; simp only [apart,hu,if_true,ha]
     simp only [e,hs _ _ _ _ _ hl (A01 hall h1),A1i hs xs ys fs r q hr h2]
    ·cases h
   ·cases h
  ·cases h
theorem A9e {P:Program} (d:Nat):∀ (D:Nat) (t:TypeId) (s:List (Nat×Nat)) (xs ys:List AV) (b:Bool),d≤D→shOf P d t=some s→lvEq s xs ys=some b→aeq P (D+1) t (.agg xs) (.agg ys)=some b:=by
 induction d with
 | zero=>intro D t s xs ys b _ h; simp [shOf] at h
 | succ d ih =>
  intro D t s xs ys b hd h hb
  obtain ⟨D,rfl⟩:∃ m,D=m+1:=⟨D - 1,by omega⟩
  simp only [shOf] at h
  split at h
  ·rename_i fs hT
   split at h
   ·cases h
   ·rename_i hst
    unfold aeq
    simp only [hT,hst,Bool.false_eq_true,if_false]
    exact A1i (fun t s xs ys b h1 h2=>ih D t s xs ys b (by omega) h1 h2) _ _ _ _ _ h hb
  ·cases h
def o1 (x:Operand) (f:R0→ROp):Option ROp:=(r0 x).map f
def o2 (x y:Operand) (f:R0→R0→ROp):Option ROp:=match r0 x,r0 y with | some x,some y=>some (f x y) | _,_=>none
def resBin (P:Program) (op:BinOp) (T:TypeId) (x y:Operand):Option ROp :=
 match P.underlying T with
 | some .bool=>if op=.eql then o2 x y (.eqb false) else if op=.neq then o2 x y (.eqb true) else none
 | some (.struct _)=>if P.eqGuardType P.depth T then none else match shOf P 8 T with
  | some sh=>if op=.eql then o2 x y (.equ false sh) else if op=.neq then o2 x y (.equ true sh) else none
  | none=>none
 | some (.int _)=>o2 x y (.bin op)
 | some .string=>o2 x y (.bin op)
 | _=>none
def resIsn (P:Program) (op:BinOp) (T:TypeId) (x y:Operand):Option ROp :=
 match P.underlying T,y,op with
 | some (.slice _),.const (.slice none 0 0),.eql=>o1 x (.isn false)
 | some (.slice _),.const (.slice none 0 0),.neq=>o1 x (.isn true)
 | _,_,_=>none
def resConv (P:Program) (s d:TypeId) (x:Operand):Option ROp :=
 match P.underlying s,P.underlying d with
 | some (.slice e),some .string=>match P.underlying e with
  | some (.int .u8)=>o1 x .cvb
  | _=>none
 | some _,some (.int k)=>o1 x (.cvi k)
 | some _,some .string=>o1 x .cvs
 | _,_=>none
def resFld (P:Program) (T:TypeId) (x:Operand) (f:Nat):Option ROp :=
 match fldT P T with
 | some fs=>match fs[f]? with
  | some (o,t)=>if undT P t&&hasT P t then o1 x (.fld o (szT P t) (aggT P t)) else none
  | none=>none
 | none=>none
def resBld (P:Program) (T:TypeId) (parts:List (Nat×Operand)):Option ROp :=
 match fldT P T,zeroT P T with
 | some fs,some z=>if fs.all fun f=>hasT P f.2 then (r0p parts).map (.bld z (fs.map fun f=>(f.1,szT P f.2))) else none
 | _,_=>none
def resSlice (P:Program) (T:TypeId) (x:Operand) (lo hi mx:Option Operand):Option ROp :=
 match mx with
 | none=>match P.underlying T with
  | some .string=>match r0 x,r0o lo,r0o hi with | some x,some lo,some hi=>some (.sls x lo hi) | _,_,_=>none
  | some (.slice e)=>if hasT P e&&Nat.blt 0 (szT P e) then (match r0 x,r0o lo,r0o hi with | some x,some lo,some hi=>some (.sle (szT P e) x lo hi) | _,_,_=>none) else none
  | _=>none
 | some (.const (.int _ 0))=>match lo,hi,P.underlying T with
  | none,some (.const (.int _ 0)),some (.slice e)=>if hasT P e then o1 x .slz else none
  | _,_,_=>none
 | _=>none
def resFa (P:Program) (s:TypeId) (x:Operand) (f:Nat):Option ROp :=
 match fldT P s with
 | some fs=>match fs[f]? with
  | some (o,t)=>if Nat.blt 0 (szT P t) then o1 x (.fa o) else none
  | none=>none
 | none=>none
def resIa (P:Program) (T:TypeId) (x i:Operand):Option ROp :=
 match P.underlying T with
 | some (.slice e)=>if hasT P e then o2 x i (.ia (szT P e)) else none
 | _=>none
def resLen (P:Program) (T:TypeId) (x:Operand):Option ROp :=
 match P.underlying T with
 | some .string=>o1 x .lens
 | some (.slice _)=>o1 x .lenl
 | _=>none
def resApp (P:Program) (T:TypeId) (s x:Operand):Option ROp :=
 match elT P T with
 | some e=>match zeroT P e with
  | some z=>if hasT P e&&Nat.beq z.length (szT P e)&&Nat.blt 0 (szT P e) then o2 s x (.app (szT P e) (byT P e)) else none
  | none=>none
 | none=>none
def resBs (P:Program) (T:TypeId) (len:Nat) (parts:List (Nat×Operand)):Option ROp :=
 if len=0∧parts=[] then (match elT P T with
 | some e=>match zeroT P e with
  | some z=>if hasT P e&&Nat.beq z.length (szT P e)&&Nat.blt 0 (szT P e) then some (.mv (.c .nils)) else none
  | none=>none
 | none=>none) else
 match elT P T with
 | some e=>match zeroT P e with
  | some z=>if hasT P e&&Nat.beq z.length (szT P e)&&Nat.ble (len*szT P e) 16777216&&Nat.blt 0 (szT P e) then (r0p parts).map (.bs (szT P e) z len) else none
  | none=>none
 | none=>none
def resMs (P:Program) (T:TypeId) (l c:Operand):Option ROp :=
 match elT P T with
 | some e=>match zeroT P e with
  | some z=>if Nat.beq z.length (szT P e)&&Nat.blt 0 (szT P e) then o2 l c (.ms (szT P e) z (byT P e)) else none
  | none=>none
 | none=>none
def resOp (P:Program) (o:Oper):Option ROp :=
 match o.op with
 | .move x=>o1 x .mv
 | .assign x=>o1 x .mv
 | .pick c x y=>match r0 c,r0 x,r0 y with | some c,some x,some y=>some (.pick c x y) | _,_,_=>none
 | .binOp op T x y _=>match resIsn P op T x y with | some r=>some r | none=>resBin P op T x y
 | .unOp op _ x=>o1 x (.un op)
 | .convert s d x=>resConv P s d x
 | .makeFunc (.func f) first captured=>if first.size=0 then (r0s captured.toList).map (.mkf f) else none
 | .field T x f=>resFld P T x f
 | .index T x i=>match P.underlying T with | some .string=>o2 x i .idx | _=>none
 | .extract x i=>o1 x fun x=>.ext x i
 | .build T parts=>resBld P T parts.toList
 | .slice T x lo hi mx=>resSlice P T x lo hi mx
 | .fieldAddr s x f=>resFa P s x f
 | .indexAddr T x i=>resIa P T x i
 | .load t x=>if undT P t&&hasT P t then o1 x (.ld (aggT P t) (szT P t)) else none
 | .nilCheck x=>o1 x .nc
 | .alloc T=>(zeroT P T).map .al
 | .box _ x=>o1 x .bx
 | .buildSlice T len parts=>resBs P T len parts.toList
 | .makeSlice T l c=>resMs P T l c
 | .store T x y=>if hasT P T then o2 x y (.st (szT P T)) else none
 | .call { callee:=.builtin .min,args,argTypes:=_ }=>match args.toList with | [x,y]=>o2 x y .mn | _=>none
 | .call { callee:=.builtin .max,args,argTypes:=_ }=>match args.toList with | [x,y]=>o2 x y .mx | _=>none
 | .call { callee:=.builtin .len,args,argTypes }=>match args.toList,argTypes.toList with | [x],[t]=>resLen P t x | _,_=>none
 | .call { callee:=.builtin .append,args,argTypes }=>match args.toList,argTypes.toList with | [s,x],[t,t']=>if t=t' then resApp P t s x else none | _,_=>none
 | .call { callee:=.value f,args,argTypes:=_ }=>match r0 f,r0s args.toList with | some f,some rs=>some (.cl f rs) | _,_=>none
 | _=>none
end Go.Proofs.YtldndhdohlfpgaaGreat.V
/- Each operation whose types are told by numbers comes to what the abstract machine says. -/
namespace Go.Proofs.YtldndhdohlfpgaaGreat.V
open Go Go.RowKit
section
variable {P:Program} {a:Asg} {H H':AH} {nw:Nat} {v:AV}
theorem E1 {x:Operand} {f:R0→ROp} {r:ROp} (h:o1 x f=some r):∃ x',r=f x'∧∀ a,aev a x=rg a x':=by
 simp only [o1,Option.map_eq_some_iff] at h
 obtain ⟨x',h1,rfl⟩:=h
 exact ⟨x',rfl,fun a=>Ja h1⟩
theorem E7 {x y:Operand} {f:R0→R0→ROp} {r:ROp} (h:o2 x y f=some r):∃ x' y',r=f x' y'∧∀ a,aev a x=rg a x'∧aev a y=rg a y':=by
 simp only [o2] at h
 split at h
 ·rename_i x' y' h1 h2
  simp only [qS] at h
  exact ⟨x',y',h.symm,fun a=>⟨Ja h1,Ja h2⟩⟩
 ·cases h
theorem R4 {α:Type} {h:Option α} {x:α} (e:ral h H=some (x,H')):h=some x∧H'=H:=by
 simp only [ral,Option.map_eq_some_iff,Prod.mk.injEq] at e
 obtain ⟨y,h1,rfl,rfl⟩:=e
 exact ⟨h1,rfl⟩
theorem A62 {op:BinOp} {T:TypeId} {x y:Operand} {r:ROp} (h:resBin P op T x y=some r) (hx:rx nw r a H=some (v,H')):(match aev a x,aev a y with | some x,some y=>abin P op T x y | _,_=>none)=some v∧H'=H:=by
 unfold resBin at h
 split at h
 ·rename_i hT
  have eqb:∀ ne:Bool,op=(if ne then .neq else .eql)→o2 x y (.eqb ne)=some r→(match aev a x,aev a y with | some x,some y=>abin P op T x y | _,_=>none)=some v∧H'=H:=by
   intro ne ho h
   obtain ⟨x',y',rfl,he⟩:=E7 h
   simp only [rx] at hx
   split at hx
   ·rename_i p q hp hq
    simp only [qS,Prod.mk.injEq] at hx
    obtain ⟨rfl,rfl⟩:=hx
    simp only [(he a).1,(he a).2,hp,hq,abin]
    have e:aeq P 10000 T (.bool p) (.bool q)=some (p==q):=by unfold aeq; simp [hT]
    cases ne <;> simp at ho <;> subst ho <;> simp [e]
   ·cases hx
  split at h
  ·rename_i ho; exact eqb false (by simp [ho]) h
  ·split at h
   ·rename_i ho; exact eqb true (by simp [ho]) h
   ·cases h
 ·split at h
  ·cases h
  ·rename_i hg
   split at h
   ·rename_i sh hsh
    have eqa:∀ ne:Bool,op=(if ne then .neq else .eql)→o2 x y (.equ ne sh)=some r→(match aev a x,aev a y with | some x,some y=>abin P op T x y | _,_=>none)=some v∧H'=H:=by
     intro ne ho h
     obtain ⟨x',y',rfl,he⟩:=E7 h
     simp only [rx] at hx
     split at hx
     ·rename_i p q hp hq
      obtain ⟨h1,rfl⟩:=R4 hx
      simp only [Option.map_eq_some_iff] at h1
      obtain ⟨b,hb,rfl⟩:=h1
      simp only [(he a).1,(he a).2,hp,hq,abin]
      have e:aeq P 10000 T (.agg p) (.agg q)=some b:=A9e 8 9999 T sh p q b (by omega) hsh hb
      cases ne <;> simp at ho <;> subst ho <;> simp [e,hg]
     ·cases hx
    split at h
    ·rename_i ho; exact eqa false (by simp [ho]) h
    ·split at h
     ·rename_i ho; exact eqa true (by simp [ho]) h
     ·cases h
   ·cases h
 all_goals first
  | (cases h; done)
  | skip
 all_goals
  obtain ⟨x',y',rfl,he⟩:=E7 h
  simp only [rx] at hx
  split at hx
  ·rename_i p q hp hq
   obtain ⟨h1,rfl⟩:=R4 hx
   simp only [(he a).1,(he a).2,hp,hq]
   unfold rbin at h1
   split at h1
   ·exact ⟨h1,trivial⟩
   ·exact ⟨h1,trivial⟩
   ·cases h1
  ·cases hx
theorem Dw {s d:TypeId} {x:Operand} {o:Oper} (ho:o.op=.convert s d x) (hf:(aev a x).bind (aconv P s d)=some v):aval P H a o=some v:=by
 unfold aval
 simp only [ho,afree,hf]
theorem A4w {s d:TypeId} {x:Operand} {r:ROp} {o:Oper} (ho:o.op=.convert s d x) (h:resConv P s d x=some r) (hx:rx nw r a H=some (v,H')):aval P H a o=some v∧H'=H:=by
 unfold resConv at h
 split at h
 ·rename_i e hs hd
  split at h
  ·rename_i he'
   obtain ⟨x',rfl,he⟩:=E1 h
   simp only [rx] at hx
   split at hx
   ·rename_i u hu
    obtain ⟨h1,rfl⟩:=R4 hx
    refine ⟨?_,rfl⟩
    unfold rcvb at h1
    split at h1
    ·refine Dw ho ?_
     simp only [he a,hu,Option.bind_some,aconv,hs,hd,he']
     exact h1
    ·refine Dw ho ?_
     simp only [he a,hu,Option.bind_some,aconv,hs,hd,he']
     exact h1
    ·rename_i b off n
     unfold aval
     simp only [ho,afree,he a,hu,Option.bind_some,aconv,hs,hd,aread,he']
     split at h1
     ·rename_i k hk
      simp only [hk]
      exact h1
     ·cases h1
    ·cases h1
   ·cases hx
  ·cases h
 ·rename_i val k hs hd
  obtain ⟨x',rfl,he⟩:=E1 h
  simp only [rx] at hx
  split at hx
  ·rename_i k' n hu
   simp only [qS,Prod.mk.injEq] at hx
   obtain ⟨rfl,rfl⟩:=hx
   exact ⟨Dw ho (by simp only [he a,hu,Option.bind_some,aconv,hs,hd]),rfl⟩
  ·cases hx
 ·rename_i val hne hs hd
  obtain ⟨x',rfl,he⟩:=E1 h
  simp only [rx] at hx
  split at hx
  ·rename_i s' hu
   simp only [qS,Prod.mk.injEq] at hx
   obtain ⟨rfl,rfl⟩:=hx
   exact ⟨Dw ho (by simp only [he a,hu,Option.bind_some,aconv,hs,hd]),rfl⟩
  ·cases hx
 ·cases h
set_option maxHeartbeats 1000000 in
theorem A4h {o:Oper} {r:ROp} (h:resOp P o=some r) (hx:rx nw r a H=some (v,H'))
  (hk:match o.op with | .alloc _ | .box _ _ | .buildSlice _ _ _ | .makeSlice _ _ _ | .store _ _ _ | .call { callee:=.builtin .append,.. } | .call { callee:=.value _,.. }=>False | _=>True):aval P H a o=some v∧H'=H:=by
 unfold resOp at h
 split at h
 case h_4 x y op T z hop =>
  split at h
  ·rename_i r' hr'
   cases h
   unfold resIsn at hr'
   split at hr'
   ·obtain ⟨_,rfl,_⟩:=E1 hr'; simp [rx] at hx
   ·obtain ⟨_,rfl,_⟩:=E1 hr'; simp [rx] at hx
   ·cases hr'
  have:=A62 h hx
  unfold aval
  simp only [hop,afree]
  exact this
 case h_6 s d x hop=>exact A4w hop h hx
 case h_17 hop=>simp [hop] at hk
 case h_18 hop=>simp [hop] at hk
 case h_19 hop=>simp [hop] at hk
 case h_20 hop=>simp [hop] at hk
 case h_21 hop=>simp [hop] at hk
 case h_25 hop=>simp [hop] at hk
 case h_26 hop=>simp [hop] at hk
 case h_27=>cases h
 case h_1 x hop =>
  obtain ⟨x',rfl,he⟩:=E1 h
  obtain ⟨h1,rfl⟩:=R4 hx
  unfold aval; simp only [hop,afree,he a,h1,and_self]
 case h_2 x hop =>
  obtain ⟨x',rfl,he⟩:=E1 h
  obtain ⟨h1,rfl⟩:=R4 hx
  unfold aval; simp only [hop,afree,he a,h1,and_self]
 case h_3 c x y hop =>
  split at h
  ·rename_i c' x' y' h1 h2 h3
   cases h
   simp only [rx] at hx
   unfold aval
   simp only [hop,afree,Ja (a:=a) h1,Ja (a:=a) h2,Ja (a:=a) h3]
   split at hx
   ·rename_i hc; obtain ⟨h1,rfl⟩:=R4 hx; simp only [hc,h1,and_self]
   ·rename_i hc; obtain ⟨h1,rfl⟩:=R4 hx; simp only [hc,h1,and_self]
   ·cases hx
  ·cases h
 case h_5 op T x hop =>
  obtain ⟨x',rfl,he⟩:=E1 h
  simp only [rx] at hx
  split at hx
  ·rename_i u hu
   obtain ⟨h1,rfl⟩:=R4 hx
   unfold aval; simp only [hop,afree,he a,hu,Option.bind_some,h1,and_self]
  ·cases hx
 case h_7 f first captured hop =>
  split at h
  ·rename_i h0
   simp only [Option.map_eq_some_iff] at h
   obtain ⟨rs,hrs,rfl⟩:=h
   simp only [rx] at hx
   split at hx
   ·rename_i vs hvs
    cases hx
    unfold aval; simp only [hop,afree,h0,if_true,A40 hrs,hvs,Option.map_some,and_self]
   ·cases hx
  ·cases h
 case h_8 T x f hop =>
  unfold resFld at h
  split at h
  ·rename_i fs hfs
   split at h
   ·rename_i off t hf
    split at h
    ·rename_i hu
     obtain ⟨x',rfl,he⟩:=E1 h
     simp only [rx] at hx
     split at hx
     ·rename_i cs hcs
      split at hx
      ·rename_i hl
       obtain ⟨h1,rfl⟩:=R4 hx
       unfold aval; simp only [hop,afree,he a,hcs,Option.bind_some,afield,hfs,hf,hl,if_true,apart,hu]
       unfold rpart at h1
       exact ⟨h1,trivial⟩
      ·cases hx
     ·cases hx
    ·cases h
   ·cases h
  ·cases h
 case h_9 T x i hop =>
  split at h
  ·rename_i hT
   obtain ⟨x',i',rfl,he⟩:=E7 h
   simp only [rx] at hx
   split at hx
   ·rename_i u j hu hj
    obtain ⟨h1,rfl⟩:=R4 hx
    unfold aval; simp only [hop,afree,(he a).1,(he a).2,hu,hj,aix,hT]
    unfold ridx at h1
    split at h1
    ·exact ⟨h1,trivial⟩
    ·cases h1
   ·cases hx
  ·cases h
 case h_10 x i hop =>
  obtain ⟨x',rfl,he⟩:=E1 h
  simp only [rx] at hx
  split at hx
  ·rename_i vs hvs
   obtain ⟨h1,rfl⟩:=R4 hx
   unfold aval; simp only [hop,afree,he a,hvs,h1,and_self]
  ·cases hx
 case h_11 T parts hop =>
  unfold resBld at h
  split at h
  ·rename_i fs z hfs hz
   split at h
   ·rename_i hall
    simp only [Option.map_eq_some_iff] at h
    obtain ⟨ps,hps,rfl⟩:=h
    simp only [rx] at hx
    split at hx
    ·rename_i us hus
     obtain ⟨h1,rfl⟩:=R4 hx
     unfold aval; simp only [hop,afree,A43 hps,hus,Option.bind_some,abuild,hfs,hz,hall,if_true]
     simp only [List.getElem?_map] at h1
     exact ⟨h1,trivial⟩
    ·cases hx
   ·cases h
  ·cases h
 case h_12 T x lo hi mx hop =>
  unfold resSlice at h
  unfold aval
  simp only [hop,aread]
  split at h
  ·split at h
   ·rename_i hT
    split at h
    ·rename_i x' lo' hi' h1 h2 h3
     cases h
     simp only [rx] at hx
     simp only [Ja (a:=a) h1,A1y (a:=a) h2,A1y (a:=a) h3]
     split at hx
     ·rename_i s l' h' e1 e2 e3
      obtain ⟨h1,rfl⟩:=R4 hx
      simp only [e1,e2,e3,aevo,aslice,hT]
      exact ⟨h1,trivial⟩
     ·cases hx
    ·cases h
   ·rename_i e hT
    split at h
    ·rename_i hc
     simp only [Bool.and_eq_true] at hc
     have h0:0<szT P e:=Nat.le_of_ble_eq_true hc.2
     split at h
     ·rename_i x' lo' hi' h1 h2 h3
      cases h
      simp only [rx] at hx
      simp only [Ja (a:=a) h1,A1y (a:=a) h2,A1y (a:=a) h3]
      split at hx
      ·rename_i u l' h' e1 e2 e3
       obtain ⟨h1,rfl⟩:=R4 hx
       simp only [e1,e2,e3,aevo,aslice,hT]
       unfold rsle at h1
       split at h1
       ·split at h1
        ·rename_i hes
         subst hes
         simp only [hc.1]
         exact ⟨h1,trivial⟩
        ·cases h1
       ·split at h1
        ·rename_i hl
         simp only [hl,hc.1,h0,decide_true,Bool.and_self,if_true]
         exact ⟨h1,trivial⟩
        ·cases h1
       ·simp only [hc.1,if_true]
        exact ⟨h1,trivial⟩
       ·cases h1
      ·cases hx
     ·cases h
    ·cases h
   ·cases h
  ·split at h
   ·rename_i e hT
    split at h
    ·rename_i hh
     obtain ⟨x',rfl,he⟩:=E1 h
     simp only [rx] at hx
     have c0:∀ k,aevo a (some (.const (.int k 0)))=some (some (.int k 0)):=fun _=>rfl
     have n0:aevo a none=some none:=rfl
     simp only [he a,c0,n0]
     split at hx
     ·rename_i e1; cases hx; simp [e1,aslice,hT,hh]
     ·rename_i e1
      split at hx
      ·rename_i hl; cases hx; simp [e1,aslice,hT,hh,hl]
      ·cases hx
     ·rename_i e1; cases hx; simp [e1,aslice,hT,hh]
     ·cases hx
    ·cases h
   ·cases h
  ·cases h
 case h_13 s x f hop =>
  unfold resFa at h
  split at h
  ·rename_i fs hfs
   split at h
   ·rename_i off t hf
    split at h
    ·rename_i hu
     have h0:szT P t≠0:=by have:=Nat.le_of_ble_eq_true hu; omega
     obtain ⟨x',rfl,he⟩:=E1 h
     simp only [rx] at hx
     unfold aval; simp only [hop,aread,he a]
     split at hx
     ·rename_i b o' e1
      split at hx
      ·rename_i hl; cases hx; simp [e1,afld,hfs,hf,h0,hl]
      ·cases hx
     ·rename_i cells o' e1; cases hx; simp [e1,afld,hfs,hf,h0]
     ·cases hx
    ·cases h
   ·cases h
  ·cases h
 case h_14 T x i hop =>
  unfold resIa at h
  split at h
  ·rename_i e hT
   split at h
   ·rename_i hh
    obtain ⟨x',i',rfl,he⟩:=E7 h
    simp only [rx] at hx
    split at hx
    ·rename_i u j hu hj
     obtain ⟨h1,rfl⟩:=R4 hx
     unfold aval; simp only [hop,aread,(he a).1,(he a).2,hu,hj,aidx,hT]
     unfold ria at h1
     split at h1
     ·split at h1
      ·rename_i hc; simp only [hc,hh,and_self,if_true]; exact ⟨h1,trivial⟩
      ·cases h1
     ·split at h1
      ·rename_i hc; simp only [hc,hh,and_self,if_true]; exact ⟨h1,trivial⟩
      ·cases h1
     ·split at h1
      ·rename_i hc; simp only [hc,hh,and_self,if_true]; exact ⟨h1,trivial⟩
      ·cases h1
     ·cases h1
    ·cases hx
   ·cases h
  ·cases h
 case h_15 t x hop =>
  split at h
  ·rename_i hu
   obtain ⟨x',rfl,he⟩:=E1 h
   simp only [rx] at hx
   unfold aval; simp only [hop,aread,he a]
   split at hx
   ·rename_i cells off e1
    obtain ⟨h1,rfl⟩:=R4 hx
    simp only [e1,aloadEl,hu,if_true]
    unfold rload at h1
    exact ⟨h1,trivial⟩
   ·rename_i b off e1
    split at hx
    ·rename_i k hk
     obtain ⟨h1,rfl⟩:=R4 hx
     simp only [e1,hk,aloadEl,hu,if_true]
     unfold rload at h1
     exact ⟨h1,trivial⟩
    ·cases hx
   ·cases hx
  ·cases h
 case h_16 x hop =>
  obtain ⟨x',rfl,he⟩:=E1 h
  simp only [rx] at hx
  unfold aval; simp only [hop,aread,he a]
  split at hx
  ·rename_i b off e1
   split at hx
   ·rename_i hl; cases hx; simp [e1,hl]
   ·cases hx
  ·rename_i cells off e1; cases hx; simp [e1]
  ·cases hx
 case h_22 args tys hop =>
  split at h
  ·rename_i x y hxs
   obtain ⟨x',y',rfl,he⟩:=E7 h
   simp only [rx] at hx
   split at hx
   ·rename_i k m k' n e1 e2
    cases hx
    unfold aval; simp only [hop,afree,hxs,(he a).1,(he a).2,e1,e2,and_self]
   ·cases hx
  ·cases h
 case h_23 args tys hop =>
  split at h
  ·rename_i x y hxs
   obtain ⟨x',y',rfl,he⟩:=E7 h
   simp only [rx] at hx
   split at hx
   ·rename_i k m k' n e1 e2
    cases hx
    unfold aval; simp only [hop,afree,hxs,(he a).1,(he a).2,e1,e2,and_self]
   ·cases hx
  ·cases h
 case h_24 args tys hop =>
  split at h
  ·rename_i x t hxs hts
   unfold aval; simp only [hop,aread,hxs,hts]
   unfold resLen at h
   split at h
   ·rename_i hT
    obtain ⟨x',rfl,he⟩:=E1 h
    simp only [rx] at hx
    split at hx
    ·rename_i s e1; cases hx; simp [he a,e1,alen,hT]
    ·cases hx
   ·rename_i e hT
    obtain ⟨x',rfl,he⟩:=E1 h
    simp only [rx] at hx
    split at hx
    ·rename_i b off n e1
     split at hx
     ·rename_i hl; cases hx; simp [he a,e1,alen,hT,hl]
     ·cases hx
    ·rename_i e1; cases hx; simp [he a,e1,alen,hT]
    ·rename_i e1; cases hx; simp [he a,e1,alen,hT]
    ·rename_i e1; cases hx; simp [he a,e1,alen,hT]
    ·cases hx
   ·cases h
  ·cases h
set_option maxHeartbeats 1000000 in
theorem A6n {o:Oper} {r:ROp} {K:AV→AH→Prop} (h:resOp P o=some r) (hx:rx nw r a H=some (v,H')) (hK:K v H'):awpExec0 P nw o a H K:=by
 have key:(match o.op with | .alloc _ | .box _ _ | .buildSlice _ _ _ | .makeSlice _ _ _ | .store _ _ _ | .call { callee:=.builtin .append,.. } | .call { callee:=.value _,.. }=>False | _=>True)→aval P H a o=some v∧H'=H:=fun hk=>A4h h hx hk
 unfold awpExec0
 split
 case h_1 T hop =>
  unfold resOp at h
  simp only [hop,Option.map_eq_some_iff] at h
  obtain ⟨z,hz,rfl⟩:=h
  simp only [rx,qS,Prod.mk.injEq] at hx
  obtain ⟨rfl,rfl⟩:=hx
  simp only [amk,hop,hz,Option.map_some]
  exact hK
 case h_2 T x hop =>
  unfold resOp at h
  simp only [hop] at h
  obtain ⟨x',rfl,he⟩:=E1 h
  simp only [rx] at hx
  simp only [amk,hop,he a]
  split at hx
  ·rename_i u hu
   simp only [hu]
   split at hx
   ·rename_i hc; cases hx; rw [if_pos hc]; exact hK
   ·cases hx
  ·cases hx
 case h_3 T len parts hop =>
  unfold resOp at h
  simp only [hop] at h
  unfold resBs at h
  simp only [amk,hop]
  split at h
  ·rename_i hz0
   rw [if_pos hz0]
   split at h
   ·rename_i e he
    split at h
    ·rename_i z hz
     split at h
     ·rename_i hc
      simp only [Bool.and_eq_true] at hc
      obtain ⟨⟨c1,c2⟩,c4⟩:=hc
      cases h
      simp only [rx,rg,ral,Option.map_some,qS,Prod.mk.injEq] at hx
      obtain ⟨rfl,rfl⟩:=hx
      simp only [he,hz]
      rw [if_pos ⟨c1,Nat.eq_of_beq_eq_true c2,Nat.le_of_ble_eq_true c4⟩]
      exact hK
     ·cases h
    ·cases h
   ·cases h
  rename_i hz0
  rw [if_neg hz0]
  split at h
  ·rename_i e he
   split at h
   ·rename_i z hz
    split at h
    ·rename_i hc
     simp only [Bool.and_eq_true] at hc
     obtain ⟨⟨⟨c1,c2⟩,c3⟩,c4⟩:=hc
     simp only [Option.map_eq_some_iff] at h
     obtain ⟨ps,hps,rfl⟩:=h
     simp only [rx] at hx
     split at hx
     ·rename_i us hus
      simp only [he,A43 hps,hus,hz]
      rw [if_pos ⟨c1,Nat.eq_of_beq_eq_true c2,Nat.le_of_ble_eq_true c3,Nat.le_of_ble_eq_true c4⟩]
      rw [hx]
      exact hK
     ·cases hx
    ·cases h
   ·cases h
  ·cases h
 case h_4 T l c hop =>
  unfold resOp at h
  simp only [hop] at h
  unfold resMs at h
  simp only [amk,hop]
  split at h
  ·rename_i e he
   split at h
   ·rename_i z hz
    split at h
    ·rename_i hc
     simp only [Bool.and_eq_true] at hc
     obtain ⟨c2,c4⟩:=hc
     obtain ⟨l',c',rfl,hlc⟩:=E7 h
     simp only [rx] at hx
     split at hx
     ·rename_i lv cv' hl hc'
      simp only [he,(hlc a).1,(hlc a).2,hl,hc']
      unfold rms at hx
      split at hx
      ·rename_i k n k' m
       split at hx
       ·rename_i hcc
        cases hx
        simp only [hz]
        rw [if_pos ⟨hcc.1,hcc.2.1,hcc.2.2.1,hcc.2.2.2,Nat.eq_of_beq_eq_true c2,Nat.le_of_ble_eq_true c4⟩]
        exact hK
       ·cases hx
      ·cases hx
     ·cases hx
    ·cases h
   ·cases h
  ·cases h
 case h_5 T x y hop =>
  unfold resOp at h
  simp only [hop] at h
  split at h
  ·rename_i hT
   obtain ⟨x',y',rfl,he⟩:=E7 h
   simp only [rx] at hx
   split at hx
   ·rename_i p q hp hq
    simp only [(he a).1,(he a).2,hp,hq]
    simp only [Option.map_eq_some_iff,Prod.mk.injEq] at hx
    obtain ⟨H1,h1,rfl,rfl⟩:=hx
    unfold rst at h1
    unfold astore
    split at h1
    ·rename_i b off
     split at h1
     ·rename_i k hk
      simp only [hk]
      split at h1
      ·rename_i hc
       cases h1
       rw [if_pos ⟨hc.1,hc.2.1,hc.2.2.1,hT,hc.2.2.2⟩]
       exact hK
      ·cases h1
     ·cases h1
    ·cases h1
   ·cases hx
  ·cases h
 case h_6 args tys hop =>
  unfold resOp at h
  simp only [hop] at h
  split at h
  ·rename_i s x t t' hargs htys
   simp only [hargs,htys]
   split at h
   ·rename_i htt
    subst htt
    unfold resApp at h
    split at h
    ·rename_i e he
     split at h
     ·rename_i z hz
      split at h
      ·rename_i hc
       simp only [Bool.and_eq_true] at hc
       obtain ⟨⟨c1,c2⟩,c4⟩:=hc
       obtain ⟨s',x',rfl,hsx⟩:=E7 h
       simp only [rx] at hx
       split at hx
       ·rename_i sv xv hs hxv
        simp only [(hsx a).1,(hsx a).2,hs,hxv,if_true]
        unfold aappend
        simp only [he,hz]
        rw [if_pos ⟨c1,Nat.eq_of_beq_eq_true c2,Nat.le_of_ble_eq_true c4⟩]
        unfold rapp at hx
        split at hx
        ·rename_i n cells kill m xs hb hcn
         split at hx
         ·rename_i hcc
          cases hx
          simp only [hb,hcn]
          rw [if_pos hcc]
          exact hK
         ·cases hx
        ·cases hx
       ·cases hx
      ·cases h
     ·cases h
    ·cases h
   ·cases h
  ·cases h
 case h_7 f args tys hop =>
  unfold resOp at h
  simp only [hop] at h
  split at h
  ·cases h; simp only [rx] at hx; cases hx
  ·cases h
 case h_8 =>
  have:aval P H a o=some v∧H'=H:=by
   refine key ?_
   split <;> simp_all
  simp only [this.1]
  rw [← this.2]
  exact hK
end
end Go.Proofs.YtldndhdohlfpgaaGreat.V
/- Code whose types are told by numbers: what must hold ahead of it, and that the model's run keeps to it. -/
namespace Go.Proofs.YtldndhdohlfpgaaGreat.V
open Go Go.RowKit
def rgd (a:Asg):Option (Nat×Bool)→Option Bool
 | none=>some true
 | some (d,want)=>match get a d with | some (.bool b)=>some (b==want) | some (.tup [])=>some false | _=>none
def rexec0 (P:Program) (nw:Nat) (o:ROp) (a:Asg) (H:AH) (K:AV→AH→Prop):Prop :=
 match o with
 | .cl f args=>match rg a f,rgs a args with
  | some (.fn g cap),some vs=>A6 P nw g (vs++cap) H K
  | _,_=>False
 | o=>match rx nw o a H with | some (v,H')=>K v H' | none=>False
def rmv (nw:Nat) (o:ROp) (a:Asg) (H:AH):Option (AV×AH) :=
 match o with
 | .app es byt s x=>match rg a s,rg a x with
  | some .nils,some (.sl c 0 m)=>match H[c]? with
   | some (some k)=>if (nw≤c∧k.es=es∧k.cells.length=m*es)∧m≤1099511627776∧m*byt≤140737488355328 then some (.sl H.length 0 m,killed H (some c)++[some k]) else none
   | _=>none
  | _,_=>none
 | _=>none
def rexec (P:Program) (nw:Nat) (o:ROp) (a:Asg) (H:AH) (K:AV→AH→Prop):Prop :=
 rexec0 P nw o a H K∨(∃ v H' u,rexec0 P nw o a H (fun v1 H1=>v1=v∧H1=H')∧Lit H v H' u∧K u H)∨∃ v H',rmv nw o a H=some (v,H')∧K v H'
def rexec1 (P:Program) (nw:Nat) (o:ROp) (a:Asg) (H:AH) (K:AV→AH→Prop):Prop :=
 match o with
 | .isn neg x=>match rg a x with
  | some (.lst _ _ _ n)=>∀ b:Bool,(b=true→n=0)→K (.bool (b != neg)) H
  | some .nils=>∀ b:Bool,K (.bool (b != neg)) H
  | _=>False
 | o=>rexec P nw o a H K
def rl (P:Program) (nw:Nat):List RO→(Asg→AH→Prop)→Asg→AH→Prop
 | [],K,a,H=>K a H
 | o::l,K,a,H=>match rgd a o.g with
  | some true=>rexec1 P nw o.o a H fun v H'=>rl P nw l K (puta o.d v a) H'
  | some false=>rl P nw l K (puta o.d (.tup []) a) H
  | none=>False
structure RDn where
 j:Nat
 a:Asg
 o:ROp
 v:AV
def rstill (P:Program) (nw:Nat) (o:ROp) (a:Asg) (H:AH) (v:AV):Prop:=rexec P nw o a H fun v' H'=>v'=v∧H'=H
def rstA (P:Program) (nw:Nat) (o:ROp) (a:Asg) (v:AV) (hs:List (Nat×AH)):List Nat→Prop
 | []=>True
 | ps=>∀ x∈hs,x.1∈ps→rstill P nw o a x.2 v
def rstB (P:Program) (nw:Nat) (H:AH) (dn:List RDn):List Nat→Prop
 | []=>True
 | rc=>∀ x∈dn,x.j∈rc→rstill P nw x.o x.a H x.v
def A0 (P:Program) (nw n0:Nat) (K:Asg→AH→Prop):Nat→List RO→List Pl→List (Nat×AH)→List RDn→Asg→AH→Prop
 | i,o::rest,pl::pls,hs,dn,a,H=>match rgd a o.g,pl with
  | some true,.val ps=>rexec P nw o.o a H fun v H'=>H'=H∧rstA P nw o.o a v hs ps∧A0 P nw n0 K (i+1) rest pls hs (⟨i,a,o.o,v⟩::dn) (puta o.d v a) H
  | some false,.val _=>A0 P nw n0 K (i+1) rest pls hs dn (puta o.d (.tup []) a) H
  | some true,.chn rc=>rexec P nw o.o a H fun v H'=>rstB P nw H' dn rc∧A0 P nw n0 K (i+1) rest pls ((i,H)::hs) dn (puta o.d v a) H'
  | some true,.flt k=>(match o.o with
   | .al z=>H[n0+k]?=some (some ⟨z,0⟩)∧(∀ x∈hs,x.2[n0+k]?=some (some ⟨z,0⟩))∧A0 P nw n0 K (i+1) rest pls hs dn (puta o.d (.ptr (n0+k) 0) a) H
   | _=>False)
  | some false,.flt _=>False
  | some false,.chn rc=>rstB P nw H dn rc∧A0 P nw n0 K (i+1) rest pls ((i,H)::hs) dn (puta o.d (.tup []) a) H
  | none,_=>False
 | _,[],[],_,_,a,H=>K a H
 | _,_,_,_,_,_,_=>False
def dOk (N:Nat):Option Tmp→Bool
 | some d=>Nat.blt d N
 | none=>true
def resRO (P:Program) (N:Nat) (ops:Array Oper) (o:Oper):Option RO :=
 if dOk N o.dst then
  match resOp P o with
  | some r=>match o.guard with
   | none=>some ⟨o.dst,none,r⟩
   | some (j,want)=>match (ops[j]?).bind (·.dst) with
    | some d=>some ⟨o.dst,some (d,want),r⟩
    | none=>none
  | none=>none
 else none
def resL (P:Program) (N:Nat) (ops:Array Oper):List Oper→Option (List RO)
 | []=>some []
 | o::l=>match resRO P N ops o,resL P N ops l with | some r,some rs=>some (r::rs) | _,_=>none
def chnB (hint:List Nat) (i:Nat) (o:Oper):Bool :=
 match o.op with
 | .buildSlice _ len parts=>!(Nat.beq len 0&&parts.toList.isEmpty)
 | .alloc _ | .box _ _ | .makeSlice _ _ _ | .store _ _ _ | .call { callee:=.builtin .append,.. }=>true
 | .call { callee:=.value _,.. }=>hint.any (Nat.beq i)
 | _=>false
def floats:List Nat→List Nat
 | []=>[]
 | x::l=>if Nat.ble 1000000 x&&!(Nat.ble 2000000 x) then (x - 1000000)::floats l else floats l
def fltAt:List Nat→Nat→Nat→Nat
 | [],_,k=>k
 | x::l,i,k=>if Nat.beq x i then k else fltAt l i (k+1)
def mkPlan (ops:Array Oper) (hint:List Nat):List Pl :=
 let ms:=masks ops.toList []
 let fl:=floats hint
 let cs:=(List.range ops.size).map fun i=>match ops[i]? with | some o=>chnB hint i o&&!(fl.any (Nat.beq i))&&!(hint.any (Nat.beq (i+2000000))) | none=>false
 (List.range ops.size).map fun i =>
  if fl.any (Nat.beq i) then .flt (fltAt fl i 0)
  else if cs.getD i false then .chn ((List.range i).filter fun j=>!(cs.getD j false)&&!(fl.any (Nat.beq j))&&!(bfB ms j i))
  else .val ((List.range i).filter fun j=>cs.getD j false&&!(bfB ms j i))
def hintOf (hints:List (Nat×List Nat)) (id:Nat):List Nat:=match hints with
 | []=>[]
 | (i,l)::r=>if Nat.beq i id then l else hintOf r id
def resC (hints:List (Nat×List Nat)) (P:Program) (N:Nat):Code→Option RC
 | .skip=>some .skip
 | .region _ ops false=>(resL P N ops ops.toList).map .reg
 | .region id ops true=>if drawOk ops (mkPlan ops (hintOf hints id)) then (resL P N ops ops.toList).map fun l=>.drw l (mkPlan ops (hintOf hints id)) else none
 | .seq x y=>match resC hints P N x,resC hints P N y with | some x,some y=>some (.seq x y) | _,_=>none
 | .cond c x y=>match r0 c,resC hints P N x,resC hints P N y with | some c,some x,some y=>some (.cond c x y) | _,_,_=>none
 | .block id c=>(resC hints P N c).map (.blk id)
 | .loop c=>(resC hints P N c).map .loop
 | .exit id=>some (.exit id)
 | .ret=>some .ret
 | _=>none
section
variable {P:Program} {a:Asg} {H:AH} {nw N:Nat}
theorem Je {op:BinOp} {T:TypeId} {x y:Operand} {r:ROp} (h:resIsn P op T x y=some r):∃ e neg x',P.underlying T=some (.slice e)∧y=.const (.slice none 0 0)∧r=.isn neg x'∧r0 x=some x'∧((op=.eql∧neg=false)∨(op=.neq∧neg=true)):=by
 unfold resIsn at h
 split at h
 ·rename_i e hT
  unfold o1 at h
  simp only [Option.map_eq_some_iff] at h
  obtain ⟨x',h1,rfl⟩:=h
  exact ⟨e,false,x',hT,rfl,rfl,h1,.inl ⟨rfl,rfl⟩⟩
 ·rename_i e hT
  unfold o1 at h
  simp only [Option.map_eq_some_iff] at h
  obtain ⟨x',h1,rfl⟩:=h
  exact ⟨e,true,x',hT,rfl,rfl,h1,.inr ⟨rfl,rfl⟩⟩
 ·cases h
theorem A11 {o:Oper} {r:ROp} {K:AV→AH→Prop} (h:resOp P o=some r) (hx:rexec0 P nw r a H K):awpExec0 P nw o a H K:=by
 unfold rexec0 at hx
 split at hx
 ·rename_i f args
  split at hx
  ·rename_i g cap vs hf hvs
   have:∃ f' args' tys,o.op=.call { callee:=.value f',args:=args',argTypes:=tys }∧r0 f'=some f∧r0s args'.toList=some args:=by
    unfold resOp at h
    split at h
    case h_26 f' args' tys hop =>
     split at h
     ·rename_i p q h1 h2
      cases h
      exact ⟨f',args',tys,hop,h1,h2⟩
     ·cases h
    all_goals exfalso
    all_goals first
     | (obtain ⟨_,h1,_⟩:=E1 h; cases h1; done)
     | skip
    ·split at h <;> cases h
    ·split at h
     ·rename_i r' hr'
      cases h
      obtain ⟨_,_,_,_,_,h9,_⟩:=Je hr'
      cases h9
     unfold resBin at h
     repeat' (first | (cases h; done) | (obtain ⟨_,_,h1,_⟩:=E7 h; cases h1; done) | split at h)
    ·unfold resConv at h
     repeat' (first | (cases h; done) | (obtain ⟨_,h1,_⟩:=E1 h; cases h1; done) | split at h)
    ·split at h
     ·simp only [Option.map_eq_some_iff] at h; obtain ⟨_,_,h1⟩:=h; cases h1
     ·cases h
    ·unfold resFld at h
     repeat' (first | (cases h; done) | (obtain ⟨_,h1,_⟩:=E1 h; cases h1; done) | split at h)
    ·repeat' (first | (cases h; done) | (obtain ⟨_,_,h1,_⟩:=E7 h; cases h1; done) | split at h)
    ·unfold resBld at h
     repeat' (first | (cases h; done) | (simp only [Option.map_eq_some_iff] at h; obtain ⟨_,_,h1⟩:=h; cases h1; done) | split at h)
    ·unfold resSlice at h
     repeat' (first | (cases h; done) | (obtain ⟨_,h1,_⟩:=E1 h; cases h1; done) | split at h)
    ·unfold resFa at h
     repeat' (first | (cases h; done) | (obtain ⟨_,h1,_⟩:=E1 h; cases h1; done) | split at h)
    ·unfold resIa at h
     repeat' (first | (cases h; done) | (obtain ⟨_,_,h1,_⟩:=E7 h; cases h1; done) | split at h)
    ·repeat' (first | (cases h; done) | (obtain ⟨_,h1,_⟩:=E1 h; cases h1; done) | split at h)
    ·simp only [Option.map_eq_some_iff] at h; obtain ⟨_,_,h1⟩:=h; cases h1
    ·unfold resBs at h
     repeat' (first | (cases h; done) | (simp only [Option.map_eq_some_iff] at h; obtain ⟨_,_,h1⟩:=h; cases h1; done) | split at h)
    ·unfold resMs at h
     repeat' (first | (cases h; done) | (obtain ⟨_,_,h1,_⟩:=E7 h; cases h1; done) | split at h)
    ·repeat' (first | (cases h; done) | (obtain ⟨_,_,h1,_⟩:=E7 h; cases h1; done) | split at h)
    ·repeat' (first | (cases h; done) | (obtain ⟨_,_,h1,_⟩:=E7 h; cases h1; done) | split at h)
    ·repeat' (first | (cases h; done) | (obtain ⟨_,_,h1,_⟩:=E7 h; cases h1; done) | split at h)
    ·unfold resLen at h
     repeat' (first | (cases h; done) | (obtain ⟨_,h1,_⟩:=E1 h; cases h1; done) | split at h)
    ·unfold resApp at h
     repeat' (first | (cases h; done) | (obtain ⟨_,_,h1,_⟩:=E7 h; cases h1; done) | split at h)
    ·cases h
   obtain ⟨f',args',tys,hop,h1,h2⟩:=this
   unfold awpExec0
   simp only [hop,Ja (a:=a) h1,A40 h2,hf,hvs,CallT]
   exact hx
  ·exact hx.elim
 ·split at hx
  ·rename_i hr v H' hv
   exact A6n h hv hx
  ·exact hx.elim
theorem A6z {o:Oper} {es byt:Nat} {s' x':R0} (h:resOp P o=some (.app es byt s' x')):∃ args tys s x t,o.op=.call { callee:=.builtin .append,args:=args,argTypes:=tys }∧args.toList=[s,x]∧tys.toList=[t,t]∧resApp P t s x=some (.app es byt s' x'):=by
 unfold resOp at h
 split at h
 case h_4 op T x y pos hop =>
  exfalso
  split at h
  ·rename_i r' hr'
   cases h
   obtain ⟨e,n1,x1,hT,rfl,h9,h10,h11⟩:=Je hr'
   cases h9
  ·unfold resBin at h
   repeat' (first | (cases h; done) | (obtain ⟨_,_,h1,_⟩:=E7 h; cases h1; done) | split at h)
 case h_25 args tys hop =>
  split at h
  ·rename_i s x t t' hs ht
   split at h
   ·rename_i htt
    subst htt
    exact ⟨args,tys,s,x,t,hop,hs,ht,h⟩
   ·cases h
  ·cases h
 all_goals exfalso
 all_goals first
  | (obtain ⟨_,h1,_⟩:=E1 h; cases h1; done)
  | skip
 ·split at h <;> cases h
 ·unfold resConv at h
  repeat' (first | (cases h; done) | (obtain ⟨_,h1,_⟩:=E1 h; cases h1; done) | split at h)
 ·split at h
  ·simp only [Option.map_eq_some_iff] at h; obtain ⟨_,_,h1⟩:=h; cases h1
  ·cases h
 ·unfold resFld at h
  repeat' (first | (cases h; done) | (obtain ⟨_,h1,_⟩:=E1 h; cases h1; done) | split at h)
 ·repeat' (first | (cases h; done) | (obtain ⟨_,_,h1,_⟩:=E7 h; cases h1; done) | split at h)
 ·unfold resBld at h
  repeat' (first | (cases h; done) | (simp only [Option.map_eq_some_iff] at h; obtain ⟨_,_,h1⟩:=h; cases h1; done) | split at h)
 ·unfold resSlice at h
  repeat' (first | (cases h; done) | (obtain ⟨_,h1,_⟩:=E1 h; cases h1; done) | split at h)
 ·unfold resFa at h
  repeat' (first | (cases h; done) | (obtain ⟨_,h1,_⟩:=E1 h; cases h1; done) | split at h)
 ·unfold resIa at h
  repeat' (first | (cases h; done) | (obtain ⟨_,_,h1,_⟩:=E7 h; cases h1; done) | split at h)
 ·repeat' (first | (cases h; done) | (obtain ⟨_,h1,_⟩:=E1 h; cases h1; done) | split at h)
 ·simp only [Option.map_eq_some_iff] at h; obtain ⟨_,_,h1⟩:=h; cases h1
 ·unfold resBs at h
  repeat' (first | (cases h; done) | (simp only [Option.map_eq_some_iff] at h; obtain ⟨_,_,h1⟩:=h; cases h1; done) | split at h)
 ·unfold resMs at h
  repeat' (first | (cases h; done) | (obtain ⟨_,_,h1,_⟩:=E7 h; cases h1; done) | split at h)
 ·repeat' (first | (cases h; done) | (obtain ⟨_,_,h1,_⟩:=E7 h; cases h1; done) | split at h)
 ·repeat' (first | (cases h; done) | (obtain ⟨_,_,h1,_⟩:=E7 h; cases h1; done) | split at h)
 ·repeat' (first | (cases h; done) | (obtain ⟨_,_,h1,_⟩:=E7 h; cases h1; done) | split at h)
 ·unfold resLen at h
  repeat' (first | (cases h; done) | (obtain ⟨_,h1,_⟩:=E1 h; cases h1; done) | split at h)
 ·split at h
  ·cases h
  ·cases h
 ·cases h
theorem A82 {o:Oper} {r:ROp} {v:AV} {H':AH} (h:resOp P o=some r) (hx:rmv nw r a H=some (v,H')):amv P nw o a H=some (v,H'):=by
 unfold rmv at hx
 split at hx
 case h_2=>cases hx
 rename_i es byt s' x'
 obtain ⟨args,tys,s,x,t,hop,hs,ht,h⟩:=A6z h
 unfold resApp at h
 split at h
 case h_2=>cases h
 rename_i e he
 split at h
 case h_2=>cases h
 rename_i z hz
 split at h
 case isFalse=>cases h
 rename_i hc
 simp only [Bool.and_eq_true] at hc
 obtain ⟨⟨c1,c2⟩,c4⟩:=hc
 obtain ⟨s1,x1,e1,hsx⟩:=E7 h
 cases e1
 split at hx
 case h_2=>cases hx
 rename_i c m g1 g2
 unfold amv
 simp only [hop,hs,ht,(hsx a).1,(hsx a).2,g1,g2,if_true]
 unfold amove
 simp only [he,hz]
 rw [if_pos ⟨c1,Nat.eq_of_beq_eq_true c2,Nat.le_of_ble_eq_true c4⟩]
 exact hx
theorem Qv {o:Oper} {r:ROp} {K:AV→AH→Prop} (h:resOp P o=some r) (hx:rexec P nw r a H K):awpExec P nw o a H K:=by
 rcases hx with hx | ⟨v,H',u,h0,hl,hk⟩ | ⟨v,H',h0,hk⟩
 ·exact .inl (A11 h hx)
 ·exact .inr (.inl ⟨v,H',u,A11 h h0,hl,hk⟩)
 ·exact .inr (.inr ⟨v,H',A82 h h0,hk⟩)
theorem A5t {o:Oper} {neg:Bool} {x':R0} (h:resOp P o=some (.isn neg x')):∃ op T x pos e,o.op=.binOp op T x (.const (.slice none 0 0)) pos∧P.underlying T=some (.slice e)∧r0 x=some x'∧((op=.eql∧neg=false)∨(op=.neq∧neg=true)):=by
 unfold resOp at h
 split at h
 case h_4 op T x y pos hop =>
  split at h
  ·rename_i r' hr'
   cases h
   obtain ⟨e,n1,x1,hT,rfl,h9,h10,h11⟩:=Je hr'
   cases h9
   exact ⟨op,T,x,pos,e,hop,hT,h10,h11⟩
  ·exfalso
   unfold resBin at h
   repeat' (first | (cases h; done) | (obtain ⟨_,_,h1,_⟩:=E7 h; cases h1; done) | split at h)
 all_goals exfalso
 all_goals first
  | (obtain ⟨_,h1,_⟩:=E1 h; cases h1; done)
  | skip
 ·split at h <;> cases h
 ·unfold resConv at h
  repeat' (first | (cases h; done) | (obtain ⟨_,h1,_⟩:=E1 h; cases h1; done) | split at h)
 ·split at h
  ·simp only [Option.map_eq_some_iff] at h; obtain ⟨_,_,h1⟩:=h; cases h1
  ·cases h
 ·unfold resFld at h
  repeat' (first | (cases h; done) | (obtain ⟨_,h1,_⟩:=E1 h; cases h1; done) | split at h)
 ·repeat' (first | (cases h; done) | (obtain ⟨_,_,h1,_⟩:=E7 h; cases h1; done) | split at h)
 ·unfold resBld at h
  repeat' (first | (cases h; done) | (simp only [Option.map_eq_some_iff] at h; obtain ⟨_,_,h1⟩:=h; cases h1; done) | split at h)
 ·unfold resSlice at h
  repeat' (first | (cases h; done) | (obtain ⟨_,h1,_⟩:=E1 h; cases h1; done) | split at h)
 ·unfold resFa at h
  repeat' (first | (cases h; done) | (obtain ⟨_,h1,_⟩:=E1 h; cases h1; done) | split at h)
 ·unfold resIa at h
  repeat' (first | (cases h; done) | (obtain ⟨_,_,h1,_⟩:=E7 h; cases h1; done) | split at h)
 ·repeat' (first | (cases h; done) | (obtain ⟨_,h1,_⟩:=E1 h; cases h1; done) | split at h)
 ·simp only [Option.map_eq_some_iff] at h; obtain ⟨_,_,h1⟩:=h; cases h1
 ·unfold resBs at h
  repeat' (first | (cases h; done) | (simp only [Option.map_eq_some_iff] at h; obtain ⟨_,_,h1⟩:=h; cases h1; done) | split at h)
 ·unfold resMs at h
  repeat' (first | (cases h; done) | (obtain ⟨_,_,h1,_⟩:=E7 h; cases h1; done) | split at h)
 ·repeat' (first | (cases h; done) | (obtain ⟨_,_,h1,_⟩:=E7 h; cases h1; done) | split at h)
 ·repeat' (first | (cases h; done) | (obtain ⟨_,_,h1,_⟩:=E7 h; cases h1; done) | split at h)
 ·repeat' (first | (cases h; done) | (obtain ⟨_,_,h1,_⟩:=E7 h; cases h1; done) | split at h)
 ·unfold resLen at h
  repeat' (first | (cases h; done) | (obtain ⟨_,h1,_⟩:=E1 h; cases h1; done) | split at h)
 ·unfold resApp at h
  repeat' (first | (cases h; done) | (obtain ⟨_,_,h1,_⟩:=E7 h; cases h1; done) | split at h)
 ·split at h
  ·cases h
  ·cases h
 ·cases h
theorem A6c {o:Oper} {r:ROp} (h:resOp P o=some r) (hn:∀ neg x,r≠.isn neg x):isnA P a o=none:=by
 have key:∀ (op:BinOp) (T:TypeId) (x:Operand) (pos:_) (ng:Bool),o.op=.binOp op T x (.const (.slice none 0 0)) pos→((op=.eql∧ng=false)∨(op=.neq∧ng=true))→isnV P a T x ng=none:=by
  intro op T x pos ng hop hng
  unfold isnV
  split
  ·rename_i e _ _ _ _ hT hx
   exfalso
   have:∃ x',r0 x=some x':=by
    cases x <;> first | exact ⟨_,rfl⟩ | (simp [aev] at hx)
   obtain ⟨x',hx'⟩:=this
   unfold resOp at h
   rcases hng with ⟨rfl,rfl⟩ | ⟨rfl,rfl⟩ <;> simp only [hop,resIsn,hT,o1,hx',Option.map_some,qS] at h <;> exact hn _ _ h.symm
  ·rename_i e hT hx
   exfalso
   have:∃ x',r0 x=some x':=by
    cases x <;> first | exact ⟨_,rfl⟩ | (simp [aev] at hx)
   obtain ⟨x',hx'⟩:=this
   unfold resOp at h
   rcases hng with ⟨rfl,rfl⟩ | ⟨rfl,rfl⟩ <;> simp only [hop,resIsn,hT,o1,hx',Option.map_some,qS] at h <;> exact hn _ _ h.symm
  ·rfl
 unfold isnA
 split
 ·rename_i T x pos hop
  exact key .eql T x pos false hop (.inl ⟨rfl,rfl⟩)
 ·rename_i T x pos hop
  exact key .neq T x pos true hop (.inr ⟨rfl,rfl⟩)
 ·rfl
theorem A65 {o:Oper} {r:ROp} {K:AV→AH→Prop} (h:resOp P o=some r) (hx:rexec1 P nw r a H K):awpOne P nw o a H K:=by
 by_cases hi:∃ neg x,r=.isn neg x
 ·obtain ⟨neg,x',rfl⟩:=hi
  obtain ⟨op,T,x,pos,e,hop,hT,h10,h11⟩:=A5t h
  have he:=Ja (a:=a) h10
  have hA:isnA P a o=isnV P a T x neg:=by
   unfold isnA
   rcases h11 with ⟨rfl,rfl⟩ | ⟨rfl,rfl⟩ <;> simp only [hop]
  unfold awpOne
  rw [hA]
  unfold isnV
  unfold rexec1 at hx
  simp only at hx
  rw [he,hT]
  split at hx
  ·rename_i hg; simp only [hg]; exact hx
  ·rename_i hg; simp only [hg]; exact fun b _=>hx b
  ·exact hx.elim
 ·have hn:∀ neg x,r≠.isn neg x:=fun neg x e=>hi ⟨neg,x,e⟩
  unfold awpOne
  rw [A6c h hn]
  simp only
  have e:rexec1 P nw r a H K=rexec P nw r a H K:=by
   unfold rexec1
   split
   ·exact absurd rfl (hn _ _)
   ·rfl
  rw [e] at hx
  exact Qv h hx
theorem A8h {o:Oper} {z:List AV} (h:resOp P o=some (.al z)):afl P o=some z:=by
 unfold resOp at h
 split at h
 case h_17 T hop =>
  simp only [Option.map_eq_some_iff] at h
  obtain ⟨z',h1,h2⟩:=h
  cases h2
  simp only [afl,hop,h1]
 all_goals exfalso
 all_goals first
  | (obtain ⟨_,h1,_⟩:=E1 h; cases h1; done)
  | skip
 ·split at h <;> cases h
 ·split at h
  ·rename_i r' hr'
   cases h
   obtain ⟨_,_,_,_,_,h9,_⟩:=Je hr'
   cases h9
  unfold resBin at h
  repeat' (first | (cases h; done) | (obtain ⟨_,_,h1,_⟩:=E7 h; cases h1; done) | split at h)
 ·unfold resConv at h
  repeat' (first | (cases h; done) | (obtain ⟨_,h1,_⟩:=E1 h; cases h1; done) | split at h)
 ·split at h
  ·simp only [Option.map_eq_some_iff] at h; obtain ⟨_,_,h1⟩:=h; cases h1
  ·cases h
 ·unfold resFld at h
  repeat' (first | (cases h; done) | (obtain ⟨_,h1,_⟩:=E1 h; cases h1; done) | split at h)
 ·repeat' (first | (cases h; done) | (obtain ⟨_,_,h1,_⟩:=E7 h; cases h1; done) | split at h)
 ·unfold resBld at h
  repeat' (first | (cases h; done) | (simp only [Option.map_eq_some_iff] at h; obtain ⟨_,_,h1⟩:=h; cases h1; done) | split at h)
 ·unfold resSlice at h
  repeat' (first | (cases h; done) | (obtain ⟨_,h1,_⟩:=E1 h; cases h1; done) | split at h)
 ·unfold resFa at h
  repeat' (first | (cases h; done) | (obtain ⟨_,h1,_⟩:=E1 h; cases h1; done) | split at h)
 ·unfold resIa at h
  repeat' (first | (cases h; done) | (obtain ⟨_,_,h1,_⟩:=E7 h; cases h1; done) | split at h)
 ·repeat' (first | (cases h; done) | (obtain ⟨_,h1,_⟩:=E1 h; cases h1; done) | split at h)
 ·unfold resBs at h
  repeat' (first | (cases h; done) | (simp only [Option.map_eq_some_iff] at h; obtain ⟨_,_,h1⟩:=h; cases h1; done) | split at h)
 ·unfold resMs at h
  repeat' (first | (cases h; done) | (obtain ⟨_,_,h1,_⟩:=E7 h; cases h1; done) | split at h)
 ·repeat' (first | (cases h; done) | (obtain ⟨_,_,h1,_⟩:=E7 h; cases h1; done) | split at h)
 ·repeat' (first | (cases h; done) | (obtain ⟨_,_,h1,_⟩:=E7 h; cases h1; done) | split at h)
 ·repeat' (first | (cases h; done) | (obtain ⟨_,_,h1,_⟩:=E7 h; cases h1; done) | split at h)
 ·unfold resLen at h
  repeat' (first | (cases h; done) | (obtain ⟨_,h1,_⟩:=E1 h; cases h1; done) | split at h)
 ·unfold resApp at h
  repeat' (first | (cases h; done) | (obtain ⟨_,_,h1,_⟩:=E7 h; cases h1; done) | split at h)
 ·split at h
  ·cases h
  ·cases h
 ·cases h
end
end Go.Proofs.YtldndhdohlfpgaaGreat.V
/- Code whose types are told by numbers: the model's run keeps to it; how a function's text is gone through. -/
namespace Go.Proofs.YtldndhdohlfpgaaGreat.V
open Go Go.RowKit
section
variable {P:Program} {a:Asg} {H:AH} {nw N:Nat}
theorem A0k {o:Oper} {a:Asg} {H:AH} {K K':AV→AH→Prop} (hK:∀ v H,K v H→K' v H) (h:awpExec0 P nw o a H K):awpExec0 P nw o a H K':=by
 unfold awpExec0 at h ⊢
 split at h
 case h_1 | h_2 | h_3 | h_4 =>
  split at h
  ·exact hK _ _ h
  ·exact h.elim
 ·split at h
  ·split at h
   ·exact hK _ _ h
   ·exact h.elim
  ·exact h.elim
 ·split at h
  ·split at h
   ·split at h
    ·rename_i e
     rw [if_pos e]
     split at h
     ·exact hK _ _ h
     ·exact h.elim
    ·exact h.elim
   ·exact h.elim
  ·exact h.elim
 ·split at h
  ·obtain ⟨hok,v,H',hc,hk⟩:=h
   exact ⟨hok,v,H',hc,hK _ _ hk⟩
  ·exact h.elim
 ·split at h
  ·exact hK _ _ h
  ·exact h.elim
theorem Kh {o:Oper} {a:Asg} {H:AH} {K K':AV→AH→Prop} (hK:∀ v H,K v H→K' v H) (h:awpExec P nw o a H K):awpExec P nw o a H K':=by
 rcases h with h | ⟨v,H',u,h0,hl,hk⟩ | ⟨v,H',h0,hk⟩
 ·exact .inl (A0k hK h)
 ·exact .inr (.inl ⟨v,H',u,h0,hl,hK _ _ hk⟩)
 ·exact .inr (.inr ⟨v,H',h0,hK _ _ hk⟩)
theorem A36 {o:Oper} {a:Asg} {H:AH} {K K':AV→AH→Prop} (hK:∀ v H,K v H→K' v H) (h:awpOne P nw o a H K):awpOne P nw o a H K':=by
 unfold awpOne at h ⊢
 split at h
 ·rename_i e; exact fun b hb=>hK _ _ (h b hb)
 ·exact Kh hK h
theorem Hp {dst:Option Tmp} {v:AV} {K:Asg→Prop} (hd:dOk N dst=true) (h:K (puta dst v a)):ptd N dst v a K:=by
 cases dst with
 | none=>exact h
 | some d=>exact ⟨Nat.le_of_ble_eq_true hd,h⟩
theorem Yf {ops:Array Oper} {o:Oper} {r:RO} (h:resRO P N ops o=some r):r.d=o.dst∧resOp P o=some r.o∧dOk N o.dst=true∧∀ a,gd ops o a=rgd a r.g:=by
 unfold resRO at h
 split at h
 case isFalse=>cases h
 rename_i hd
 split at h
 ·rename_i ro hro
  split at h
  ·rename_i hg
   cases h
   exact ⟨rfl,hro,hd,fun a=>by simp only [gd,hg,rgd]⟩
  ·rename_i j want hg
   split at h
   ·rename_i d hj
    cases h
    exact ⟨rfl,hro,hd,fun a=>by simp only [gd,hg,rgd,hj]; rfl⟩
   ·cases h
 ·cases h
theorem A7l {ops:Array Oper} {K:Asg→AH→Prop}:∀ (l:List Oper) (rs:List RO) (a:Asg) (H:AH),resL P N ops l=some rs→rl P nw rs K a H→awpList P N nw ops l K a H
 | [],rs,a,H,h,hh=>by simp only [resL,qS] at h; subst h; exact hh
 | o::l,rs,a,H,h,hh=>by
  simp only [resL] at h
  split at h
  case h_2=>cases h
  rename_i r rs' h1 h2
  cases h
  obtain ⟨e1,e2,e3,e4⟩:=Yf h1
  simp only [rl] at hh
  simp only [awpList,e4 a]
  rw [e1] at hh
  split at hh
  ·rename_i hg
   simp only [hg]
   exact A36 (fun v H' hv=>Hp e3 (A7l l rs' _ _ h2 hv)) (A65 e2 hh)
  ·rename_i hg
   simp only [hg]
   exact Hp e3 (A7l l rs' _ _ h2 hh)
  ·exact hh.elim
def DnOk (P:Program) (x:Dn) (y:RDn):Prop:=y.j=x.j∧y.a=x.a∧resOp P x.o=some y.o∧y.v=x.v
theorem A0x {o:Oper} {r:ROp} {v:AV} (h:resOp P o=some r) (hs:rstill P nw r a H v):still P nw o a H v:=Qv h hs
theorem A9f {o:Oper} {r:ROp} {v:AV} {hs:List (Nat×AH)} {ps:List Nat} (h:resOp P o=some r) (hh:rstA P nw r a v hs ps):∀ x∈hs,x.1∈ps→still P nw o a x.2 v:=by
 intro x hx hp
 cases ps with
 | nil=>cases hp
 | cons p ps=>exact A0x h (hh x hx hp)
theorem A5l {dn:List Dn} {rdn:List RDn} {rc:List Nat} (hf:F2 (DnOk P) dn rdn) (hh:rstB P nw H rdn rc):∀ x∈dn,x.j∈rc→still P nw x.o x.a H x.v:=by
 intro x hx hp
 have:∃ y∈rdn,DnOk P x y:=by
  clear hh
  induction hf with
  | nil=>cases hx
  | cons h t ih =>
   rcases List.mem_cons.1 hx with rfl | hx
   ·exact ⟨_,List.mem_cons_self,h⟩
   ·obtain ⟨y,hy,h'⟩:=ih hx
    exact ⟨y,List.mem_cons_of_mem _ hy,h'⟩
 obtain ⟨y,hy,h1,h2,h3,h4⟩:=this
 cases rc with
 | nil=>cases hp
 | cons p ps =>
  have:=hh y hy (by rw [h1]; exact hp)
  rw [h2,h4] at this
  exact A0x h3 this
theorem Jy {n0:Nat} {ops:Array Oper} {K:Asg→AH→Prop}:∀ (l:List Oper) (rs:List RO) (pls:List Pl) (i:Nat) (hs:List (Nat×AH)) (dn:List Dn) (rdn:List RDn) (a:Asg) (H:AH),resL P N ops l=some rs→F2 (DnOk P) dn rdn→A0 P nw n0 K i rs pls hs rdn a H→awpDraw P N nw n0 ops K i l pls hs dn a H
 | [],rs,pls,i,hs,dn,rdn,a,H,h,hf,hh=>by
  simp only [resL,qS] at h; subst h
  cases pls with
  | nil=>simpa [A0,awpDraw] using hh
  | cons p ps=>simp [A0] at hh
 | o::l,rs,[],i,hs,dn,rdn,a,H,h,hf,hh=>by
  simp only [resL] at h
  split at h
  case h_2=>cases h
  cases h
  simp [A0] at hh
 | o::l,rs,pl::pls,i,hs,dn,rdn,a,H,h,hf,hh=>by
  simp only [resL] at h
  split at h
  case h_2=>cases h
  rename_i r rs' h1 h2
  cases h
  obtain ⟨e1,e2,e3,e4⟩:=Yf h1
  simp only [A0] at hh
  simp only [awpDraw,e4 a]
  rw [e1] at hh
  split at hh
  ·rename_i ps hg
   simp only [hg]
   refine Kh ?_ (Qv e2 hh)
   rintro v H' ⟨q1,q2,q3⟩
   exact ⟨q1,A9f e2 q2,Hp e3 (Jy l rs' pls _ _ _ _ _ _ h2 (.cons ⟨rfl,rfl,e2,rfl⟩ hf) q3)⟩
  ·rename_i ps hg
   simp only [hg]
   exact Hp e3 (Jy l rs' pls _ _ _ _ _ _ h2 hf hh)
  ·rename_i rc hg
   simp only [hg]
   refine Kh ?_ (Qv e2 hh)
   rintro v H' ⟨q1,q2⟩
   exact ⟨A5l hf q1,Hp e3 (Jy l rs' pls _ _ _ _ _ _ h2 hf q2)⟩
  ·rename_i k hg
   simp only [hg]
   split at hh
   ·rename_i z hz
    rw [hz] at e2
    exact ⟨z,A8h e2,hh.1,hh.2.1,Hp e3 (Jy l rs' pls _ _ _ _ _ _ h2 hf hh.2.2)⟩
   ·exact hh.elim
  ·exact hh.elim
  ·rename_i rc hg
   simp only [hg]
   exact ⟨A5l hf hh.1,Hp e3 (Jy l rs' pls _ _ _ _ _ _ h2 hf hh.2)⟩
  ·exact hh.elim
end
def RW (P:Program) (N nw:Nat) (H0:AH) (rc:RC) (Q:Go.Exit→Asg→AH→Prop) (a:Asg) (H:AH):Prop :=
 ∀ c,(P.follows .mixedOrders=true∧∃ hints,resC hints P N c=some rc)→SW P N nw H0 c Q a H
section
variable {P:Program} {N nw:Nat} {H0:AH} {Q Q':Go.Exit→Asg→AH→Prop} {a a':Asg} {H H':AH}
theorem RW.gh {rc:RC} (g:Gh nw N H0 a H a' H') (h:RW P N nw H0 rc Q a' H'):RW P N nw H0 rc Q a H:=fun c hc=>(h c hc).gh g
theorem RW.mono {rc:RC} (h:RW P N nw H0 rc Q a H) (hq:∀ e a H,Q e a H→Q' e a H):RW P N nw H0 rc Q' a H:=fun c hc=>(h c hc).mono hq
theorem RW.skip (h:Q .normal a H):RW P N nw H0 .skip Q a H:=by
 rintro c ⟨_,hints,hc⟩
 cases c with
 | skip=>exact SW.skip h
 | region id ops d=>cases d <;> simp only [resC] at hc <;> (try split at hc) <;> simp at hc
 | seq x y=>simp only [resC] at hc; split at hc <;> cases hc
 | cond c x y=>simp only [resC] at hc; split at hc <;> cases hc
 | block id c=>simp [resC] at hc
 | loop c=>simp [resC] at hc
 | exit id=>simp [resC] at hc
 | ret=>simp [resC] at hc
 | _=>simp [resC] at hc
theorem RW.exit {id:Nat} (h:Q (.exit id) a H):RW P N nw H0 (.exit id) Q a H:=by
 rintro c ⟨_,hints,hc⟩
 cases c with
 | skip=>simp [resC] at hc
 | region id ops d=>cases d <;> simp only [resC] at hc <;> (try split at hc) <;> simp at hc
 | seq x y=>simp only [resC] at hc; split at hc <;> cases hc
 | cond c x y=>simp only [resC] at hc; split at hc <;> cases hc
 | block id c=>simp [resC] at hc
 | loop c=>simp [resC] at hc
 | exit id=>simp [resC] at hc; subst hc; exact SW.exit h
 | ret=>simp [resC] at hc
 | _=>simp [resC] at hc
theorem RW.ret (h:Q .ret a H):RW P N nw H0 .ret Q a H:=by
 rintro c ⟨_,hints,hc⟩
 cases c with
 | skip=>simp [resC] at hc
 | region id ops d=>cases d <;> simp only [resC] at hc <;> (try split at hc) <;> simp at hc
 | seq x y=>simp only [resC] at hc; split at hc <;> cases hc
 | cond c x y=>simp only [resC] at hc; split at hc <;> cases hc
 | block id c=>simp [resC] at hc
 | loop c=>simp [resC] at hc
 | exit id=>simp [resC] at hc
 | ret=>exact SW.ret h
 | _=>simp [resC] at hc
theorem RW.reg {l:List RO} (h:rl P nw l (Q .normal) a H):RW P N nw H0 (.reg l) Q a H:=by
 rintro c ⟨_,hints,hc⟩
 cases c with
 | skip=>simp [resC] at hc
 | region id ops d =>
  cases d with
  | false =>
   simp only [resC,Option.map_eq_some_iff] at hc
   obtain ⟨l',h1,h2⟩:=hc
   cases h2
   exact SW.region (A7l _ _ _ _ h1 h)
  | true=>simp only [resC] at hc; split at hc <;> simp at hc
 | seq x y=>simp only [resC] at hc; split at hc <;> cases hc
 | cond c x y=>simp only [resC] at hc; split at hc <;> cases hc
 | block id c=>simp [resC] at hc
 | loop c=>simp [resC] at hc
 | exit id=>simp [resC] at hc
 | ret=>simp [resC] at hc
 | _=>simp [resC] at hc
theorem RW.drwF (F:List ABlk) {l:List RO} {pl:List Pl} (h:A0 P nw H.length (Q .normal) 0 l pl [] [] a (H++F.map some)):RW P N nw H0 (.drw l pl) Q a H:=by
 rintro c ⟨hm,hints,hc⟩
 cases c with
 | skip=>simp [resC] at hc
 | region id ops d =>
  cases d with
  | false=>simp [resC] at hc
  | true =>
   simp only [resC] at hc
   split at hc
   ·rename_i hok
    simp only [Option.map_eq_some_iff] at hc
    obtain ⟨l',h1,h2⟩:=hc
    cases h2
    exact SW.draw (SemReg.of_drawF F _ hm hok (Jy _ _ _ _ _ _ _ _ _ h1 .nil h))
   ·cases hc
 | seq x y=>simp only [resC] at hc; split at hc <;> cases hc
 | cond c x y=>simp only [resC] at hc; split at hc <;> cases hc
 | block id c=>simp [resC] at hc
 | loop c=>simp [resC] at hc
 | exit id=>simp [resC] at hc
 | ret=>simp [resC] at hc
 | _=>simp [resC] at hc
theorem RW.drw {l:List RO} {pl:List Pl} (h:A0 P nw H.length (Q .normal) 0 l pl [] [] a H):RW P N nw H0 (.drw l pl) Q a H:=RW.drwF [] (by simpa using h)
theorem RW.seq {x y:RC} (h:RW P N nw H0 x (thenA (RW P N nw H0 y Q) Q) a H):RW P N nw H0 (.seq x y) Q a H:=by
 rintro c ⟨hm,hints,hc⟩
 cases c with
 | skip=>simp [resC] at hc
 | region id ops d=>cases d <;> simp only [resC] at hc <;> (try split at hc) <;> simp at hc
 | seq x y =>
  simp only [resC] at hc
  split at hc
  ·rename_i x' y' h1 h2
   cases hc
   refine SW.seq ((h _ ⟨hm,hints,h1⟩).mono ?_)
   intro e a H hq
   cases e with
   | normal=>exact hq _ ⟨hm,hints,h2⟩
   | exit id=>exact hq
   | goto l=>exact hq
   | ret=>exact hq
   | panic ch=>exact hq
   | outgrown=>exact hq
  ·cases hc
 | cond c x y=>simp only [resC] at hc; split at hc <;> cases hc
 | block id c=>simp [resC] at hc
 | loop c=>simp [resC] at hc
 | exit id=>simp [resC] at hc
 | ret=>simp [resC] at hc
 | _=>simp [resC] at hc
theorem RW.cond {x y:RC} {r:R0} {t:Bool} (ht:rg a r=some (.bool t)) (h1:t=true→RW P N nw H0 x Q a H) (h2:t=false→RW P N nw H0 y Q a H):RW P N nw H0 (.cond r x y) Q a H:=by
 rintro c ⟨hm,hints,hc⟩
 cases c with
 | skip=>simp [resC] at hc
 | region id ops d=>cases d <;> simp only [resC] at hc <;> (try split at hc) <;> simp at hc
 | seq x y=>simp only [resC] at hc; split at hc <;> cases hc
 | cond c x y =>
  simp only [resC] at hc
  split at hc
  ·rename_i c' x' y' e1 e2 e3
   cases hc
   exact SW.cond ((Ja e1).trans ht) (fun e=>h1 e _ ⟨hm,hints,e2⟩) (fun e=>h2 e _ ⟨hm,hints,e3⟩)
  ·cases hc
 | block id c=>simp [resC] at hc
 | loop c=>simp [resC] at hc
 | exit id=>simp [resC] at hc
 | ret=>simp [resC] at hc
 | _=>simp [resC] at hc
theorem RW.blk {x:RC} {id:Nat} (h:RW P N nw H0 x (blkA id Q) a H):RW P N nw H0 (.blk id x) Q a H:=by
 rintro c ⟨hm,hints,hc⟩
 cases c with
 | skip=>simp [resC] at hc
 | region id ops d=>cases d <;> simp only [resC] at hc <;> (try split at hc) <;> simp at hc
 | seq x y=>simp only [resC] at hc; split at hc <;> cases hc
 | cond c x y=>simp only [resC] at hc; split at hc <;> cases hc
 | block id c =>
  simp only [resC,Option.map_eq_some_iff] at hc
  obtain ⟨c',h1,h2⟩:=hc
  cases h2
  exact SW.block (h _ ⟨hm,hints,h1⟩)
 | loop c=>simp [resC] at hc
 | exit id=>simp [resC] at hc
 | ret=>simp [resC] at hc
 | _=>simp [resC] at hc
def RWIn (P:Program) (N nw:Nat) (H0:AH) (rc:RC) (Q:Go.Exit→Asg→AH→Prop) (a:Asg) (H:AH):Prop :=
 ∀ c,(P.follows .mixedOrders=true∧∃ hints,resC hints P N c=some rc)→SWIn P N nw H0 c Q a H
theorem RWIn.round {x:RC} (h:RW P N nw H0 x (thenA (RWIn P N nw H0 x Q) Q) a H):RWIn P N nw H0 x Q a H:=by
 intro c hc
 refine SWIn.round ((h c hc).mono ?_)
 intro e a H hq
 cases e with
 | normal=>exact hq _ hc
 | exit id=>exact hq
 | goto l=>exact hq
 | ret=>exact hq
 | panic ch=>exact hq
 | outgrown=>exact hq
theorem RW.loopIn {x:RC} (h:RWIn P N nw H0 x Q a H):RW P N nw H0 (.loop x) Q a H:=by
 rintro c ⟨hm,hints,hc⟩
 cases c with
 | skip=>simp [resC] at hc
 | region id ops d=>cases d <;> simp only [resC] at hc <;> (try split at hc) <;> simp at hc
 | seq x y=>simp only [resC] at hc; split at hc <;> cases hc
 | cond c x y=>simp only [resC] at hc; split at hc <;> cases hc
 | block id c=>simp [resC] at hc
 | loop c =>
  simp only [resC,Option.map_eq_some_iff] at hc
  obtain ⟨c',h1,h2⟩:=hc
  cases h2
  exact SW.loopIn (h _ ⟨hm,hints,h1⟩)
 | exit id=>simp [resC] at hc
 | ret=>simp [resC] at hc
 | _=>simp [resC] at hc
theorem RW.loop {x:RC} (I:Nat→Asg→AH→Prop) (n0:Nat) (h0:I n0 a H) (hr:∀ n a1 H1,I n a1 H1→RW P N nw H0 x (thenA (Back nw N H0 I n) Q) a1 H1):RW P N nw H0 (.loop x) Q a H:=by
 rintro c ⟨hm,hints,hc⟩
 cases c with
 | skip=>simp [resC] at hc
 | region id ops d=>cases d <;> simp only [resC] at hc <;> (try split at hc) <;> simp at hc
 | seq x y=>simp only [resC] at hc; split at hc <;> cases hc
 | cond c x y=>simp only [resC] at hc; split at hc <;> cases hc
 | block id c=>simp [resC] at hc
 | loop c =>
  simp only [resC,Option.map_eq_some_iff] at hc
  obtain ⟨c',h1,h2⟩:=hc
  cases h2
  exact SW.loop I n0 h0 fun n a1 H1 hI=>hr n a1 H1 hI _ ⟨hm,hints,h1⟩
 | exit id=>simp [resC] at hc
 | ret=>simp [resC] at hc
 | _=>simp [resC] at hc
end
end Go.Proofs.YtldndhdohlfpgaaGreat.V
