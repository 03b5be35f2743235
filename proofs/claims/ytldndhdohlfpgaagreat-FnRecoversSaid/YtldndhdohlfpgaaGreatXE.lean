/- The machine of values, part E. -/
import Derived.Test.YtldndhdohlfpgaaGreatXD
import Derived.ProofKit
import Derived.OpenShut
import Derived.ShutString
import Derived.ChangeOld
import Derived.SizedLaws
import Derived.Carry
import Derived.Sort.Grow
import Derived.Lib.SlicesCompact
import Derived.Lib.Repeat
import Derived.KernelRfl
/- What the printed functions are made of: loops, places, limits. No program in sight. -/
namespace Go.Proofs.YtldndhdohlfpgaaGreat.V
open Go
def iterN {σ ρ:Type} (step:σ→Option (σ ⊕ ρ)):Nat→σ→Option ρ
 | 0,_=>none
 | n+1,s=>match step s with
  | none=>none
  | some (.inl s')=>iterN step n s'
  | some (.inr r)=>some r
open Classical in
noncomputable def iter {σ ρ:Type} (step:σ→Option (σ ⊕ ρ)) (s:σ):Option ρ :=
 if h:∃ n r,iterN step n s=some r then iterN step (Classical.choose h) s else none
section
variable {σ ρ:Type} {step:σ→Option (σ ⊕ ρ)} {s s':σ} {r:ρ}
theorem Qd:∀ {n m:Nat} {s:σ},iterN step n s=some r→n≤m→iterN step m s=some r
 | 0,_,_,h,_=>by cases h
 | n+1,0,_,_,hm=>by omega
 | n+1,m+1,s,h,hm=>by
  simp only [iterN] at h ⊢
  split at h
  ·cases h
  ·rename_i s' hs; exact Qd h (by omega)
  ·exact h
theorem Mh:iter step s=some r↔∃ n,iterN step n s=some r:=by
 unfold iter
 constructor
 ·intro h
  split at h
  ·exact ⟨_,h⟩
  ·cases h
 ·rintro ⟨n,h⟩
  have hx:∃ n r,iterN step n s=some r:=⟨n,r,h⟩
  rw [dif_pos hx]
  obtain ⟨r',h'⟩:=Classical.choose_spec hx
  rw [h']
  rcases Nat.le_total n (Classical.choose hx) with hl | hl
  ·rw [Qd h hl] at h'; exact h'.symm
  ·rw [Qd h' hl] at h; exact h
theorem D0 (h:step s=some (.inr r)):iter step s=some r:=Mh.2 ⟨1,by simp only [iterN,h]⟩
theorem Q6 (h:step s=some (.inl s')):iter step s=iter step s':=by
 have key:∀ r,iter step s=some r↔iter step s'=some r:=by
  intro r
  rw [Mh,Mh]
  constructor
  ·rintro ⟨n,hn⟩
   cases n with
   | zero=>cases hn
   | succ n=>simp only [iterN,h] at hn; exact ⟨n,hn⟩
  ·rintro ⟨n,hn⟩
   exact ⟨n+1,by simp only [iterN,h]; exact hn⟩
 cases h1:iter step s with
 | some r=>exact ((key r).1 h1).symm
 | none =>
  cases h2:iter step s' with
  | none=>rfl
  | some r=>rw [(key r).2 h2] at h1; cases h1
theorem Fu (I:σ→Prop) (m:σ→Nat) (Q:ρ→Prop) (h:∀ s,I s→(∃ s',step s=some (.inl s')∧I s'∧m s'<m s)∨∃ r,step s=some (.inr r)∧Q r):∀ s,I s→∃ r,iter step s=some r∧Q r:=by
 have key:∀ n s,m s=n→I s→∃ r,iter step s=some r∧Q r:=by
  intro n
  induction n using Nat.strongRecOn with
  | _ n ih =>
   intro s hn hI
   rcases h s hI with ⟨s',hs,hI',hm⟩ | ⟨r,hs,hq⟩
   ·rw [Q6 hs]; exact ih (m s') (by omega) s' rfl hI'
   ·exact ⟨r,D0 hs,hq⟩
 intro s hI
 exact key _ s rfl hI
end
abbrev w64 (n:Int):Int:=IntKind.i64.wrap n
def at? {α:Type} (l:List α) (i:Int):Option α:=if 0≤i∧i<(l.length:Int) then l[i.toNat]? else none
def bt? (s:List UInt8) (i:Int):Option UInt8:=if 0≤i then s[i.toNat]? else none
def sub? {α:Type} (l:List α) (i j:Int):Option (List α):=if 0≤i∧i≤j∧j≤(l.length:Int) then some ((l.take j.toNat).drop i.toNat) else none
def cat? (s t:List UInt8):Option (List UInt8):=if s.length+t.length≤4611686018427387904 then some (s++t) else none
def app? {α:Type} (byt:Nat) (l m:List α):Option (List α):=if l.length+m.length≤1099511627776∧(l.length+m.length)*byt≤140737488355328 then some (l++m) else none
def mk? {α:Type} (byt:Nat) (z:α) (n:Int):Option (List α):=if 0≤n∧(byt:Int)*n≤140737488355328∧n≤140737488355328 then some (List.replicate n.toNat z) else none
def set' {α:Type} (l:List α) (i:Int) (x:α):List α:=l.set i.toNat x
def shl? (k:IntKind) (x y:Int):Option Int:=if y<0 then none else some (k.wrap (x*2 ^ (min y.toNat k.bits)))
def rem? (x y:Int):Option Int:=if y=0 then none else some (x.tmod y)
def ofI (n:Int):UInt8:=UInt8.ofNat n.toNat
theorem A1 {α β:Type} {m:Option α} {k:α→Option β} {x:β} (h:m.bind k=some x):∃ y,m=some y∧k y=some x:=by
 cases m with
 | none=>cases h
 | some y=>exact ⟨y,rfl,h⟩
theorem at?_some {α:Type} {l:List α} {i:Int} {x:α} (h:at? l i=some x):(0≤i∧i<(l.length:Int))∧l[i.toNat]?=some x:=by
 unfold at? at h
 split at h
 ·exact ⟨‹_›,h⟩
 ·cases h
end Go.Proofs.YtldndhdohlfpgaaGreat.V
/- Functions of the text whose types are told by numbers: how one is gone through. -/
namespace Go.Proofs.YtldndhdohlfpgaaGreat.V
open Go Go.RowKit
inductive RR
 | t (n:Nat)
 | cell (n:Nat) (ag:Bool) (sz:Nat)
def resR1 (P:Program):ResultVar→Option RR
 | .tmp t=>some (.t t)
 | .cell t ty=>if undT P ty&&hasT P ty then some (.cell t (aggT P ty) (szT P ty)) else none
def resR (P:Program):List ResultVar→Option (List RR)
 | []=>some []
 | r::rs=>match resR1 P r,resR P rs with | some x,some xs=>some (x::xs) | _,_=>none
def rares1 (a:Asg) (H:AH):RR→Option AV
 | .t n=>get a n
 | .cell t ag sz=>match get a t with
  | some (.ptr b off)=>match H[b]? with | some (some k)=>rload ag sz (k.cells.map AV.hide) off | _=>none
  | _=>none
def raresL (a:Asg) (H:AH):List RR→Option (List AV)
 | []=>some []
 | r::rs=>match rares1 a H r,raresL a H rs with | some v,some vs=>some (v::vs) | _,_=>none
def rares (a:Asg) (H:AH) (rs:List RR):Option AV :=
 match raresL a H rs with
 | some [v]=>some v
 | some vs=>some (.tup vs)
 | none=>none
theorem A6v {P:Program} {a:Asg} {H:AH} {r:ResultVar} {x:RR} (h:resR1 P r=some x):ares1 P a H r=rares1 a H x:=by
 cases r with
 | tmp t=>simp only [resR1,qS] at h; subst h; rfl
 | cell t ty =>
  simp only [resR1] at h
  split at h
  ·rename_i hu
   cases h
   simp only [ares1,rares1,aloadEl,hu,if_true,rload]
   rfl
  ·cases h
theorem A0w {P:Program} {a:Asg} {H:AH}:∀ {rs:List ResultVar} {xs:List RR},resR P rs=some xs→aresL P a H rs=raresL a H xs
 | [],xs,h=>by simp only [resR,qS] at h; subst h; rfl
 | r::rs,xs,h=>by
  simp only [resR] at h
  split at h
  ·rename_i x xs' h1 h2
   cases h
   simp only [aresL,raresL,A6v h1,A0w h2]
   rfl
  ·cases h
theorem Zb {P:Program} {a:Asg} {H:AH} {rs:List ResultVar} {xs:List RR} (h:resR P rs=some xs):ares P a H rs=rares a H xs:=by
 simp only [ares,rares,A0w h]
 rfl
def FnOk (P:Program) (f:FuncId) (N:Nat) (rc:RC) (rr:List RR):Prop:=∃ fn c hints,P.funcs[f]?=some fn∧fn.body=some c∧fn.ntmps=N∧resC hints P N c=some rc∧resR P fn.results.toList=some rr∧P.follows .mixedOrders=true
def RRet (rr:List RR) (r:AV) (e:Go.Exit) (a:Asg) (H:AH):Prop:=(e=.normal∨e=.ret)∧∃ v ids,rares a H rr=some v∧OutR H v r ids∧ids.Nodup
section
variable {P:Program} {f:FuncId} {N nw:Nat} {rc:RC} {rr:List RR}
theorem A7.of_r {ds:List AV} {r:AV} (k:FnOk P f N rc rr) (hn:Nat.ble ds.length N=true) (h:RW P N 0 [] rc (RRet rr r) (start 0 ds) []):A7 P f ds r:=by
 obtain ⟨fn,c,hints,h1,h2,rfl,h4,h5,h6⟩:=k
 refine A7.of h1 h2 hn ((h c ⟨h6,hints,h4⟩).mono ?_)
 rintro e a H ⟨q1,v,ids,q2,q3,q4⟩
 exact ⟨q1,v,ids,by rw [Zb h5]; exact q2,q3,q4⟩
end
def rrun (nw:Nat):Nat→List RO→Asg→AH→Option (List RO×Asg×AH)
 | 0,l,a,H=>some (l,a,H)
 | _+1,[],_,_=>none
 | n+1,⟨d,g,o⟩::l,a,H=>match rgd a g with
  | some true=>match rx nw o a H with
   | some (v,H')=>match d with
    | some t=>rrun nw n l ((t,v)::a) H'
    | none=>rrun nw n l a H'
   | none=>none
  | some false=>match d with
   | some t=>rrun nw n l ((t,.tup [])::a) H
   | none=>rrun nw n l a H
  | none=>none
section
variable {P:Program} {nw N:Nat} {H0:AH} {K:Asg→AH→Prop} {Q:Go.Exit→Asg→AH→Prop} {a a':Asg} {H H':AH} {l l':List RO} {o:RO} {v:AV}
theorem Hg {o:ROp} {K:AV→AH→Prop} (h:rx nw o a H=some (v,H')) (hk:K v H'):rexec P nw o a H K:=by
 refine .inl ?_
 cases o with
 | cl f args=>simp [rx] at h
 | _=>simp only [rexec0,h]; exact hk
theorem Jm {f:R0} {args:List R0} {gid:FuncId} {cap vs:List AV} {K:AV→AH→Prop} (hf:rg a f=some (.fn gid cap)) (hv:rgs a args=some vs) (h:A6 P nw gid (vs++cap) H K):rexec P nw (.cl f args) a H K:=by
 refine .inl ?_
 simp only [rexec0,hf,hv]; exact h
theorem A0u {r:ROp} {u:AV} {K:AV→AH→Prop} (hx:rx nw r a H=some (v,H')) (hl:Lit H v H' u) (hk:K u H):rexec P nw r a H K:=by
 refine .inr (.inl ⟨v,H',u,?_,hl,hk⟩)
 cases r with
 | cl f args=>simp [rx] at hx
 | _=>simp only [rexec0,hx]; exact ⟨trivial,trivial⟩
theorem A86 {r:ROp} {K:AV→AH→Prop} (hx:rmv nw r a H=some (v,H')) (hk:K v H'):rexec P nw r a H K:=.inr (.inr ⟨v,H',hx,hk⟩)
theorem Jt {o:ROp} {K:AV→AH→Prop} (h:rx nw o a H=some (v,H')) (hk:K v H'):rexec1 P nw o a H K:=by
 cases o with
 | isn _ _=>simp [rx] at h
 | cl f args=>simp [rx] at h
 | _=>exact Hg (P:=P) (nw:=nw) h hk
theorem rl.run:∀ (n:Nat) {l:List RO} {a:Asg} {H:AH},rrun nw n l a H=some (l',a',H')→rl P nw l' K a' H'→rl P nw l K a H
 | 0,l,a,H,h,hk=>by simp only [rrun,qS,Prod.mk.injEq] at h; obtain ⟨rfl,rfl,rfl⟩:=h; exact hk
 | n+1,[],a,H,h,_=>by cases h
 | n+1,⟨d,g,o⟩::l,a,H,h,hk=>by
  simp only [rrun] at h
  simp only [rl]
  split at h
  ·rename_i hg
   simp only [hg]
   split at h
   ·rename_i v H1 hx
    refine Jt hx ?_
    cases d with
    | some t=>exact rl.run n h hk
    | none=>exact rl.run n h hk
   ·cases h
  ·rename_i hg
   simp only [hg]
   cases d with
   | some t=>exact rl.run n h hk
   | none=>exact rl.run n h hk
  ·cases h
theorem rl.done (h:K a H):rl P nw [] K a H:=h
theorem rl.op {t:Nat} {r:ROp} (hx:rx nw r a H=some (v,H')) (h:rl P nw l K ((t,v)::a) H'):rl P nw (⟨some t,none,r⟩::l) K a H:=by
 simp only [rl,rgd]
 exact Jt hx h
theorem rl.op0 {r:ROp} (hx:rx nw r a H=some (v,H')) (h:rl P nw l K a H'):rl P nw (⟨none,none,r⟩::l) K a H:=by
 simp only [rl,rgd]
 exact Jt hx h
theorem rl.gop {t d:Nat} {b:Bool} {r:ROp} (hg:get a d=some (.bool b)) (hx:rx nw r a H=some (v,H')) (h:rl P nw l K ((t,v)::a) H'):rl P nw (⟨some t,some (d,b),r⟩::l) K a H:=by
 simp only [rl,rgd,hg,beq_self_eq_true]
 exact Jt hx h
theorem rl.gen {t:Nat} {g:Option (Nat×Bool)} {r:ROp} {e:Bool} (hg:rgd a g=some true) (hx:rx nw r a H=some (.bool e,H')) (h:∀ b,e=b→rl P nw l K ((t,.bool b)::a) H'):rl P nw (⟨some t,g,r⟩::l) K a H:=by
 simp only [rl,hg]
 exact Jt hx (h e rfl)
theorem rl.isn {t:Nat} {neg:Bool} {x:R0} {o':Bool} {es n:Nat} {cells:List AV} (hx:rg a x=some (.lst o' es cells n)) (h:∀ b:Bool,(b=true→n=0)→rl P nw l K ((t,.bool (b != neg))::a) H):rl P nw (⟨some t,none,.isn neg x⟩::l) K a H:=by
 simp only [rl,rgd,rexec1,hx]
 exact h
theorem rl.call {t:Option Nat} {g:Option (Nat×Bool)} {f:R0} {args:List R0} {gid:FuncId} {cap vs:List AV} (hg:rgd a g=some true) (hf:rg a f=some (.fn gid cap)) (hv:rgs a args=some vs) (h:A6 P nw gid (vs++cap) H fun v H'=>rl P nw l K (puta t v a) H'):rl P nw (⟨t,g,.cl f args⟩::l) K a H:=by
 simp only [rl,hg,rexec1]
 exact Jm hf hv h
variable {i n0:Nat} {pls:List Pl} {hs:List (Nat×AH)} {dn:List RDn}
theorem A0.done (h:K a H):A0 P nw n0 K i [] [] hs dn a H:=by simpa only [A0] using h
theorem A0.op {t:Option Nat} {g:Option (Nat×Bool)} {r:ROp} (hg:rgd a g=some true) (hx:rx nw r a H=some (v,H)) (h:A0 P nw n0 K (i+1) l pls hs (⟨i,a,r,v⟩::dn) (puta t v a) H):A0 P nw n0 K i (⟨t,g,r⟩::l) (.val []::pls) hs dn a H:=by
 simp only [A0,hg]
 exact Hg hx ⟨rfl,trivial,h⟩
theorem A0.gen {t:Option Nat} {g:Option (Nat×Bool)} {r:ROp} {e:Bool} (hg:rgd a g=some true) (hx:rx nw r a H=some (.bool e,H)) (h:∀ b,e=b→A0 P nw n0 K (i+1) l pls hs (⟨i,a,r,.bool b⟩::dn) (puta t (.bool b) a) H):A0 P nw n0 K i (⟨t,g,r⟩::l) (.val []::pls) hs dn a H:=by
 simp only [A0,hg]
 exact Hg hx ⟨rfl,trivial,h e rfl⟩
theorem A0.off {t:Option Nat} {g:Option (Nat×Bool)} {r:ROp} {ps:List Nat} (hg:rgd a g=some false) (h:A0 P nw n0 K (i+1) l pls hs dn (puta t (.tup []) a) H):A0 P nw n0 K i (⟨t,g,r⟩::l) (.val ps::pls) hs dn a H:=by
 simp only [A0,hg]
 exact h
theorem A0.call {t:Option Nat} {g:Option (Nat×Bool)} {f:R0} {args:List R0} {gid:FuncId} {cap vs:List AV} (hg:rgd a g=some true) (hf:rg a f=some (.fn gid cap)) (hv:rgs a args=some vs) (h:A6 P nw gid (vs++cap) H fun v H'=>H'=H∧A0 P nw n0 K (i+1) l pls hs (⟨i,a,.cl f args,v⟩::dn) (puta t v a) H):A0 P nw n0 K i (⟨t,g,.cl f args⟩::l) (.val []::pls) hs dn a H:=by
 simp only [A0,hg]
 refine Jm hf hv ?_
 obtain ⟨h1,v,H',h2,h3,h4⟩:=h
 exact ⟨h1,v,H',h2,h3,trivial,h4⟩
theorem A0.chn {t:Option Nat} {g:Option (Nat×Bool)} {r:ROp} (hg:rgd a g=some true) (hx:rx nw r a H=some (v,H')) (h:A0 P nw n0 K (i+1) l pls ((i,H)::hs) dn (puta t v a) H'):A0 P nw n0 K i (⟨t,g,r⟩::l) (.chn []::pls) hs dn a H:=by
 simp only [A0,hg]
 exact Hg hx ⟨trivial,h⟩
theorem A0.ccall {t:Option Nat} {g:Option (Nat×Bool)} {f:R0} {args:List R0} {gid:FuncId} {cap vs:List AV} (hg:rgd a g=some true) (hf:rg a f=some (.fn gid cap)) (hv:rgs a args=some vs) (h:A6 P nw gid (vs++cap) H fun v H'=>A0 P nw n0 K (i+1) l pls ((i,H)::hs) dn (puta t v a) H'):A0 P nw n0 K i (⟨t,g,.cl f args⟩::l) (.chn []::pls) hs dn a H:=by
 simp only [A0,hg]
 refine Jm hf hv ?_
 obtain ⟨h1,v,H',h2,h3⟩:=h
 exact ⟨h1,v,H',h2,trivial,h3⟩
theorem RW.sreg {y:RC} (h:rl P nw l (fun a H=>RW P N nw H0 y Q a H) a H):RW P N nw H0 (.seq (.reg l) y) Q a H:=RW.seq (RW.reg h)
theorem RW.sdrw {pl:List Pl} {y:RC} (h:A0 P nw H.length (fun a H=>RW P N nw H0 y Q a H) 0 l pl [] [] a H):RW P N nw H0 (.seq (.drw l pl) y) Q a H:=RW.seq (RW.drw h)
theorem RW.sdrwF (F:List ABlk) {pl:List Pl} {y:RC} (h:A0 P nw H.length (fun a H=>RW P N nw H0 y Q a H) 0 l pl [] [] a (H++F.map some)):RW P N nw H0 (.seq (.drw l pl) y) Q a H:=RW.seq (RW.drwF F h)
theorem RW.cond_t {x y:RC} {r:R0} (ht:rg a r=some (.bool true)) (h:RW P N nw H0 x Q a H):RW P N nw H0 (.cond r x y) Q a H:=RW.cond ht (fun _=>h) (fun e=>by cases e)
theorem RW.cond_f {x y:RC} {r:R0} (ht:rg a r=some (.bool false)) (h:RW P N nw H0 y Q a H):RW P N nw H0 (.cond r x y) Q a H:=RW.cond ht (fun e=>by cases e) (fun _=>h)
theorem RW.iter {σ ρ:Type} {x:RC} {step:σ→Option (σ ⊕ ρ)} {s0:σ} {y:ρ} (hy:iter step s0=some y) (A:σ→Asg) (Hh:σ→AH) (g:Gh nw N H0 a H (A s0) (Hh s0))
  (hr:∀ (s:σ) (B:Asg→AH→Prop) (o:σ ⊕ ρ),step s=some o→(∀ s',o=.inl s'→∀ a H,Gh nw N H0 a H (A s') (Hh s')→B a H)→(∀ y',o=.inr y'→y'=y)→RW P N nw H0 x (thenA B Q) (A s) (Hh s)):RW P N nw H0 (.loop x) Q a H:=by
 refine RW.gh g ?_
 obtain ⟨n,hn⟩:=Mh.1 hy
 refine RW.loop (fun n a H=>∃ s,iterN step n s=some y∧a=A s∧H=Hh s) n ⟨s0,hn,rfl,rfl⟩ ?_
 rintro n a1 H1 ⟨s,hs,rfl,rfl⟩
 cases n with
 | zero=>cases hs
 | succ n =>
  simp only [iterN] at hs
  split at hs
  ·cases hs
  ·rename_i s' hst
   exact hr s _ _ hst (fun s'' e a H gh=>by cases e; exact ⟨n,_,_,gh,⟨_,hs,rfl,rfl⟩,by omega⟩) (fun y' e=>by cases e)
  ·rename_i r hst
   exact hr s _ _ hst (fun s'' e=>by cases e) (fun y' e=>by cases e; exact Option.some.inj hs)
def keepA:List Nat→Asg→Option Asg
 | [],_=>some []
 | t::ts,a=>match get a t,keepA ts a with | some v,some r=>some ((t,v)::r) | _,_=>none
theorem A1c:∀ {ts:List Nat} {a a':Asg},keepA ts a=some a'→∀ x v,get a' x=some v→get a x=some v
 | [],a,a',h,x,v,hx=>by simp only [keepA,qS] at h; subst h; cases hx
 | t::ts,a,a',h,x,v,hx=>by
  simp only [keepA] at h
  split at h
  ·rename_i u r h1 h2
   cases h
   simp only [V.get_cons] at hx
   split at hx
   ·rename_i e; subst e; cases hx; exact h1
   ·exact A1c h2 x v hx
  ·cases h
theorem Gh.keep {ts:List Nat} (h:keepA ts a=some a'):Gh nw N H0 a H a' H:=Gh.asg (A1c h)
theorem RW.kp {rc:RC} (ts:List Nat) (a':Asg) (H':AH) (h:keepA ts a=some a') (hH:H=H') (hk:RW P N nw H0 rc Q a' H'):RW P N nw H0 rc Q a H:=by subst hH; exact RW.gh (Gh.keep h) hk
end
end Go.Proofs.YtldndhdohlfpgaaGreat.V
/- Lists of records in own blocks and handed over: what operations and calls come to. -/
namespace Go.Proofs.YtldndhdohlfpgaaGreat.V
open Go Go.RowKit
inductive Fl:AV→AV→Prop
 | refl {v}:Fl v v
 | lst {o o' es cells cells' n} (hl:cells.length=cells'.length) (h:∀ (i:Nat) v u,cells[i]?=some v→cells'[i]?=some u→Fl v u):Fl (.lst o es cells n) (.lst o' es cells' n)
 | agg {vs us} (hl:vs.length=us.length) (h:∀ (i:Nat) v u,vs[i]?=some v→us[i]?=some u→Fl v u):Fl (.agg vs) (.agg us)
 | tup {vs us} (hl:vs.length=us.length) (h:∀ (i:Nat) v u,vs[i]?=some v→us[i]?=some u→Fl v u):Fl (.tup vs) (.tup us)
theorem VRel.flag {w:World} {β:Bm} {dd:Nat→Option Bool} {v u:AV} (f:Fl v u):∀ {cv:Value},VRel w β dd v cv→VRel w β dd u cv:=by
 induction f with
 | refl=>exact fun h=>h
 | lst hl h ih =>
  intro cv hv
  cases hv with
  | lst0 =>
   have h0:=List.eq_nil_of_length_eq_zero (hl.symm.trans List.length_nil)
   subst h0
   exact .lst0
  | lst hl' hn cvs hB hm hc hr =>
   refine .lst (by omega) hn cvs hB hm ?_ ?_
   ·intro i u hu
    have hi:=(qI hu).1
    exact hc i _ (qG (by omega))
   ·intro i u hu
    have hi:=(qI hu).1
    exact ih i _ u (qG (by omega)) hu (hr i _ (qG (by omega)))
 | agg hl h ih =>
  intro cv hv
  cases hv with
  | agg hs hr h1 =>
   refine .agg (by omega) ?_ h1
   intro i u cu hu hcu
   have hi:=(qI hu).1
   exact ih i _ u (qG (by omega)) hu (hr i _ cu (qG (by omega)) hcu)
 | tup hl h ih =>
  intro cv hv
  cases hv with
  | tup hs hr =>
   refine .tup (by omega) ?_
   intro i u cu hu hcu
   have hi:=(qI hu).1
   exact ih i _ u (qG (by omega)) hu (hr i _ cu (qG (by omega)) hcu)
inductive FlL:List AV→List AV→Prop
 | nil:FlL [] []
 | cons {v u vs us} (h:Fl v u) (t:FlL vs us):FlL (v::vs) (u::us)
theorem FlL.spec {vs us:List AV} (h:FlL vs us):vs.length=us.length∧∀ (i:Nat) v u,vs[i]?=some v→us[i]?=some u→Fl v u:=by
 induction h with
 | nil=>exact ⟨rfl,by simp⟩
 | cons h t ih =>
  refine ⟨by simp [ih.1],?_⟩
  intro i v u hv hu
  cases i with
  | zero=>simp at hv hu; subst hv hu; exact h
  | succ i=>exact ih.2 i v u (by simpa using hv) (by simpa using hu)
theorem FlL.append {a b c d:List AV} (h:FlL a b) (h':FlL c d):FlL (a++c) (b++d):=by
 induction h with
 | nil=>exact h'
 | cons h t ih=>exact .cons h ih
theorem FlL.refl:∀ {vs:List AV},FlL vs vs
 | []=>.nil
 | _::_=>.cons .refl FlL.refl
theorem FlL.agg {vs us:List AV} (h:FlL vs us):Fl (.agg vs) (.agg us):=.agg h.spec.1 h.spec.2
theorem FlL.tup {vs us:List AV} (h:FlL vs us):Fl (.tup vs) (.tup us):=.tup h.spec.1 h.spec.2
theorem FlL.lst {o o':Bool} {es n:Nat} {vs us:List AV} (h:FlL vs us):Fl (.lst o es vs n) (.lst o' es us n):=.lst h.spec.1 h.spec.2
section
variable {α:Type} {enc:α→List AV} {es:Nat}
def fl (enc:α→List AV) (l:List α):List AV:=l.flatMap enc
@[simp] theorem A9t:fl enc []=[]:=rfl
theorem Ev {x:α} {l:List α}:fl enc (x::l)=enc x++fl enc l:=rfl
theorem Jn {l m:List α}:fl enc (l++m)=fl enc l++fl enc m:=by simp [fl]
theorem Fj (h:∀ x,(enc x).length=es):∀ l:List α,(fl enc l).length=l.length*es
 | []=>by simp
 | x::l=>by rw [Ev,List.length_append,h,Fj h l,List.length_cons,Nat.succ_mul,Nat.add_comm]
theorem Rv (h:∀ x,(enc x).length=es):∀ (l:List α) (i:Nat),(fl enc l).drop (i*es)=fl enc (l.drop i)
 | l,0=>by simp
 | [],i+1=>by simp
 | x::l,i+1=>by
  rw [Ev,Nat.succ_mul,Nat.add_comm,List.drop_append,List.drop_eq_nil_of_le (by rw [h]; omega),h,List.nil_append,Nat.add_sub_cancel_left,Rv h l i,List.drop_succ_cons]
theorem Xe (h:∀ x,(enc x).length=es):∀ (l:List α) (i:Nat),(fl enc l).take (i*es)=fl enc (l.take i)
 | l,0=>by simp
 | [],i+1=>by simp
 | x::l,i+1=>by
  rw [Ev,Nat.succ_mul,Nat.add_comm,List.take_append,List.take_of_length_le (by rw [h]; omega),h,Nat.add_sub_cancel_left,Xe h l i,List.take_succ_cons,Ev]
theorem A5h (h:∀ x,(enc x).length=es) {l:List α} {i:Nat} {x:α} (hx:l[i]?=some x):((fl enc l).drop (i*es)).take es=enc x:=by
 obtain ⟨hi,rfl⟩:=qI hx
 rw [Rv h,List.drop_eq_getElem_cons hi,Ev,List.take_append,List.take_of_length_le (by rw [h]; omega),h,Nat.sub_self,List.take_zero,List.append_nil]
theorem A4g (h:∀ x,(enc x).length=es) {l:List α} {i j:Nat} {x:α} (hx:l[i]?=some x) (hj:j<es):(fl enc l)[i*es+j]?=(enc x)[j]?:=by
 rw [← A5h h hx,List.getElem?_take,if_pos hj,List.getElem?_drop]
theorem A9r (h:∀ x,(enc x).length=es) {l:List α} {i:Nat} {y:α} (hi:i<l.length):(fl enc l).take (i*es)++(enc y++(fl enc l).drop (i*es+es))=fl enc (l.set i y):=by
 have e:i*es+es=(i+1)*es:=(Nat.succ_mul i es).symm
 rw [e,Xe h,Rv h,List.set_eq_take_append_cons_drop,if_pos hi,Jn,Ev]
theorem Zc {l:List α} {v:AV} (hv:v∈fl enc l):∃ x∈l,v∈enc x:=by simpa [fl] using hv
theorem A8c (x:α):∀ n,zrep (enc x) n=fl enc (List.replicate n x)
 | 0=>rfl
 | n+1=>by
  have:=A8c x n
  simp only [zrep] at this ⊢
  rw [List.replicate_succ,List.flatten_cons,this,List.replicate_succ,Ev]
theorem A7p {enc':α→List AV} (h:∀ x,FlL (enc x) (enc' x)):∀ l:List α,FlL (fl enc l) (fl enc' l)
 | []=>.nil
 | x::l=>(h x).append (A7p h l)
theorem A5s (h:∀ x,(enc x).length=es) {l:List α} {i o:Nat} {x y:α} {vs:List AV} (hx:l[i]?=some x) (hy:splice (enc x) o vs=enc y) (ho:o+vs.length≤es):splice (fl enc l) (i*es+o) vs=fl enc (l.set i y):=by
 obtain ⟨hi,rfl⟩:=qI hx
 rw [← A9r h hi,← hy]
 have hl:(fl enc l).length=l.length*es:=Fj h l
 have hle:i*es+es≤l.length*es:=by rw [← Nat.succ_mul]; exact Nat.mul_le_mul_right _ hi
 have key:∀ (A B C vs:List AV),(A++(B++C)).take (A.length+o)++vs++(A++(B++C)).drop (A.length+o+vs.length)=A++((B++C).take o++vs++(B++C).drop (o+vs.length)):=by
  intro A B C vs
  rw [List.take_append,List.take_of_length_le (by omega),Nat.add_sub_cancel_left,List.drop_append,List.drop_eq_nil_of_le (by omega),List.nil_append]
  have:A.length+o+vs.length - A.length=o+vs.length:=by omega
  rw [this]
  simp [List.append_assoc]
 have hA:((fl enc l).take (i*es)).length=i*es:=by simp; omega
 have hsplit:fl enc l=(fl enc l).take (i*es)++(enc l[i]++(fl enc l).drop (i*es+es)):=by
  have e:=A5h h hx
  rw [← e]
  have:(fl enc l).drop (i*es+es)=((fl enc l).drop (i*es)).drop es:=by rw [List.drop_drop]
  rw [this,List.take_append_drop,List.take_append_drop]
 unfold splice
 have h1:=key ((fl enc l).take (i*es)) (enc l[i]) ((fl enc l).drop (i*es+es)) vs
 rw [← hsplit,hA] at h1
 rw [h1]
 have hB:(enc l[i]).length=es:=h _
 rw [List.take_append_of_le_length (by omega),List.drop_append_of_le_length (by omega)]
 simp [List.append_assoc]
end
structure EncOk {α:Type} (enc:Bool→α→List AV) (es:Nat):Prop where
 len:∀ o x,(enc o x).length=es
 pos:0<es
 dat:∀ o x,∀ v∈enc o x,Dat v
 own:∀ x,∀ v∈enc true x,Own v
 flag:∀ x,FlL (enc true x) (enc false x)
structure FlatOk {α:Type} (enc:Bool→α→List AV) (es:Nat):Prop extends EncOk enc es where
 same:∀ x,enc true x=enc false x
 strip:∀ o x,∀ v∈enc o x,v.strip=v
 hide:∀ o x,∀ v∈enc o x,v.hide=v
section
variable {α:Type} {enc:Bool→α→List AV} {es:Nat}
theorem EncOk.fdat (k:EncOk enc es) (o:Bool) (l:List α):∀ v∈fl (enc o) l,Dat v:=fun v hv=>let ⟨x,_,h⟩:=Zc hv; k.dat o x v h
theorem EncOk.fown (k:EncOk enc es) (l:List α):∀ v∈fl (enc true) l,Own v:=fun v hv=>let ⟨x,_,h⟩:=Zc hv; k.own x v h
theorem EncOk.fflag (k:EncOk enc es) (l:List α):FlL (fl (enc true) l) (fl (enc false) l):=A7p k.flag l
theorem EncOk.flen (k:EncOk enc es) (o:Bool) (l:List α):(fl (enc o) l).length=l.length*es:=Fj (k.len o) l
theorem FlatOk.fsame (k:FlatOk enc es) (l:List α):fl (enc true) l=fl (enc false) l:=by
 have:enc true=enc false:=funext k.same
 rw [this]
theorem FlatOk.fstrip (k:FlatOk enc es) (o:Bool) (l:List α):(fl (enc o) l).map AV.strip=fl (enc o) l:=by
 conv=>rhs; rw [← List.map_id (fl (enc o) l)]
 exact List.map_congr_left fun v hv=>let ⟨x,_,h⟩:=Zc hv; k.strip o x v h
theorem FlatOk.fhide (k:FlatOk enc es) (o:Bool) (l:List α):(fl (enc o) l).map AV.hide=fl (enc o) l:=by
 conv=>rhs; rw [← List.map_id (fl (enc o) l)]
 exact List.map_congr_left fun v hv=>let ⟨x,_,h⟩:=Zc hv; k.hide o x v h
end
end Go.Proofs.YtldndhdohlfpgaaGreat.V
/- What operations on records come to, told by the records; how values are handed over. -/
namespace Go.Proofs.YtldndhdohlfpgaaGreat.V
open Go Go.RowKit
section
variable {α:Type} {enc:Bool→α→List AV} {es:Nat} {a:Asg} {H:AH} {nw:Nat} {x i y:R0} {o:Bool} {l m r:List α} {e e':α} {k:IntKind} {n:Int} {v:AV} {off off' sz b:Nat}
theorem C0 {es' nn:Nat} (hx:rg a x=some (.lst o es' (fl (enc o) l) nn)) (hi:rg a i=some (.int k n)) (hn:nn=l.length) (h:at? l n=some e):rx nw (.ia es x i) a H=some (.el (fl (enc o) l) (n.toNat*es),H):=by
 subst hn
 simp only [rx,hx,hi,ria,(at?_some h).1,and_self,if_true,ral,Option.map_some]
theorem M7 {nn:Nat} {kb:ABlk} (hx:rg a x=some (.sl b 0 nn)) (hi:rg a i=some (.int k n)) (hb:H[b]?=some (some kb)) (hn:nn=l.length) (h:at? l n=some e):rx nw (.ia es x i) a H=some (.ptr b (n.toNat*es),H):=by
 subst hn
 have hl:liveB H b=true:=by unfold liveB; rw [hb]
 simp only [rx,hx,hi,ria,(at?_some h).1,hl,and_self,if_true,ral,Option.map_some,Nat.zero_add]
theorem H7 (q:EncOk enc es) (hx:rg a x=some (.el (fl (enc o) l) off)) (h:at? l n=some e) (ho:off=n.toNat*es+off') (hlt:Nat.blt off' es=true) (hv:(enc o e)[off']?=some v):rx nw (.ld false sz x) a H=some (v,H):=by
 subst ho
 have:=A4g (q.len o) (at?_some h).2 (Nat.le_of_ble_eq_true hlt)
 simp only [rx,hx,rload,Bool.false_eq_true,if_false,this,hv,ral,Option.map_some]
theorem K2 (q:EncOk enc es) {vs:List AV} (hx:rg a x=some (.el (fl (enc o) l) off)) (h:at? l n=some e) (ho:off=n.toNat*es+off') (hlt:Nat.ble (off'+sz) es=true) (hv:((enc o e).drop off').take sz=vs):rx nw (.ld true sz x) a H=some (.agg vs,H):=by
 subst ho
 have h1:=(at?_some h).2
 have hi:=(qI h1).1
 have hle:=Nat.le_of_ble_eq_true hlt
 have h2:=A5h (q.len o) h1
 have h3:(fl (enc o) l).length=l.length*es:=q.flen o l
 have h4:n.toNat*es+es≤l.length*es:=by rw [← Nat.succ_mul]; exact Nat.mul_le_mul_right _ hi
 have h5:((fl (enc o) l).drop (n.toNat*es+off')).take sz=vs:=by
  rw [← hv,← h2,← List.drop_drop,List.drop_take,List.take_take,Nat.min_eq_left (by omega)]
 simp only [rx,hx,rload,if_true]
 rw [if_pos (by omega),h5]
 rfl
theorem Bq (q:EncOk enc es) {es':Nat} (hx:rg a x=some (.ptr b off)) (hb:H[b]?=some (some ⟨fl (enc o) l,es'⟩)) (h:at? l n=some e) (ho:off=n.toNat*es+off') (hlt:Nat.blt off' es=true) (hv:(enc o e)[off']?=some v):rx nw (.ld false sz x) a H=some (v.hide,H):=by
 subst ho
 have:=A4g (q.len o) (at?_some h).2 (Nat.le_of_ble_eq_true hlt)
 simp only [rx,hx,hb,rload,Bool.false_eq_true,if_false,List.getElem?_map,this,hv,ral,Option.map_some]
theorem A7i (q:EncOk enc es) {es':Nat} {vs:List AV} (hx:rg a x=some (.ptr b off)) (hb:H[b]?=some (some ⟨fl (enc o) l,es'⟩)) (h:at? l n=some e) (ho:off=n.toNat*es+off') (hlt:Nat.ble (off'+sz) es=true) (hv:(((enc o e).drop off').take sz).map AV.hide=vs):rx nw (.ld true sz x) a H=some (.agg vs,H):=by
 subst ho
 have h1:=(at?_some h).2
 have hi:=(qI h1).1
 have hle:=Nat.le_of_ble_eq_true hlt
 have h2:=A5h (q.len o) h1
 have h3:(fl (enc o) l).length=l.length*es:=q.flen o l
 have h4:n.toNat*es+es≤l.length*es:=by rw [← Nat.succ_mul]; exact Nat.mul_le_mul_right _ hi
 have h5:(((fl (enc o) l).map AV.hide).drop (n.toNat*es+off')).take sz=vs:=by
  rw [← hv,← h2,← List.map_drop,← List.map_take,← List.drop_drop,List.drop_take,List.take_take,Nat.min_eq_left (by omega)]
 simp only [rx,hx,hb,rload,if_true,List.length_map]
 rw [if_pos (by omega),h5]
 rfl
theorem A9a (q:EncOk enc es) {es':Nat} (hx:rg a x=some (.ptr b off)) (hy:rg a y=some v) (hb:H[b]?=some (some ⟨fl (enc o) l,es'⟩)) (h:at? l n=some e) (ho:off=n.toNat*es+off') (hnw:Nat.ble nw b=true) (h1:(v.one||v.isAgg)=true) (hsz:v.cells.length=sz) (hlt:Nat.ble (off'+sz) es=true)
  (he:splice (enc o e) off' (v.cells.map AV.strip)=enc o e'):rx nw (.st sz x y) a H=some (.und,H.set b (some ⟨fl (enc o) (set' l n e'),es'⟩)):=by
 subst ho
 have h2:=(at?_some h).2
 have hi:=(qI h2).1
 have hle:=Nat.le_of_ble_eq_true hlt
 have h3:(fl (enc o) l).length=l.length*es:=q.flen o l
 have h4:n.toNat*es+es≤l.length*es:=by rw [← Nat.succ_mul]; exact Nat.mul_le_mul_right _ hi
 have h5:=A5s (q.len o) h2 he (by simp; omega)
 simp only [rx,hx,hy,rst,hb]
 rw [if_pos ⟨Nat.le_of_ble_eq_true hnw,h1,hsz,by omega⟩,h5]
 rfl
theorem x_ms (_:EncOk enc es) {z:List AV} {byt:Nat} {z0:α} {k':IntKind} (hx:rg a x=some (.int k n)) (hy:rg a y=some (.int k' n)) (h:mk? byt z0 n=some r) (hz:enc true z0=z):rx nw (.ms es z byt x y) a H=some (.sl H.length 0 r.length,H++[some ⟨fl (enc true) r,es⟩]):=by
 unfold mk? at h
 split at h
 ·rename_i hc
  cases h
  subst hz
  simp only [rx,hx,hy,rms]
  rw [if_pos ⟨hc.1,trivial,hc.2.1,hc.2.2⟩,A8c,List.length_replicate]
 ·cases h
theorem Fm:acont H es (.lst o es (fl (enc o) m) m.length)=some (m.length,fl (enc o) m):=by simp [acont]
theorem A78 (q:FlatOk enc es) (hb:H[b]?=some (some ⟨fl (enc o) m,es⟩)):acont H es (.sl b 0 m.length)=some (m.length,fl (enc o) m):=by
 have h:=q.flen o m
 simp only [acont,hb]
 rw [if_pos ⟨trivial,by omega⟩,q.fhide,List.drop_zero,List.take_of_length_le (by omega)]
theorem A0v {cells:List AV} (hb:H[b]?=some (some ⟨cells,es⟩)) (hl:cells.length=es) (hh:cells.map AV.hide=cells):acont H es (.sl b 0 1)=some (1,cells):=by
 simp only [acont,hb]
 rw [if_pos ⟨trivial,by omega⟩,hh,List.drop_zero,List.take_of_length_le (by omega)]
theorem Y4 (q:EncOk enc es) {byt:Nat} {xv:AV} {xs:List AV} {mm:Nat} (hb:H[b]?=some (some ⟨fl (enc o) l,es⟩)) (hnw:Nat.ble nw b=true) (hx:acont H es xv=some (mm,xs)) (hm:mm=m.length) (hst:xs.map AV.strip=fl (enc o) m) (h:app? byt l m=some r) :
  rapp nw H es byt (.sl b 0 l.length) xv=some (.sl H.length 0 r.length,H.set b none++[some ⟨fl (enc o) r,es⟩]):=by
 unfold app? at h
 split at h
 ·rename_i hc
  cases h
  subst hm
  have hl:=q.flen o l
  simp only [rapp,abase,hb]
  rw [if_pos ⟨Nat.le_of_ble_eq_true hnw,trivial,hl⟩]
  simp only [hx]
  rw [if_pos hc,hst,← Jn,List.length_append]
  rfl
 ·cases h
theorem Ln (_:EncOk enc es) {byt:Nat} {xv:AV} {xs:List AV} {mm:Nat} (hx:acont H es xv=some (mm,xs)) (hm:mm=m.length) (hst:xs.map AV.strip=fl (enc o) m) (h:app? byt [] m=some r) :
  rapp nw H es byt .nils xv=some (.sl H.length 0 r.length,H++[some ⟨fl (enc o) r,es⟩]):=by
 unfold app? at h
 split at h
 ·rename_i hc
  cases h
  subst hm
  simp only [List.length_nil] at hc
  simp only [rapp,abase,hx]
  rw [if_pos hc,hst]
  simp [killed]
 ·cases h
theorem Ar {s:R0} {byt:Nat} {sv xv:AV} {H':AH} (hs:rg a s=some sv) (hx:rg a x=some xv) (h:rapp nw H es byt sv xv=some (v,H')):rx nw (.app es byt s x) a H=some (v,H'):=by
 simp only [rx,hs,hx,h]
theorem Mc {n:Nat} {k k':IntKind} {i j:Int} (h:0≤i∧i≤j∧j≤(n:Int)):abnd n (some (.int k i)) (some (.int k' j))=some (i.toNat,j.toNat):=by simp [abnd,h]
theorem Md {n:Nat} {k:IntKind} {i:Int} (h:0≤i∧i≤(n:Int)∧(n:Int)≤(n:Int)):abnd n (some (.int k i)) none=some (i.toNat,(n:Int).toNat):=by simp [abnd,h]
theorem Fn {n:Nat} {k:IntKind} {j:Int} (h:(0:Int)≤0∧0≤j∧j≤(n:Int)):abnd n none (some (.int k j))=some ((0:Int).toNat,j.toNat):=by simp [abnd,h]
theorem sub?_some {β:Type} {l r:List β} {i j:Int} (h:sub? l i j=some r):(0≤i∧i≤j∧j≤(l.length:Int))∧r=(l.take j.toNat).drop i.toNat:=by
 unfold sub? at h
 split at h
 ·cases h; exact ⟨‹_›,rfl⟩
 ·cases h
theorem A7b {lo hi:Option AV} {i j:Int} (q:EncOk enc es) (hb:(0≤i∧i≤j∧j≤(l.length:Int))→abnd l.length lo hi=some (i.toNat,j.toNat)) (h:sub? l i j=some r):rsle H es (.lst o es (fl (enc o) l) l.length) lo hi=some (.lst false es (fl (enc o) r) r.length):=by
 obtain ⟨hc,rfl⟩:=sub?_some h
 simp only [rsle,hb hc,if_true,Option.map_some]
 rw [Xe (q.len o),Rv (q.len o)]
 simp only [List.length_drop,List.length_take]
 congr 2
 omega
theorem rsls {s r:List UInt8} {lo hi:Option AV} {i j:Int} (hb:(0≤i∧i≤j∧j≤(s.length:Int))→abnd s.length lo hi=some (i.toNat,j.toNat)) (h:sub? s i j=some r):((abnd s.length lo hi).map fun (l,h)=>AV.str ((s.take h).drop l))=some (.str r):=by
 obtain ⟨hc,rfl⟩:=sub?_some h
 rw [hb hc]; rfl
theorem Gj {s r:List UInt8} {lo hi:Option R0} {lo' hi':Option AV} {i j:Int} (hx:rg a x=some (.str s)) (h1:rgo a lo=some lo') (h2:rgo a hi=some hi') (hb:(0≤i∧i≤j∧j≤(s.length:Int))→abnd s.length lo' hi'=some (i.toNat,j.toNat)) (h:sub? s i j=some r):rx nw (.sls x lo hi) a H=some (.str r,H):=by
 simp only [rx,hx,h1,h2,rsls hb h,ral,Option.map_some]
theorem A7x {lo hi:Option R0} {lo' hi':Option AV} {i j:Int} (q:EncOk enc es) (hx:rg a x=some (.lst o es (fl (enc o) l) l.length)) (h1:rgo a lo=some lo') (h2:rgo a hi=some hi') (hb:(0≤i∧i≤j∧j≤(l.length:Int))→abnd l.length lo' hi'=some (i.toNat,j.toNat)) (h:sub? l i j=some r):rx nw (.sle es x lo hi) a H=some (.lst false es (fl (enc o) r) r.length,H):=by
 simp only [rx,hx,h1,h2,A7b q hb h,ral,Option.map_some]
theorem Wl {s:List UInt8} {c:UInt8} (hx:rg a x=some (.str s)) (hi:rg a i=some (.int k n)) (h:bt? s n=some c):rx nw (.idx x i) a H=some (.int .u8 c.toNat,H):=by
 unfold bt? at h
 split at h
 ·rename_i h0
  simp only [rx,hx,hi,ridx,h0,if_true,h,Option.map_some,ral]
 ·cases h
theorem Q3 {s t r:List UInt8} (hx:rg a x=some (.str s)) (hy:rg a y=some (.str t)) (h:cat? s t=some r):rx nw (.bin .add x y) a H=some (.str r,H):=by
 unfold cat? at h
 split at h
 ·rename_i h0
  cases h
  simp only [rx,hx,hy,rbin,astr,h0,if_true,ral,Option.map_some]
 ·cases h
theorem A9i {n' q:Int} (hx:rg a x=some (.int k n)) (hy:rg a y=some (.int k n')) (h:rem? n n'=some q):rx nw (.bin .rem x y) a H=some (.int k q,H):=by
 unfold rem? at h
 split at h
 ·cases h
 ·rename_i h0
  cases h
  simp [rx,hx,hy,rbin,aint,h0,ral]
theorem Aa4 {n' q:Int} {k':IntKind} (hx:rg a x=some (.int k n)) (hy:rg a y=some (.int k' n')) (h:shl? k n n'=some q):rx nw (.bin .shl x y) a H=some (.int k q,H):=by
 unfold shl? at h
 split at h
 ·cases h
 ·rename_i h0
  cases h
  simp [rx,hx,hy,rbin,ashift,h0,ral]
end
def encB (_:Bool) (n:Int):List AV:=[.int .u8 n]
theorem Yr {o:Bool}:∀ l:List Int,bytesOf (fl (encB o) l)=some (l.map ofI)
 | []=>rfl
 | n::l=>by
  rw [Ev]
  simp only [encB,List.cons_append,List.nil_append,bytesOf,byteOf,Yr l,List.map_cons,ofI]
theorem Jl {a:Asg} {H:AH} {nw:Nat} {x:R0} {o:Bool} {l:List Int} {b:Nat} (hx:rg a x=some (.sl b 0 l.length)) (hb:H[b]?=some (some ⟨fl (encB o) l,1⟩)):rx nw (.cvb x) a H=some (.str (l.map ofI),H):=by
 have h1:(fl (encB o) l).length=l.length*1:=Fj (enc:=encB o) (es:=1) (fun _=>rfl) l
 simp only [rx,hx,rcvb,hb]
 rw [if_pos ⟨trivial,by omega⟩,List.drop_zero,List.take_of_length_le (by omega),Yr]
 rfl
def DF (H:AH) (v u:AV):Prop:=∃ d,DR H v d∧Fl d u
theorem DF.dat {H:AH} {v:AV} (h:Dat v):DF H v v:=⟨v,.dat h,.refl⟩
theorem DF.int {H:AH} {k n}:DF H (.int k n) (.int k n):=.dat .int
theorem DF.str {H:AH} {s}:DF H (.str s) (.str s):=.dat .str
theorem DF.lst {α:Type} {enc:Bool→α→List AV} {es:Nat} (q:EncOk enc es) {H:AH} {o:Bool} {l:List α} {n:Nat}:DF H (.lst o es (fl (enc false) l) n) (.lst false es (fl (enc false) l) n):=⟨_,.dat (.lst (q.fdat false l)),FlL.refl.lst⟩
theorem DF.nils {α:Type} {enc:Bool→α→List AV} {es:Nat} {H:AH}:DF H .nils (.lst false es (fl (enc false) []) 0):=⟨_,.nil,.refl⟩
theorem DF.sl {α:Type} {enc:Bool→α→List AV} {es:Nat} (q:EncOk enc es) {H:AH} {b:Nat} {l:List α} (hb:H[b]?=some (some ⟨fl (enc true) l,es⟩)):DF H (.sl b 0 l.length) (.lst false es (fl (enc false) l) l.length):=by
 refine ⟨.lst false es (fl (enc true) l) l.length,.sl hb rfl (by rw [q.flen]; omega) (q.flen _ _) ?_,(q.fflag l).lst⟩
 intro i v d hv hd
 rw [List.drop_zero,List.take_of_length_le (by rw [q.flen]; omega),hd] at hv
 cases hv
 exact .dat (q.fdat true l _ (qM hd))
inductive DFL (H:AH):List AV→List AV→Prop
 | nil:DFL H [] []
 | cons {v u vs us} (h:DF H v u) (t:DFL H vs us):DFL H (v::vs) (u::us)
theorem DFL.agg {H:AH} {vs us:List AV} (h:DFL H vs us):DF H (.agg vs) (.agg us):=by
 have:∃ ds,vs.length=ds.length∧(∀ (i:Nat) v d,vs[i]?=some v→ds[i]?=some d→DR H v d)∧FlL ds us:=by
  induction h with
  | nil=>exact ⟨[],rfl,by simp,.nil⟩
  | cons h t ih =>
   obtain ⟨d,h1,h2⟩:=h
   obtain ⟨ds,g1,g2,g3⟩:=ih
   refine ⟨d::ds,by simp [g1],?_,.cons h2 g3⟩
   intro i v d hv hd
   cases i with
   | zero=>simp at hv hd; subst hv hd; exact h1
   | succ i=>exact g2 i v d (by simpa using hv) (by simpa using hd)
 obtain ⟨ds,g1,g2,g3⟩:=this
 exact ⟨.agg ds,.agg g1 g2,g3.agg⟩
theorem DFL.rel {w:World} {β:Bm} {H:AH} {base:Nat} (s:SRel base β H w) {args ds:List AV} (h:DFL H args ds):∀ {cargs:List Value},F2 (fun v cv=>VRel w β (dead H) v cv) args cargs→F2 (fun v cv=>VRel w noB (dead []) v cv) ds cargs:=by
 induction h with
 | nil=>intro cargs h; cases h; exact .nil
 | cons h t ih =>
  intro cargs hc
  cases hc with
  | cons h' t' =>
   obtain ⟨d,h1,h2⟩:=h
   exact .cons ((h1.rel s h').flag h2) (ih t')
section
variable {P:Program} {nw:Nat} {f:FuncId} {args ds:List AV} {H:AH} {r r':AV} {K:AV→AH→Prop}
theorem A6.val (hok:okF P f=true) (h:A7 P f ds r) (hd:DFL H args ds) (hf:Fl r r') (hk:K r' H):A6 P nw f args H K:=by
 refine ⟨hok,r',H,?_,hk⟩
 intro base β w cargs s hb hargs
 refine (h w cargs (hd.rel s hargs)).mono ?_
 rintro e w' ⟨cv,fp,rfl,hbel,hft,hnd,hge⟩
 refine ⟨cv,β,rfl,s.below hbel,(hft.vrel ?_).flag hf,Jo s hbel⟩
 intro B hB b p hp e
 have:=(s.ge b p hp B e).2
 have:=(hge B hB).1
 omega
theorem A6.own {H':AH} (hok:okF P f=true) (h:A7 P f ds r) (hd:DFL H args ds) (ho:impOk r) (hi:imp H r=(r',H')) (hk:K r' H'):A6 P nw f args H K:=by
 have e1:r'=(imp H r).1:=by rw [hi]
 have e2:H'=(imp H r).2:=by rw [hi]
 subst e1 e2
 refine ⟨hok,_,_,?_,hk⟩
 intro base β w cargs s hb hargs
 refine (h w cargs (hd.rel s hargs)).mono ?_
 rintro e w' ⟨cv,fp,rfl,hbel,hft,hnd,hge⟩
 obtain ⟨bs,locs,g1,g2,g3⟩:=A87 (H:=H) hft ho
 obtain ⟨h1,h2,h3⟩:=A6w (nw:=nw) s hb hbel g2 hnd hge
 rw [g1]
 exact ⟨cv,_,rfl,h1,g3 _ _ h3 (fun i hi=>X8.2 (by simp; omega)),h2⟩
end
def AV.oneU:AV→Bool
 | .agg _ | .tup _=>false
 | _=>true
inductive OutL (H:AH):List AV→List AV→List Nat→Prop
 | nil:OutL H [] [] []
 | cons {v r:AV} {ids idss:List Nat} {vs rs:List AV} (h:OutR H v r ids) (h1:r.oneU=true) (t:OutL H vs rs idss):OutL H (v::vs) (r::rs) (ids++idss)
theorem OutL.spec {H:AH} {vs rs:List AV} {ids:List Nat} (h:OutL H vs rs ids):vs.length=rs.length∧(∀ r∈rs,r.oneU=true)∧∃ f:Nat→List Nat,ids=(List.range vs.length).flatMap f∧∀ (i:Nat) v r,vs[i]?=some v→rs[i]?=some r→OutR H v r (f i):=by
 induction h with
 | nil=>exact ⟨rfl,by simp,fun _=>[],by simp,by simp⟩
 | cons h h1 t ih =>
  rename_i v r ids idss vs rs
  obtain ⟨e1,e2,f,e3,e4⟩:=ih
  refine ⟨by simp [e1],?_,fun i=>match i with | 0=>ids | i+1=>f i,?_,?_⟩
  ·intro x hx
   rcases List.mem_cons.1 hx with rfl | hx
   ·exact h1
   ·exact e2 x hx
  ·rw [List.length_cons,List.range_succ_eq_map,List.flatMap_cons,List.flatMap_map,e3]
  ·intro i v r hv hr
   cases i with
   | zero =>
    simp at hv hr
    subst hv hr
    exact h
   | succ i=>exact e4 i v r (by simpa using hv) (by simpa using hr)
theorem OutL.agg {H:AH} {vs rs:List AV} {ids:List Nat} (h:OutL H vs rs ids):OutR H (.agg vs) (.agg rs) ids:=by
 obtain ⟨e1,e2,f,e3,e4⟩:=h.spec
 rw [e3]
 exact .agg f e1 e4
inductive OutT (H:AH):List AV→List AV→List Nat→Prop
 | nil:OutT H [] [] []
 | cons {v r:AV} {ids idss:List Nat} {vs rs:List AV} (h:OutR H v r ids) (t:OutT H vs rs idss):OutT H (v::vs) (r::rs) (ids++idss)
theorem OutT.tup {H:AH} {vs rs:List AV} {ids:List Nat} (h:OutT H vs rs ids):OutR H (.tup vs) (.tup rs) ids:=by
 have:vs.length=rs.length∧∃ f:Nat→List Nat,ids=(List.range vs.length).flatMap f∧∀ (i:Nat) v r,vs[i]?=some v→rs[i]?=some r→OutR H v r (f i):=by
  induction h with
  | nil=>exact ⟨rfl,fun _=>[],by simp,by simp⟩
  | cons h t ih =>
   rename_i v r ids idss vs rs
   obtain ⟨e1,f,e3,e4⟩:=ih
   refine ⟨by simp [e1],fun i=>match i with | 0=>ids | i+1=>f i,?_,?_⟩
   ·rw [List.length_cons,List.range_succ_eq_map,List.flatMap_cons,List.flatMap_map,e3]
   ·intro i v r hv hr
    cases i with
    | zero =>
     simp at hv hr
     subst hv hr
     exact h
    | succ i=>exact e4 i v r (by simpa using hv) (by simpa using hr)
 obtain ⟨e1,f,e3,e4⟩:=this
 rw [e3]
 exact .tup f e1 e4
theorem OutR.own {α:Type} {enc:Bool→α→List AV} {es:Nat} (q:EncOk enc es) {H:AH} {b:Nat} {l:List α} (hb:H[b]?=some (some ⟨fl (enc true) l,es⟩)):OutR H (.sl b 0 l.length) (.lst true es (fl (enc true) l) l.length) [b]:=.sl hb rfl (q.flen _ _) (q.fown l)
theorem OutR.nil {α:Type} {enc:Bool→α→List AV} {es:Nat} {H:AH}:OutR H .nils (.lst true es (fl (enc true) []) 0) []:=.nils
end Go.Proofs.YtldndhdohlfpgaaGreat.V
/- What the printed proofs name. -/
namespace Go.Proofs.YtldndhdohlfpgaaGreat.V
open Go Go.RowKit
def encI (_:Bool) (n:Int):List AV:=[.int .i64 n]
def encW (_:Bool) (n:Int):List AV:=[.int .u32 n]
def encO (_:Bool) (b:Bool):List AV:=[.bool b]
def encS (_:Bool) (s:List UInt8):List AV:=[.str s]
theorem fkI:FlatOk encI 1:=⟨⟨fun _ _=>rfl,by omega,by simp [encI]; exact fun _=>.int,by simp [encI]; exact fun _=>.int,fun _=>.refl⟩,fun _=>rfl,by simp [encI,AV.strip],by simp [encI,AV.hide]⟩
theorem fkB:FlatOk encB 1:=⟨⟨fun _ _=>rfl,by omega,by simp [encB]; exact fun _=>.int,by simp [encB]; exact fun _=>.int,fun _=>.refl⟩,fun _=>rfl,by simp [encB,AV.strip],by simp [encB,AV.hide]⟩
theorem fkW:FlatOk encW 1:=⟨⟨fun _ _=>rfl,by omega,by simp [encW]; exact fun _=>.int,by simp [encW]; exact fun _=>.int,fun _=>.refl⟩,fun _=>rfl,by simp [encW,AV.strip],by simp [encW,AV.hide]⟩
theorem fkO:FlatOk encO 1:=⟨⟨fun _ _=>rfl,by omega,by simp [encO]; exact ⟨.bool,.bool⟩,by simp [encO]; exact ⟨.bool,.bool⟩,fun _=>.refl⟩,fun _=>rfl,by simp [encO,AV.strip],by simp [encO,AV.hide]⟩
theorem fkS:FlatOk encS 1:=⟨⟨fun _ _=>rfl,by omega,by simp [encS]; exact fun _=>.str,by simp [encS]; exact fun _=>.str,fun _=>.refl⟩,fun _=>rfl,by simp [encS,AV.strip],by simp [encS,AV.hide]⟩
theorem ekI:EncOk encI 1:=fkI.toEncOk
theorem ekB:EncOk encB 1:=fkB.toEncOk
theorem ekW:EncOk encW 1:=fkW.toEncOk
theorem ekO:EncOk encO 1:=fkO.toEncOk
theorem ekS:EncOk encS 1:=fkS.toEncOk
theorem Dat.refLt {n:Nat} {v:AV} (h:Dat v):RefLt n v:=by
 induction h with
 | int=>exact .int
 | bool=>exact .bool
 | str=>exact .str
 | nils=>exact .nils
 | lst _ ih=>exact .lst ih
 | agg _ ih=>exact .agg ih
 | fn=>exact .fn (by simp)
section
variable {α:Type} {enc:Bool→α→List AV} {es:Nat}
theorem EncOk.rlst (k:EncOk enc es) {o o':Bool} {l:List α} {n m:Nat}:RefLt m (.lst o' es (fl (enc o) l) n):=.lst fun v hv=>(k.fdat o l v hv).refLt
theorem EncOk.rrec (k:EncOk enc es) {o:Bool} {x:α} {m:Nat}:RefLt m (.agg (enc o x)):=.agg fun v hv=>(k.dat o x v hv).refLt
theorem EncOk.fref (k:EncOk enc es) (o:Bool) (l:List α):∀ v∈fl (enc o) l,RefLt 0 v:=fun v hv=>(k.fdat o l v hv).refLt
theorem FlatOk.fst (k:FlatOk enc es) (o:Bool) (l:List α):(fl (enc o) l).map AV.strip=fl (enc true) l:=by
 rw [k.fstrip]
 cases o
 ·exact (k.fsame l).symm
 ·rfl
theorem Yz {a:Asg} {H:AH} {nw:Nat} {x y:R0} {o:Bool} {l l':List α} {e e':α} {n:Int} {v:AV} {off off' sz b es':Nat} (q:EncOk enc es) (h:at? l n=some e) (hx:rg a x=some (.ptr b off)) (hy:rg a y=some v) (hb:H[b]?=some (some ⟨fl (enc o) l,es'⟩)) (ho:off=n.toNat*es+off') (hnw:Nat.ble nw b=true) (h1:(v.one||v.isAgg)=true) (hsz:v.cells.length=sz) (hlt:Nat.ble (off'+sz) es=true)
  (he:splice (enc o e) off' (v.cells.map AV.strip)=enc o e') (hl:some (set' l n e')=some l'):rx nw (.st sz x y) a H=some (.und,H.set b (some ⟨fl (enc o) l',es'⟩)):=by
 cases hl
 exact A9a q hx hy hb h ho hnw h1 hsz hlt he
end
def andv (k:IntKind) (x y:Int):Int:=k.wrap (BitVec.ofInt k.bits x &&& BitVec.ofInt k.bits y).toNat
def orv (k:IntKind) (x y:Int):Int:=k.wrap (BitVec.ofInt k.bits x ||| BitVec.ofInt k.bits y).toNat
def xorv (k:IntKind) (x y:Int):Int:=k.wrap (BitVec.ofInt k.bits x ^^^ BitVec.ofInt k.bits y).toNat
def shrv (k:IntKind) (x y:Int):Int:=x.fdiv (2 ^ (min y.toNat k.bits))
theorem A5 {α:Type} {b:Bool} {m n:Option α} {x:α} (h:(if b=true then m else n)=some x) (hb:b=true):m=some x:=by rwa [if_pos hb] at h
theorem A4 {α:Type} {b:Bool} {m n:Option α} {x:α} (h:(if b=true then m else n)=some x) (hb:b=false):n=some x:=by rwa [if_neg (by rw [hb]; simp)] at h
theorem elimL {α β γ:Type} {f:α→Option γ} {g:β→Option γ} {y:α ⊕ β} {x:γ} {r:α} (h:Sum.elim f g y=some x) (e:.inl r=y):f r=some x:=by subst e; exact h
theorem elimR {α β γ:Type} {f:α→Option γ} {g:β→Option γ} {y:α ⊕ β} {x:γ} {r:β} (h:Sum.elim f g y=some x) (e:y=.inr r):g r=some x:=by subst e; exact h
theorem fan {α:Type} {p:α→Prop}:∀ v∈([]:List α),p v:=by simp
theorem fac {α:Type} {p:α→Prop} {u:α} {l:List α} (h:p u) (t:∀ v∈l,p v):∀ v∈u::l,p v:=by
 intro v hv
 rcases List.mem_cons.1 hv with rfl | hv
 ·exact h
 ·exact t v hv
section
variable {P:Program} {N nw:Nat} {H0:AH} {Q:Go.Exit→Asg→AH→Prop} {a a':Asg} {H H':AH}
theorem C4 {id:Nat} (h:Q .normal a H):blkA id Q (.exit id) a H:=by simp only [blkA,if_true]; exact h
theorem RW.cutq {σ:Type} {x:RC} (A:σ→Asg) (Hh:σ→AH) (C:σ→Prop) (hg:∀ a H a' H',Gh nw N H0 a H a' H'→Q .normal a' H'→Q .normal a H) (h1:RW P N nw H0 x (thenA (fun a H=>∃ s,C s∧Gh nw N H0 a H (A s) (Hh s)) Q) a H) (h2:∀ s,C s→Q .normal (A s) (Hh s)):RW P N nw H0 x Q a H:=by
 refine h1.mono ?_
 intro e a H hq
 cases e with
 | normal=>obtain ⟨s,hc,g⟩:=hq; exact hg _ _ _ _ g (h2 s hc)
 | exit id=>exact hq
 | goto l=>exact hq
 | ret=>exact hq
 | panic ch=>exact hq
 | outgrown=>exact hq
theorem RW.cutE {x:RC} (A:Empty→Asg) (Hh:Empty→AH) (C:Empty→Prop) (h1:RW P N nw H0 x (thenA (fun a H=>∃ s,C s∧Gh nw N H0 a H (A s) (Hh s)) Q) a H) (_h2:∀ s,C s→Q .normal (A s) (Hh s)):RW P N nw H0 x Q a H:=by
 refine h1.mono ?_
 intro e a H hq
 cases e with
 | normal=>obtain ⟨s,_,_⟩:=hq; exact s.elim
 | exit id=>exact hq
 | goto l=>exact hq
 | ret=>exact hq
 | panic ch=>exact hq
 | outgrown=>exact hq
theorem RRet.mk {rr:List RR} {r v:AV} {ids:List Nat} (hv:rares a H rr=some v) (ho:OutR H v r ids) (hn:ids.Nodup):RRet rr r .ret a H:=⟨.inr rfl,v,ids,hv,ho,hn⟩
theorem RRet.mkn {rr:List RR} {r v:AV} {ids:List Nat} (hv:rares a H rr=some v) (ho:OutR H v r ids) (hn:ids.Nodup):RRet rr r .normal a H:=⟨.inl rfl,v,ids,hv,ho,hn⟩
end
inductive RnL (ns:List Nat):List AV→List AV→Prop
 | nil:RnL ns [] []
 | cons {v u vs us} (h:Rn ns v u) (t:RnL ns vs us):RnL ns (v::vs) (u::us)
theorem RnL.spec {ns:List Nat} {vs us:List AV} (h:RnL ns vs us):vs.length=us.length∧∀ (i:Nat) v u,vs[i]?=some v→us[i]?=some u→Rn ns v u:=by
 induction h with
 | nil=>exact ⟨rfl,by simp⟩
 | cons h t ih =>
  refine ⟨by simp [ih.1],?_⟩
  intro i v u hv hu
  cases i with
  | zero=>simp at hv hu; subst hv hu; exact h
  | succ i=>exact ih.2 i v u (by simpa using hv) (by simpa using hu)
theorem RnL.agg {ns:List Nat} {vs us:List AV} (h:RnL ns vs us):Rn ns (.agg vs) (.agg us):=.agg h.spec.1 h.spec.2
theorem RnL.tup {ns:List Nat} {vs us:List AV} (h:RnL ns vs us):Rn ns (.tup vs) (.tup us):=.tup h.spec.1 h.spec.2
theorem RnL.fn {ns:List Nat} {f:FuncId} {vs us:List AV} (h:RnL ns vs us):Rn ns (.fn f vs) (.fn f us):=.fn h.spec.1 h.spec.2
inductive RnC (ns:List Nat):List AV→List AV→Prop
 | nil:RnC ns [] []
 | keep {v vs us} (h:RefLt 0 v) (t:RnC ns vs us):RnC ns (v::vs) (v::us)
 | sl {b b' off n vs us} (h:ns[b']?=some b) (t:RnC ns vs us):RnC ns (.sl b off n::vs) (.sl b' off n::us)
 | ptr {b b' off vs us} (h:ns[b']?=some b) (t:RnC ns vs us):RnC ns (.ptr b off::vs) (.ptr b' off::us)
 | fn {f c c' vs us} (h:Rn ns (.fn f c) (.fn f c')) (t:RnC ns vs us):RnC ns (.fn f c::vs) (.fn f c'::us)
theorem RnC.spec {ns:List Nat} {vs us:List AV} (h:RnC ns vs us):vs.length=us.length∧∀ (j:Nat) v u,vs[j]?=some v→us[j]?=some u→u=v∧RefLt 0 v∨Rn ns v u∧∀ o es cells n,v≠.lst o es cells n:=by
 induction h with
 | nil=>exact ⟨rfl,by simp⟩
 | keep h t ih =>
  refine ⟨by simp [ih.1],?_⟩
  intro i v u hv hu
  cases i with
  | zero=>simp at hv hu; subst hv hu; exact .inl ⟨rfl,h⟩
  | succ i=>exact ih.2 i v u (by simpa using hv) (by simpa using hu)
 | sl h t ih =>
  refine ⟨by simp [ih.1],?_⟩
  intro i v u hv hu
  cases i with
  | zero=>simp at hv hu; subst hv hu; exact .inr ⟨.sl h,by simp⟩
  | succ i=>exact ih.2 i v u (by simpa using hv) (by simpa using hu)
 | ptr h t ih =>
  refine ⟨by simp [ih.1],?_⟩
  intro i v u hv hu
  cases i with
  | zero=>simp at hv hu; subst hv hu; exact .inr ⟨.ptr h,by simp⟩
  | succ i=>exact ih.2 i v u (by simpa using hv) (by simpa using hu)
 | fn h t ih =>
  refine ⟨by simp [ih.1],?_⟩
  intro i v u hv hu
  cases i with
  | zero=>simp at hv hu; subst hv hu; exact .inr ⟨h,by simp⟩
  | succ i=>exact ih.2 i v u (by simpa using hv) (by simpa using hu)
inductive RnBs (ns:List Nat) (H:AH):List Nat→AH→Prop
 | nil:RnBs ns H [] []
 | same {b bs k H'} (hb:H[b]?=some (some k)) (h:∀ v∈k.cells,RefLt 0 v) (t:RnBs ns H bs H'):RnBs ns H (b::bs) (some k::H')
 | cells {b bs k k' H'} (hb:H[b]?=some (some k)) (he:k'.es=k.es) (h:RnC ns k.cells k'.cells) (t:RnBs ns H bs H'):RnBs ns H (b::bs) (some k'::H')
 | dead {b bs H'} (hb:H[b]?=some none) (t:RnBs ns H bs H'):RnBs ns H (b::bs) (none::H')
theorem RnBs.len {ns:List Nat} {H:AH} {bs:List Nat} {H':AH} (h:RnBs ns H bs H'):bs.length=H'.length:=by
 induction h <;> simp_all
theorem RnBs.spec {ns:List Nat} {H:AH} {bs:List Nat} {H':AH} (h:RnBs ns H bs H'):∀ (i b:Nat),bs[i]?=some b→(∃ k k':ABlk,H[b]?=some (some k)∧H'[i]?=some (some k')∧k'.es=k.es∧k.cells.length=k'.cells.length∧∀ (j:Nat) v u,k.cells[j]?=some v→k'.cells[j]?=some u→u=v∧RefLt 0 v∨Rn ns v u∧∀ o es cells n,v≠.lst o es cells n)∨(H[b]?=some none∧H'[i]?=some none):=by
 induction h with
 | nil=>intro i b hb; simp at hb
 | same hb h t ih =>
  rename_i b0 bs k H'
  intro i b hi
  cases i with
  | zero =>
   simp at hi; subst hi
   refine .inl ⟨k,k,hb,rfl,rfl,rfl,?_⟩
   intro j v u hv hu
   rw [hv] at hu; cases hu
   exact .inl ⟨rfl,h v (qM hv)⟩
  | succ i=>exact ih i b (by simpa using hi)
 | cells hb he h t ih =>
  rename_i b0 bs k k' H'
  intro i b hi
  cases i with
  | zero=>simp at hi; subst hi; exact .inl ⟨k,k',hb,rfl,he,h.spec.1,h.spec.2⟩
  | succ i=>exact ih i b (by simpa using hi)
 | dead hb t ih =>
  intro i b hi
  cases i with
  | zero=>simp at hi; subst hi; exact .inr ⟨hb,rfl⟩
  | succ i=>exact ih i b (by simpa using hi)
inductive SubL (ns:List Nat) (a:Asg):Asg→Prop
 | nil:SubL ns a []
 | cons {x v u r} (hg:get a x=some v) (hr:Rn ns v u) (t:SubL ns a r):SubL ns a ((x,u)::r)
theorem SubL.sub {ns:List Nat} {a a':Asg} (h:SubL ns a a'):SubR ns a' a:=by
 induction h with
 | nil=>trivial
 | cons hg hr t ih=>exact ⟨⟨_,hg,hr⟩,ih⟩
def nodupB:List Nat→Bool
 | []=>true
 | x::l=>!(l.any (Nat.beq x))&&nodupB l
theorem Fk:∀ {l:List Nat},nodupB l=true→l.Nodup
 | [],_=>List.nodup_nil
 | x::l,h=>by
  simp only [nodupB,Bool.and_eq_true,Bool.not_eq_true',List.any_eq_false] at h
  refine List.nodup_cons.2 ⟨fun hm=>?_,Fk h.2⟩
  exact h.1 x hm (by simp)
section
variable {N:Nat} {a a':Asg} {H H':AH}
theorem Gh.ren0 (ns:List Nat) (hb:RnBs ns H ns H') (hn:nodupB ns=true) (hs:SubL ns a a'):Gh 0 N [] a H a' H' :=
 Gh.ren ns hb.len (by simp) (fun i h=>absurd h (by simp)) (Fk hn) hb.spec hs.sub
theorem Gh.renN {H0:AH} {nw:Nat} (ns:List Nat) (hb:RnBs ns H ns H') (hn:nodupB ns=true) (hl:Nat.ble H0.length ns.length=true) (hid:(List.range H0.length).all (fun i=>Nat.beq (ns.getD i (i+1)) i)=true) (hs:SubL ns a a'):Gh nw N H0 a H a' H':=by
 refine Gh.ren ns hb.len (Nat.le_of_ble_eq_true hl) ?_ (Fk hn) hb.spec hs.sub
 intro i hi
 have h1:=List.all_eq_true.1 hid i (List.mem_range.2 hi)
 have h2:=Nat.eq_of_beq_eq_true h1
 have h3:i<ns.length:=Nat.lt_of_lt_of_le hi (Nat.le_of_ble_eq_true hl)
 rw [qG h3]
 rw [List.getD_eq_getElem?_getD,qG h3] at h2
 exact congrArg some h2
end
end Go.Proofs.YtldndhdohlfpgaaGreat.V
/- A nil slice is an own one, empty. -/
namespace Go.Proofs.YtldndhdohlfpgaaGreat.V
open Go Go.RowKit
theorem Co {α:Type} {l l':List α} {i:Int} {x:α} (h:some (set' l i x)=some l'):l.length=l'.length:=by
 cases h
 simp [set']
theorem Rn.slq {ns:List Nat} {b b' off n n':Nat} (h:ns[b']?=some b) (e:n=n'):Rn ns (.sl b off n) (.sl b' off n'):=by subst e; exact .sl h
theorem RnC.slq {ns:List Nat} {b b' off n n':Nat} {vs us:List AV} (h:ns[b']?=some b) (e:n=n') (t:RnC ns vs us):RnC ns (.sl b off n::vs) (.sl b' off n'::us):=by subst e; exact .sl h t
section
variable {α:Type} {enc:Bool→α→List AV} {es:Nat}
theorem DF.slq (q:EncOk enc es) {H:AH} {b n:Nat} {l:List α} (hb:H[b]?=some (some ⟨fl (enc true) l,es⟩)) (e:n=l.length):DF H (.sl b 0 n) (.lst false es (fl (enc false) l) l.length):=by subst e; exact .sl q hb
theorem OutR.ownq (q:EncOk enc es) {H:AH} {b n:Nat} {l:List α} (hb:H[b]?=some (some ⟨fl (enc true) l,es⟩)) (e:n=l.length):OutR H (.sl b 0 n) (.lst true es (fl (enc true) l) l.length) [b]:=by subst e; exact .own q hb
theorem Q9 {H:AH} {o:Bool} {m:List α} {b n:Nat} (q:FlatOk enc es) (hb:H[b]?=some (some ⟨fl (enc o) m,es⟩)) (e:n=m.length):acont H es (.sl b 0 n)=some (m.length,fl (enc o) m):=by subst e; exact A78 q hb
end
section
variable {nw N:Nat} {H0:AH} {a:Asg} {H:AH}
theorem A71 {w:World} {β:Bm} {base:Nat} (_:SRel base β H w) (k:ABlk):(∀ {v:AV} {cv:Value},VRel w β (dead H) v cv→VRel w β (dead (H++[some k])) v cv):=by
 intro v cv h
 refine h.step (fun _ h=>h) ?_ ?_ (fun b p hp=>.inr ⟨p,hp,rfl,rfl,rfl⟩)
 ·intro b hb
  have h1:=G3.1 hb
  refine G3.2 ?_
  rw [List.getElem?_append_left (qI h1).1]; exact h1
 ·intro b hb
  have h1:=X8.1 hb
  refine X8.2 ?_
  simp; omega
theorem A5i {base:Nat} {β0:Bm} {w0:World} {β:Bm} {ca:Act} {w:World} (s0:SRel base β0 H0 w0) (st:St base N nw β0 H0 w0 a H β ca w) (k:ABlk):St base N nw β0 H0 w0 a (H++[some k]) β ca w:=by
 have hv:=fun {v:AV} {cv:Value}=>A71 (v:=v) (cv:=cv) st.s k
 refine ⟨⟨?_,st.s.nodup,st.s.ge,st.s.disj⟩,⟨st.t.defers,st.t.size,fun x v hx=>⟨(st.t.get x v hx).1,hv (st.t.get x v hx).2⟩⟩,?_,st.b⟩
 ·intro b p hp
  obtain ⟨k1,hk1,hbr⟩:=st.s.blk b p hp
  exact ⟨k1,by rw [List.getElem?_append_left (st.s.lt hp)]; exact hk1,hbr.step hv⟩
 ·refine ⟨by have:=st.e.len; simp; omega,?_,st.e.old,?_,st.e.own,st.e.wsz,st.e.os,st.e.tape,st.e.output,st.e.frame⟩
  ·intro b p hp k1 hk1
   rw [List.getElem?_append_left (Nat.lt_of_lt_of_le (s0.lt hp) st.e.len)] at hk1
   exact st.e.keep b p hp k1 hk1
  ·intro b hb
   have h1:=st.e.dead b hb
   rw [List.getElem?_append_left (qI h1).1]; exact h1
theorem Gh.nil_t (t es:Nat) (hg:get a t=some .nils):Gh nw N H0 a H ((t,.sl H.length 0 0)::a) (H++[some ⟨[],es⟩]):=by
 intro base β0 w0 β ca w s0 st
 have st1:=A5i s0 st ⟨[],es⟩
 refine ⟨β,st1.s,⟨st1.t.defers,st1.t.size,?_⟩,st1.e,st1.b⟩
 intro x v hx
 simp only [V.get_cons] at hx
 split at hx
 ·rename_i e
  subst e
  cases hx
  obtain ⟨h1,h2⟩:=st.t.get _ _ hg
  refine ⟨h1,?_⟩
  cases hq:ca.tmps.getD x undef <;> rw [hq] at h2 <;> cases h2
  exact .sl0 (X8.2 (by simp))
 ·exact st1.t.get x v hx
theorem Gh.nil_c (b j es:Nat) {k:ABlk} (hk:H[b]?=some (some k)) (hj:k.cells[j]?=some .nils):Gh nw N H0 a H a (H.set b (some (setCell k j (.sl H.length 0 0)))++[some ⟨[],es⟩]):=by
 intro base β0 w0 β ca w s0 st
 have hbl:b<H.length:=(qI hk).1
 have hjl:j<k.cells.length:=(qI hj).1
 have hdd:∀ c,dead (H.set b (some (setCell k j (.sl H.length 0 0)))++[some ⟨[],es⟩]) c=dead (H++[some ⟨[],es⟩]) c:=by
  intro c
  unfold dead
  by_cases hc:c<H.length
  ·rw [List.getElem?_append_left (by simpa using hc),List.getElem?_append_left hc]
   by_cases e:b=c
   ·subst e; rw [hk]; simp [hbl]
   ·rw [List.getElem?_set_ne e]
  ·rw [List.getElem?_append_right (by simp; omega),List.getElem?_append_right (by omega)]
   simp
 have hde:dead (H.set b (some (setCell k j (.sl H.length 0 0)))++[some ⟨[],es⟩])=dead (H++[some ⟨[],es⟩]):=funext hdd
 have st1:=A5i s0 st ⟨[],es⟩
 refine ⟨β,⟨?_,st.s.nodup,st.s.ge,st.s.disj⟩,⟨st.t.defers,st.t.size,?_⟩,?_,st.b⟩
 ·intro c p hp
  obtain ⟨k1,hk1,hbr⟩:=st1.s.blk c p hp
  have hcl:=st.s.lt hp
  rw [hde]
  by_cases e:c=b
  ·subst e
   rw [List.getElem?_append_left hcl,hk] at hk1
   cases hk1
   refine ⟨_,by rw [List.getElem?_append_left (by simpa using hcl)]; simp [hbl]; rfl,?_⟩
   obtain ⟨h0,cc,T,cvs,fps,h1,h2,h3,h4,h5⟩:=hbr
   refine ⟨h0,cc,T,cvs,fps,h1,h2,by simpa [setCell] using h3,?_,by simpa [setCell] using h5⟩
   intro i v hi
   simp only [setCell,List.getElem?_set] at hi
   split at hi
   ·rename_i e
    subst e
    cases hi
    obtain ⟨q1,q2,q3⟩:=h4 j _ hj
    refine ⟨q1,q2,?_⟩
    have hn:∃ A,cvs j=.slice A 0 0∧fps j=[]:=by
     cases q3 with
     | own g hn =>
      generalize cvs j=c1 at g ⊢
      generalize fps j=f1 at g ⊢
      cases g; exact ⟨_,rfl,rfl⟩
     | shr g hn hf =>
      generalize cvs j=c1 at g ⊢
      cases g; exact ⟨_,rfl,hf⟩
    obtain ⟨A,hA,hf⟩:=hn
    rw [hA]
    exact .shr (.sl0 (X8.2 (by simp))) (by simp) hf
   ·exact h4 i v hi
  ·exact ⟨k1,by rw [List.getElem?_append_left (by simpa using hcl),List.getElem?_set_ne (fun x=>e x.symm)]; rw [List.getElem?_append_left hcl] at hk1; exact hk1,hbr⟩
 ·intro x v hx
  rw [hde]
  exact st1.t.get x v hx
 ·refine ⟨by have:=st.e.len; simp; omega,?_,st.e.old,?_,st.e.own,st.e.wsz,st.e.os,st.e.tape,st.e.output,st.e.frame⟩
  ·intro c p hp k1 hk1
   have hcl:=Nat.lt_of_lt_of_le (s0.lt hp) st.e.len
   rw [List.getElem?_append_left (by simpa using hcl)] at hk1
   by_cases e:c=b
   ·subst e; exact st.e.keep _ p hp k hk
   ·rw [List.getElem?_set_ne (fun x=>e x.symm)] at hk1; exact st.e.keep c p hp k1 hk1
  ·intro c hc
   have h1:=st.e.dead c hc
   have hne:b≠c:=by intro e; subst e; rw [hk] at h1; cases h1
   rw [List.getElem?_append_left (by simpa using (qI h1).1),List.getElem?_set_ne hne]; exact h1
end
end Go.Proofs.YtldndhdohlfpgaaGreat.V
/- Regions that draw their order: what may come on either side of what writes or makes. -/
namespace Go.Proofs.YtldndhdohlfpgaaGreat.V
open Go Go.RowKit
section
variable {P:Program} {nw N:Nat} {H0:AH} {K:Asg→AH→Prop} {Q:Go.Exit→Asg→AH→Prop} {a a':Asg} {H H':AH} {l l':List RO} {o:RO} {v:AV}
variable {i n0:Nat} {pls:List Pl} {hs:List (Nat×AH)} {dn:List RDn}
theorem rstill.rx {r:ROp} (h:rx nw r a H=some (v,H)):rstill P nw r a H v:=Hg h ⟨rfl,rfl⟩
theorem rstill.cl {f:R0} {args:List R0} {gid:FuncId} {cap vs:List AV} (hf:rg a f=some (.fn gid cap)) (hv:rgs a args=some vs) (h:A6 P nw gid (vs++cap) H fun v' H'=>v'=v∧H'=H):rstill P nw (.cl f args) a H v:=by
 exact Jm hf hv h
inductive StA (P:Program) (nw:Nat) (o:ROp) (a:Asg) (v:AV) (ps:List Nat):List (Nat×AH)→Prop
 | nil:StA P nw o a v ps []
 | skip {j:Nat} {G:AH} {gs:List (Nat×AH)} (h:ps.any (Nat.beq j)=false) (t:StA P nw o a v ps gs):StA P nw o a v ps ((j,G)::gs)
 | here {j:Nat} {G:AH} {gs:List (Nat×AH)} (h:rstill P nw o a G v) (t:StA P nw o a v ps gs):StA P nw o a v ps ((j,G)::gs)
theorem StA.ok {r:ROp} {ps:List Nat} (h:StA P nw r a v ps hs):rstA P nw r a v hs ps:=by
 have:∀ x∈hs,x.1∈ps→rstill P nw r a x.2 v:=by
  induction h with
  | nil=>simp
  | skip h t ih =>
   intro x hx hp
   rcases List.mem_cons.1 hx with rfl | hx
   ·rw [List.any_eq_false] at h
    exact absurd (Nat.beq_refl _) (h _ hp)
   ·exact ih x hx hp
  | here h t ih =>
   intro x hx hp
   rcases List.mem_cons.1 hx with rfl | hx
   ·exact h
   ·exact ih x hx hp
 cases ps with
 | nil=>trivial
 | cons p ps=>exact this
inductive StB (P:Program) (nw:Nat) (H:AH) (rc:List Nat):List RDn→Prop
 | nil:StB P nw H rc []
 | skip {x:RDn} {ds:List RDn} (h:rc.any (Nat.beq x.j)=false) (t:StB P nw H rc ds):StB P nw H rc (x::ds)
 | here {x:RDn} {ds:List RDn} (h:rstill P nw x.o x.a H x.v) (t:StB P nw H rc ds):StB P nw H rc (x::ds)
theorem StB.ok {rc:List Nat} (h:StB P nw H rc dn):rstB P nw H dn rc:=by
 have:∀ x∈dn,x.j∈rc→rstill P nw x.o x.a H x.v:=by
  induction h with
  | nil=>simp
  | skip h t ih =>
   intro x hx hp
   rcases List.mem_cons.1 hx with rfl | hx
   ·rw [List.any_eq_false] at h
    exact absurd (Nat.beq_refl _) (h _ hp)
   ·exact ih x hx hp
  | here h t ih =>
   intro x hx hp
   rcases List.mem_cons.1 hx with rfl | hx
   ·exact h
   ·exact ih x hx hp
 cases rc with
 | nil=>trivial
 | cons p ps=>exact this
inductive FltH (n0 k:Nat) (z:List AV):List (Nat×AH)→Prop
 | nil:FltH n0 k z []
 | cons {j:Nat} {G:AH} {gs:List (Nat×AH)} (h:G[n0+k]?=some (some ⟨z,0⟩)) (t:FltH n0 k z gs):FltH n0 k z ((j,G)::gs)
theorem FltH.ok {k:Nat} {z:List AV} (h:FltH n0 k z hs):∀ x∈hs,x.2[n0+k]?=some (some ⟨z,0⟩):=by
 induction h with
 | nil=>simp
 | cons h t ih =>
  intro x hx
  rcases List.mem_cons.1 hx with rfl | hx
  ·exact h
  ·exact ih x hx
theorem A0.flt {t k:Nat} {z:List AV} (hH:H[n0+k]?=some (some ⟨z,0⟩)) (hh:FltH n0 k z hs) (h:A0 P nw n0 K (i+1) l pls hs dn ((t,.ptr (n0+k) 0)::a) H):A0 P nw n0 K i (⟨some t,none,.al z⟩::l) (.flt k::pls) hs dn a H:=by
 simp only [A0,rgd]
 exact ⟨hH,hh.ok,h⟩
theorem A0.opA {t:Option Nat} {g:Option (Nat×Bool)} {r:ROp} {ps:List Nat} (hg:rgd a g=some true) (hx:rx nw r a H=some (v,H)) (hA:StA P nw r a v ps hs) (h:A0 P nw n0 K (i+1) l pls hs (⟨i,a,r,v⟩::dn) (puta t v a) H):A0 P nw n0 K i (⟨t,g,r⟩::l) (.val ps::pls) hs dn a H:=by
 simp only [A0,hg]
 exact Hg hx ⟨rfl,hA.ok,h⟩
theorem rstill.lit {r:ROp} {u:AV} (h:V.rx nw r a H=some (v,H')) (hl:Lit H v H' u):rstill P nw r a H u:=A0u h hl ⟨rfl,rfl⟩
theorem A0.litA {t:Option Nat} {g:Option (Nat×Bool)} {r:ROp} {u:AV} {ps:List Nat} (hg:rgd a g=some true) (hx:rx nw r a H=some (v,H')) (hl:Lit H v H' u) (hA:StA P nw r a u ps hs) (h:A0 P nw n0 K (i+1) l pls hs (⟨i,a,r,u⟩::dn) (puta t u a) H):A0 P nw n0 K i (⟨t,g,r⟩::l) (.val ps::pls) hs dn a H:=by
 simp only [A0,hg]
 exact A0u hx hl ⟨rfl,hA.ok,h⟩
theorem Lit.mk {k:ABlk} {n:Nat} (h1:k.cells.length=n*k.es) (h2:k.cells.all datB=true):Lit H (.sl H.length 0 n) (H++[some k]) (.lst false k.es k.cells n):=⟨k,n,rfl,rfl,h1,h2,rfl⟩
theorem A0.callA {t:Option Nat} {g:Option (Nat×Bool)} {f:R0} {args:List R0} {gid:FuncId} {cap vs:List AV} {ps:List Nat} (hg:rgd a g=some true) (hf:rg a f=some (.fn gid cap)) (hv:rgs a args=some vs) (h:A6 P nw gid (vs++cap) H fun v H'=>H'=H∧StA P nw (.cl f args) a v ps hs∧A0 P nw n0 K (i+1) l pls hs (⟨i,a,.cl f args,v⟩::dn) (puta t v a) H):A0 P nw n0 K i (⟨t,g,.cl f args⟩::l) (.val ps::pls) hs dn a H:=by
 simp only [A0,hg]
 refine Jm hf hv ?_
 obtain ⟨h1,v,H',h2,h3,h4,h5⟩:=h
 exact ⟨h1,v,H',h2,h3,h4.ok,h5⟩
theorem A0.chnB {t:Option Nat} {g:Option (Nat×Bool)} {r:ROp} {rc:List Nat} (hg:rgd a g=some true) (hx:rx nw r a H=some (v,H')) (hB:StB P nw H' rc dn) (h:A0 P nw n0 K (i+1) l pls ((i,H)::hs) dn (puta t v a) H'):A0 P nw n0 K i (⟨t,g,r⟩::l) (.chn rc::pls) hs dn a H:=by
 simp only [A0,hg]
 exact Hg hx ⟨hB.ok,h⟩
theorem A0.ccallB {t:Option Nat} {g:Option (Nat×Bool)} {f:R0} {args:List R0} {gid:FuncId} {cap vs:List AV} {rc:List Nat} (hg:rgd a g=some true) (hf:rg a f=some (.fn gid cap)) (hv:rgs a args=some vs) (h:A6 P nw gid (vs++cap) H fun v H'=>StB P nw H' rc dn∧A0 P nw n0 K (i+1) l pls ((i,H)::hs) dn (puta t v a) H'):A0 P nw n0 K i (⟨t,g,.cl f args⟩::l) (.chn rc::pls) hs dn a H:=by
 simp only [A0,hg]
 refine Jm hf hv ?_
 obtain ⟨h1,v,H',h2,h3,h4⟩:=h
 exact ⟨h1,v,H',h2,h3.ok,h4⟩
end
end Go.Proofs.YtldndhdohlfpgaaGreat.V
/- What a call is handed, read as data, is data of the abstract machine. -/
namespace Go.Proofs.YtldndhdohlfpgaaGreat.V
open Go Go.RowKit Go.WideShapes
structure Rd {α:Type} (P:Program) (t:TypeId) (enc:α→List AV) (Wf:α→Prop):Prop where
 read:∀ {H:Type} (e:TypeId×Value→H) (w:World) (fuel:Nat) (cs:List Value) (x:DataW H×List MemPlace),DataW.trod e P w 0 (fun _=>true) true fuel t cs=some x→∃ a:α,LRel w noB (dead []) (enc a) cs∧Wf a
section
variable {P:Program} {t:TypeId}
theorem Rd.int {k:IntKind} (hT:P.underlying t=some (.int k)):Rd P t (fun n:Int=>[.int k n]) (fun n=>(Lit.int k n).wf=true):=by
 refine ⟨?_⟩
 intro H e w fuel cs x h
 cases fuel with
 | zero=>simp [DataW.trod] at h
 | succ fuel =>
  unfold DataW.trod at h
  rw [hT] at h
  simp only at h
  split at h
  all_goals first
   | (exfalso; simp_all; done)
   | skip
  rename_i k1 k' n hk
  cases hk
  split at h
  ·rename_i hc
   obtain ⟨rfl,hw⟩:=hc
   exact ⟨n,.cons .int rfl .nil,hw⟩
  ·cases h
theorem Zo {α β:Type} {f:α→Option β}:∀ {l:List α} {r:List β},l.mapM f=some r→r.length=l.length∧∀ (i:Nat) x y,l[i]?=some x→r[i]?=some y→f x=some y
 | [],r,h=>by simp at h; subst h; simp
 | a::l,r,h=>by
  rw [List.mapM_cons] at h
  simp only [Option.bind_eq_bind,Option.bind_eq_some_iff] at h
  obtain ⟨y,hy,ys,hys,hr⟩:=h
  simp at hr
  subst hr
  obtain ⟨g1,g2⟩:=Zo hys
  refine ⟨by simp [g1],?_⟩
  intro i x z hx hz
  cases i with
  | zero=>simp at hx hz; subst hx hz; exact hy
  | succ i=>exact g2 i x z (by simpa using hx) (by simpa using hz)
theorem A67 {w:World} {A:Addr} {n:Nat} {cs:List Value} (h:w.cells? 0 A n=some cs):cs.length=n∧∀ (i:Nat) v,cs[i]?=some v→w.cell? (A.add i)=some v:=by
 unfold World.cells? at h
 simp only [Nat.zero_le,if_true] at h
 obtain ⟨h1,h2⟩:=Zo h
 simp at h1
 refine ⟨h1,?_⟩
 intro i v hv
 have hi:=(qI hv).1
 exact h2 i i v (List.getElem?_range (by omega)) hv
theorem A5q {w:World} {A:Addr} {v:Value} (h:w.cell? A=some v):A.spot=none:=by
 unfold World.cell? at h
 split at h
 ·split at h
  ·cases h
  ·rename_i hs; simpa using hs
 ·cases h
theorem Rd.slice {α:Type} {e:TypeId} {enc:α→List AV} {Wf:α→Prop} {es:Nat} (hT:P.underlying t=some (.slice e)) (hes:P.cellsOf e=es) (hp:0<es) (hl:∀ a,(enc a).length=es) (q:Rd P e enc Wf) :
  Rd P t (fun l:List α=>[.lst false es (fl enc l) l.length]) (fun l=>l.length≤maxLen∧∀ a∈l,Wf a):=by
 refine ⟨?_⟩
 intro H en w fuel cs x h
 cases fuel with
 | zero=>simp [DataW.trod] at h
 | succ fuel =>
  unfold DataW.trod at h
  rw [hT] at h
  simp only at h
  split at h
  all_goals first
   | (exfalso; simp_all; done)
   | skip
  ·exact ⟨[],.cons .lst0 rfl .nil,⟨Nat.zero_le _,by simp⟩⟩
  ·rename_i e' A len cap he'
   cases he'
   simp only [Nat.zero_le,true_and] at h
   split at h
   ·rename_i hc
    simp only [Option.bind_eq_some_iff,Option.map_eq_some_iff] at h
    obtain ⟨elems,hel,-⟩:=h
    obtain ⟨g1,g2⟩:=Zo hel
    simp at g1
    have key:∀ i,i<len→∃ a:α,(∃ cs,w.cells? 0 (A.add (i*es)) es=some cs∧LRel w noB (dead []) (enc a) cs)∧Wf a:=by
     intro i hi
     have hr:(List.range len)[i]?=some i:=List.getElem?_range hi
     have hy:elems[i]?=some elems[i]:=qG (by omega)
     have:=g2 i i _ hr hy
     rw [hes] at this
     simp only [Option.bind_eq_some_iff] at this
     obtain ⟨cs,hcs,ht⟩:=this
     obtain ⟨a,h1,h2⟩:=q.read en w fuel cs _ ht
     exact ⟨a,⟨cs,hcs,h1⟩,h2⟩
    have hlist:∃ l:List α,l.length=len∧∀ (i:Nat) a,l[i]?=some a→(∃ cs,w.cells? 0 (A.add (i*es)) es=some cs∧LRel w noB (dead []) (enc a) cs)∧Wf a:=by
     clear g2 hel g1 hc
     induction len with
     | zero=>exact ⟨[],rfl,by simp⟩
     | succ n ih =>
      obtain ⟨l,h1,h2⟩:=ih (fun i hi=>key i (by omega))
      obtain ⟨a,ha⟩:=key n (by omega)
      refine ⟨l++[a],by simp [h1],?_⟩
      intro i b hb
      by_cases hi:i<n
      ·rw [List.getElem?_append_left (by omega)] at hb
       exact h2 i b hb
      ·rw [List.getElem?_append_right (by omega)] at hb
       have:i=n:=by
        have:=(qI hb).1
        simp at this; omega
       subst this
       simp [h1] at hb
       subst hb
       exact ha
    obtain ⟨l,hll,hlr⟩:=hlist
    refine ⟨l,.cons ?_ rfl .nil,by rw [hll]; exact Nat.le_trans hc.1 hc.2,fun a ha=>by obtain ⟨i,hi⟩:=List.getElem?_of_mem ha; exact (hlr i a hi).2⟩
    rcases Nat.eq_zero_or_pos l.length with h0 | h0
    ·have:l=[]:=List.eq_nil_of_length_eq_zero h0
     subst this
     simp at hll
     subst hll
     exact .lst0
    ·-- the cells,one by one
     have hcell:∀ (j:Nat) v,(fl enc l)[j]?=some v→∃ cv,w.cell? (A.add j)=some cv∧cv.oneCell'=true∧VRel w noB (dead []) v cv:=by
      intro j v hv
      have hj:j<l.length*es:=by rw [← Fj hl]; exact (qI hv).1
      have hi:j / es<l.length:=(Nat.div_lt_iff_lt_mul hp).2 hj
      have hx:l[j / es]?=some l[j / es]:=qG hi
      obtain ⟨⟨cs,hcs,hlr'⟩,_⟩:=hlr _ _ hx
      have hm:j%es<es:=Nat.mod_lt _ hp
      have e1:j / es*es+j%es=j:=by rw [Nat.mul_comm]; exact Nat.div_add_mod j es
      have h2:=A4g (j:=j%es) hl hx hm
      rw [e1,hv] at h2
      obtain ⟨c1,c2⟩:=A67 hcs
      have hcv:cs[j%es]?=some (cs[j%es]'(by omega)):=qG (by omega)
      refine ⟨_,?_,hlr'.one _ (qM hcv),hlr'.rel _ _ _ h2.symm hcv⟩
      have:=c2 _ _ hcv
      rw [← this]
      congr 1
      unfold Addr.add
      by_cases z1:j / es*es=0
      ·have:j=j%es:=by omega
       simp [z1,← this]
      ·by_cases z2:j%es=0
       ·have:j=j / es*es:=by omega
        simp [z2,← this]
       ·have:j≠0:=by omega
        simp [z1,z2,this]
        omega
     have hfl:0<(fl enc l).length:=by rw [Fj hl]; exact Nat.mul_pos h0 hp
     obtain ⟨cv0,hc0,_⟩:=hcell 0 _ (qG hfl)
     have hA0:A.add 0=A:=by simp [Addr.add]
     rw [hA0] at hc0
     have hsp:=A5q hc0
     have hB:A.block<w.heap.size:=World.block_lt_of_cell? w A hc0
     have hAeq:A=⟨A.block,A.off,none⟩:=by cases A; simp_all
     rw [hAeq,hll.symm]
     refine .lst (Fj hl l) (by rw [hll]; exact hc.1) (fun i=>(w.cell? ⟨A.block,A.off+i,none⟩).getD undef) hB (fun b p hp=>by cases hp) ?_ ?_
     ·intro i v hv
      obtain ⟨cv,q1,q2,_⟩:=hcell i v hv
      rw [hAeq,addAddr] at q1
      simp only [q1,Option.getD_some]
      exact ⟨trivial,q2⟩
     ·intro i v hv
      obtain ⟨cv,q1,_,q3⟩:=hcell i v hv
      rw [hAeq,addAddr] at q1
      simp only [q1,Option.getD_some]
      exact q3
   ·cases h
theorem A6x {w:World} {r:Reach} {b:Nat} {v:Value} (h:Value.okWide P w r b t v) (hu:(match P.underlying t with | some (.struct _) | some (.array _ _)=>false | _=>true)=true):v.cells=#[v]:=by
 have:∀ cs,v≠.agg cs:=by
  rintro cs rfl
  unfold Value.okWide at h
  split at h
  ·rename_i hq; rw [hq] at hu; cases hu
  ·rename_i hq; rw [hq] at hu; cases hu
  ·unfold Cell.okWide at h
   split at h
   all_goals first
    | (rename_i q1 q2; cases q2; done)
    | skip
   unfold Cell.ok at h
   split at h
   all_goals first
    | (rename_i q1 q2; cases q2; done)
    | exact h
 cases v <;> first | rfl | (exact absurd rfl (this _))
theorem Rd.arg1 {α:Type} {enc1:α→AV} {Wf:α→Prop} (q:Rd P t (fun a=>[enc1 a]) Wf) {H:Type} {e:TypeId×Value→H} {w:World} {r:Reach} {b:Nat} {v:Value} {d:DataW H} {ps:List MemPlace} (hv:Value.okWide P w r b t v) (hu:(match P.underlying t with | some (.struct _) | some (.array _ _)=>false | _=>true)=true) (h:DataW.Trod e P w 0 (fun _=>true) true t v d ps) :
  ∃ a:α,VRel w noB (dead []) (enc1 a) v∧Wf a:=by
 obtain ⟨fuel,hf⟩:=h
 obtain ⟨a,h1,h2⟩:=q.read e w fuel _ _ hf
 rw [A6x hv hu] at h1
 exact ⟨a,h1.rel 0 _ _ rfl rfl,h2⟩
theorem A6b {f:FuncId} {ds:List AV} (h:A7 P f ds (.bool true)) {w:World} {cargs:Array Value} (ha:F2 (fun v cv=>VRel w noB (dead []) v cv) ds cargs.toList):Calls P f cargs w fun e w'=>e=.returned (.bool true)∧Below w.heap.size w w':=by
 refine (h w cargs ha).mono ?_
 rintro e w' ⟨cv,fp,rfl,hb,hf,_⟩
 cases hf
 exact ⟨rfl,hb⟩
end
end Go.Proofs.YtldndhdohlfpgaaGreat.V
/- Calls that are handed own blocks: only read, or written too. -/
namespace Go.Proofs.YtldndhdohlfpgaaGreat.V
open Go Go.RowKit
inductive Scl:AV→Prop
 | int {k n}:Scl (.int k n)
 | bool {b}:Scl (.bool b)
 | str {s}:Scl (.str s)
 | agg {vs} (h:∀ v∈vs,Scl v):Scl (.agg vs)
 | tup {vs} (h:∀ v∈vs,Scl v):Scl (.tup vs)
theorem Scl.rel {w w':World} {β β':Bm} {dd dd':Nat→Option Bool} {v:AV} (h:Scl v):∀ {cv:Value},VRel w β dd v cv→VRel w' β' dd' v cv:=by
 induction h with
 | int=>intro cv hv; cases hv; exact .int
 | bool=>intro cv hv; cases hv; exact .bool
 | str=>intro cv hv; cases hv; exact .str
 | agg _ ih =>
  intro cv hv
  cases hv with
  | agg hs hr h1=>exact .agg hs (fun i v cv hv hc=>ih v (qM hv) (hr i v cv hv hc)) h1
 | tup _ ih =>
  intro cv hv
  cases hv with
  | tup hs hr=>exact .tup hs (fun i v cv hv hc=>ih v (qM hv) (hr i v cv hv hc))
theorem RnL.relL {w:World} {β:Bm} {H H':AH} {ns:List Nat} (hb:RnB ns H H') {l l':List AV} (h:RnL ns l l'):∀ {m:List Value},F2 (fun v cv=>VRel w β (dead H) v cv) l m→F2 (fun v cv=>VRel w (renB ns β) (dead H') v cv) l' m:=by
 induction h with
 | nil=>intro m h2; cases h2; exact .nil
 | cons h t ih=>intro m h2; cases h2 with | cons h' t'=>exact .cons (VRel.rn hb h h') (ih t')
section
variable {P:Program} {nw:Nat} {f:FuncId} {args args':List AV} {H H' Hc Hc':AH} {r:AV} {K:AV→AH→Prop}
theorem A6.embR {n:Nat} (ns:List Nat) (hok:okF P f=true) (h:C5 P n f args' Hc r Hc) (hb:RnBs ns H ns Hc) (hn:nodupB ns=true) (hl:Nat.ble Hc.length n=true) (hargs:RnL ns args args') (hr:Scl r) (hk:K r H):A6 P nw f args H K:=by
 refine ⟨hok,r,H,?_,hk⟩
 intro base β w cargs s hb' hrel
 have s1:=s.ren ns (Fk hn) hb.spec
 refine (h base (renB ns β) w cargs s1 hb' (hargs.relL hb.spec hrel)).mono ?_
 rintro e w' ⟨cv,β1,rfl,s2,hv,e1⟩
 have hbel:Below w.heap.size w w':=⟨e1.os,e1.tape,e1.output,e1.wsz,fun k hk=>e1.frame k hk (by
  intro i p hi hp
  have:=s1.lt hp
  have:=Nat.le_of_ble_eq_true hl
  omega)⟩
 exact ⟨cv,β,rfl,s.below hbel,hr.rel hv,Jo s hbel⟩
def putKs:AH→List Nat→AH→AH
 | H,b::ns,k::Hc=>putKs (H.set b k) ns Hc
 | H,_,_=>H
inductive EmB (H:AH):List Nat→List ABlk→List ABlk→Prop
 | nil:EmB H [] [] []
 | cons {b ns k k' ks ks'} (hb:H[b]?=some (some k)) (h:∀ v∈k.cells,RefLt 0 v) (h':∀ v∈k'.cells,Own v) (t:EmB H ns ks ks'):EmB H (b::ns) (k::ks) (k'::ks')
theorem EmB.len {H:AH} {ns:List Nat} {ks ks':List ABlk} (h:EmB H ns ks ks'):ks.length=ns.length∧ks'.length=ns.length:=by
 induction h with
 | nil=>exact ⟨rfl,rfl⟩
 | cons _ _ _ _ ih=>simp [ih.1,ih.2]
theorem EmB.at {H:AH} {ns:List Nat} {ks ks':List ABlk} (h:EmB H ns ks ks'):∀ (i b:Nat),ns[i]?=some b→H[b]?=some (ks[i]?):=by
 induction h with
 | nil=>intro i b h; simp at h
 | cons hb _ _ _ ih =>
  intro i b hi
  cases i with
  | zero=>simp at hi; subst hi; simpa using hb
  | succ i=>simpa using ih i b (by simpa using hi)
theorem EmB.bf {H:AH} {ns:List Nat} {ks ks':List ABlk} (h:EmB H ns ks ks'):(∀ k∈ks,∀ v∈k.cells,RefLt 0 v)∧∀ k∈ks',∀ v∈k.cells,Own v:=by
 induction h with
 | nil=>simp
 | cons hb h h' _ ih =>
  refine ⟨?_,?_⟩
  ·intro k hk; rcases List.mem_cons.1 hk with rfl | hk
   ·exact h
   ·exact ih.1 k hk
  ·intro k hk; rcases List.mem_cons.1 hk with rfl | hk
   ·exact h'
   ·exact ih.2 k hk
theorem Fi:∀ (ns:List Nat) (Hc:AH) (H:AH),(putKs H ns Hc).length=H.length
 | [],_,H=>by simp [putKs]
 | b::ns,[],H=>by simp [putKs]
 | b::ns,k::Hc,H=>by simp [putKs,Fi ns Hc]
theorem Mf:∀ (ns:List Nat) (Hc:AH) (H:AH) (b:Nat),b ∉ ns→(putKs H ns Hc)[b]?=H[b]?
 | [],_,H,b,_=>by simp [putKs]
 | c::ns,[],H,b,_=>by simp [putKs]
 | c::ns,k::Hc,H,b,hb=>by
  simp only [List.mem_cons,not_or] at hb
  rw [putKs,Mf ns Hc _ b hb.2,List.getElem?_set_ne (fun e=>hb.1 e.symm)]
theorem Xv:∀ (ns:List Nat) (Hc:AH) (H:AH),ns.Nodup→Hc.length=ns.length→(∀ b∈ns,b<H.length)→∀ (i b:Nat),ns[i]?=some b→(putKs H ns Hc)[b]?=Hc[i]?
 | [],_,_,_,_,_,i,b,h=>by simp at h
 | c::ns,[],H,_,hl,_,i,b,_=>by simp at hl
 | c::ns,k::Hc,H,hnd,hl,hlt,i,b,h=>by
  have hnd':=List.nodup_cons.1 hnd
  cases i with
  | zero =>
   simp at h; subst h
   rw [putKs,Mf ns Hc _ c hnd'.1]
   simp [hlt c (by simp)]
  | succ i =>
   rw [putKs,Xv ns Hc _ hnd'.2 (by simpa using hl) (fun b hb=>by simpa using hlt b (by simp [hb])) i b (by simpa using h)]
   simp
theorem A6.embW {r0:AV} (ks ks':List ABlk) (ns:List Nat) (hok:okF P f=true) (h:C5 P 0 f args' (ks.map some) r (ks'.map some)) (hb:EmB H ns ks ks') (hn:nodupB ns=true) (hargs:RnL ns args args') (hr:Scal r) (hH:putKs H ns (ks'.map some)=H') (hrr:r=r0) (hk:K r0 H'):A6 P 0 f args H K:=by
 subst hH hrr
 have hnd:=Fk hn
 have hlt:∀ b∈ns,b<H.length:=by
  intro b hm
  obtain ⟨i,hi⟩:=List.getElem?_of_mem hm
  exact (qI (hb.at i b hi)).1
 refine ⟨hok,r,_,C5.embed ns h hnd hb.len.1 hb.len.2 (fun i b hi=>⟨Nat.zero_le _,hb.at i b hi⟩) hb.bf.1 hb.bf.2 ?_ hr (Fi _ _ _) ?_ (fun b hb'=>Mf _ _ _ b hb'),hk⟩
 ·clear h hk
  induction hargs with
  | nil=>exact .nil
  | cons h t ih=>exact .cons h ih
 ·intro i b hi
  rw [Xv ns _ H hnd (by simp [hb.len.2]) hlt i b hi]
  have hi':=(qI hi).1
  rw [List.getElem?_map,qG (by rw [hb.len.2]; exact hi')]
  rfl
end
theorem DF.fn {H:AH} {f:FuncId}:DF H (.fn f []) (.fn f []):=⟨_,.dat .fn,.refl⟩
section
variable {P:Program} {f:FuncId} {N nw:Nat} {rc:RC} {rr:List RR} {a:Asg} {H0 H H':AH} {v:AV}
def RRetS (N nw:Nat) (H0:AH) (rr:List RR) (v:AV) (H':AH) (e:Go.Exit) (a:Asg) (H:AH):Prop :=
 (e=.normal∨e=.ret)∧rares a H rr=some v∧Scl v∧Gh nw N H0 a H [] H'
theorem RRetS.mk (hv:rares a H rr=some v) (hs:Scl v) (g:Gh nw N H0 a H [] H'):RRetS N nw H0 rr v H' .ret a H:=⟨.inr rfl,hv,hs,g⟩
theorem C5.of_s {args:List AV} (k:FnOk P f N rc rr) (hn:Nat.ble args.length N=true) (h:RW P N nw H rc (RRetS N nw H rr v H') (start 0 args) H):C5 P nw f args H v H':=by
 obtain ⟨fn,c,hints,hf,hb,rfl,h4,h5,h6⟩:=k
 have h:=h c ⟨h6,hints,h4⟩
 intro base β w cargs s hb' hargs
 refine calls_of_wp hf hb ?_
 have st:St base fn.ntmps nw β H w (start 0 args) H β { tmps:=cargs++Array.replicate (fn.ntmps - cargs.size) undef,defers:=[] } w :=
  ⟨s,Ub hargs (Nat.le_of_ble_eq_true hn),Ext.refl nw β H w (fun b p hp=>s.lt hp),hb'⟩
 refine wp_mono (h _ _ _ s _ _ _ st) ?_
 rintro e ca' w' ⟨a1,H1,β1,⟨he,hv,hs,hg⟩,st1⟩
 have hR:ca'.defers=[]∧∃ v',(results fn ca'.tmps).run P w'=.ok v' w'∧∃ cv β',Ending.returned v'=.returned cv∧SRel base β' H' w'∧VRel w' β' (dead H') v cv∧Ext nw β H w β' H' w':=by
  obtain ⟨cv,h1,h2⟩:=Zt st1.s st1.t ((Zb h5).trans hv)
  obtain ⟨β',st'⟩:=hg _ _ _ _ _ _ s st1
  exact ⟨st1.t.defers,cv,h1,cv,β',rfl,st'.s,hs.rel h2,st'.e⟩
 rcases he with rfl | rfl <;> exact hR
end
end Go.Proofs.YtldndhdohlfpgaaGreat.V
/- Lists whose records own memory: one of them lies open for a while. -/
namespace Go.Proofs.YtldndhdohlfpgaaGreat.V
open Go Go.RowKit
inductive NL:List AV→List AV→Prop
 | nil:NL [] []
 | same {v vs us} (t:NL vs us):NL (v::vs) (v::us)
 | nils {es vs us} (t:NL vs us):NL (.nils::vs) (.lst true es [] 0::us)
theorem NL.spec {vs us:List AV} (h:NL vs us):vs.length=us.length∧∀ (i:Nat) v u,vs[i]?=some v→us[i]?=some u→u=v∨(v=.nils∧∃ es,u=.lst true es [] 0):=by
 induction h with
 | nil=>exact ⟨rfl,by simp⟩
 | same t ih =>
  refine ⟨by simp [ih.1],?_⟩
  intro i v u hv hu
  cases i with
  | zero=>simp at hv hu; subst hv hu; exact .inl rfl
  | succ i=>exact ih.2 i v u (by simpa using hv) (by simpa using hu)
 | nils t ih =>
  refine ⟨by simp [ih.1],?_⟩
  intro i v u hv hu
  cases i with
  | zero=>simp at hv hu; subst hv hu; exact .inr ⟨rfl,_,rfl⟩
  | succ i=>exact ih.2 i v u (by simpa using hv) (by simpa using hu)
theorem NL.refl:∀ {vs:List AV},NL vs vs
 | []=>.nil
 | _::_=>.same NL.refl
theorem NL.append {a b c d:List AV} (h:NL a b) (h':NL c d):NL (a++c) (b++d):=by
 induction h with
 | nil=>exact h'
 | same t ih=>exact .same ih
 | nils t ih=>exact .nils ih
section
variable {P:Program} {nw N:Nat} {H0:AH} {a:Asg} {H:AH}
theorem Gh.own0 {b es:Nat} {c c':List AV} (hk:H[b]?=some (some ⟨c,es⟩)) (h:NL c c'):Gh nw N H0 a H a (H.set b (some ⟨c',es⟩)):=by
 intro base β0 w0 β ca w s0 st
 have hbl:b<H.length:=(qI hk).1
 have hde:dead (H.set b (some ⟨c',es⟩))=dead H:=by
  funext x
  unfold dead
  by_cases e:b=x
  ·subst e; rw [hk]; simp [hbl]
  ·rw [List.getElem?_set_ne e]
 refine ⟨β,⟨?_,st.s.nodup,st.s.ge,st.s.disj⟩,⟨st.t.defers,st.t.size,?_⟩,?_,st.b⟩
 ·intro x p hp
  obtain ⟨k1,hk1,hbr⟩:=st.s.blk x p hp
  rw [hde]
  by_cases e:x=b
  ·subst e
   rw [hk] at hk1
   cases hk1
   refine ⟨⟨c',es⟩,by simp [hbl],?_⟩
   obtain ⟨h0,cc,T,cvs,fps,h1,h2,h3,h4,h5⟩:=hbr
   refine ⟨h0,cc,T,cvs,fps,h1,h2,by simpa [← h.spec.1] using h3,?_,by simpa [← h.spec.1] using h5⟩
   intro i u hu
   have hu':c'[i]?=some u:=hu
   have hi:i<c.length:=by rw [h.spec.1]; exact (qI hu').1
   have hv:c[i]?=some c[i]:=qG hi
   obtain ⟨q1,q2,q3⟩:=h4 i c[i] hv
   refine ⟨q1,q2,?_⟩
   rcases h.spec.2 i _ _ hv hu' with e | ⟨e,es',e'⟩
   ·rw [e]; exact q3
   ·rw [e] at q3
    subst e'
    have hn:∃ A,cvs i=.slice A 0 0∧fps i=[]:=by
     cases q3 with
     | own g hn =>
      generalize cvs i=c1 at g ⊢
      generalize fps i=f1 at g ⊢
      cases g; exact ⟨_,rfl,rfl⟩
     | shr g hn hf =>
      generalize cvs i=c1 at g ⊢
      cases g; exact ⟨_,rfl,hf⟩
    obtain ⟨A,hA,hf⟩:=hn
    rw [hA,hf]
    exact .own .lst0 (by simp)
  ·exact ⟨k1,by rw [List.getElem?_set_ne (fun q=>e q.symm)]; exact hk1,hbr⟩
 ·intro x v hx
  rw [hde]
  exact st.t.get x v hx
 ·refine ⟨by have:=st.e.len; simp; omega,?_,st.e.old,?_,st.e.own,st.e.wsz,st.e.os,st.e.tape,st.e.output,st.e.frame⟩
  ·intro x p hp k1 hk1
   by_cases e:x=b
   ·subst e; exact st.e.keep _ p hp _ hk
   ·rw [List.getElem?_set_ne (fun q=>e q.symm)] at hk1; exact st.e.keep x p hp k1 hk1
  ·intro x hx
   have h1:=st.e.dead x hx
   have hne:b≠x:=by intro e; subst e; rw [hk] at h1; cases h1
   rw [List.getElem?_set_ne hne]; exact h1
theorem Gh.absorb_raw {b j m es n es0:Nat} {pre vs post cells:List AV} (hk:H[b]?=some (some ⟨pre++(vs++post),es0⟩)) (hj:vs[j]?=some (.sl m 0 n)) (hm:H[m]?=some (some ⟨cells,es⟩)) (hbm:b≠m) (hnw:nw≤m) (hlen:cells.length=n*es) (ho:∀ v∈cells,Own v) :
  Gh nw N H0 a H a ((H.set b (some ⟨pre++(vs.set j (.lst true es cells n)++post),es0⟩)).set m none):=by
 have hjl:=(qI hj).1
 have h:=Gh.absorb (N:=N) (H0:=H0) (a:=a) (j:=pre.length+j) hk (by
  show (pre++(vs++post))[pre.length+j]?=_
  rw [List.getElem?_append_right (by omega),Nat.add_sub_cancel_left,List.getElem?_append_left hjl]; exact hj) hm hbm hnw hlen ho
 have e:setCell ⟨pre++(vs++post),es0⟩ (pre.length+j) (.lst true es cells n)=⟨pre++(vs.set j (.lst true es cells n)++post),es0⟩:=by
  unfold setCell
  dsimp only
  rw [List.set_append_right _ _ (by omega),Nat.add_sub_cancel_left,List.set_append_left _ _ hjl]
 rw [e] at h
 exact h
theorem Gh.expose_raw {b j es n es0:Nat} {pre vs post cells:List AV} (hk:H[b]?=some (some ⟨pre++(vs++post),es0⟩)) (hj:vs[j]?=some (.lst true es cells n)) (hnw:nw≤b) (ho:∀ v∈cells,Own v) :
  Gh nw N H0 a H a (H.set b (some ⟨pre++(vs.set j (.sl H.length 0 n)++post),es0⟩)++[some ⟨cells,es⟩]):=by
 have hjl:=(qI hj).1
 have h:=Gh.expose (N:=N) (H0:=H0) (a:=a) (j:=pre.length+j) hk (by
  show (pre++(vs++post))[pre.length+j]?=_
  rw [List.getElem?_append_right (by omega),Nat.add_sub_cancel_left,List.getElem?_append_left hjl]; exact hj) hnw ho
 have e:setCell ⟨pre++(vs++post),es0⟩ (pre.length+j) (.sl H.length 0 n)=⟨pre++(vs.set j (.sl H.length 0 n)++post),es0⟩:=by
  unfold setCell
  dsimp only
  rw [List.set_append_right _ _ (by omega),Nat.add_sub_cancel_left,List.set_append_left _ _ hjl]
 rw [e] at h
 exact h
theorem Gh.blk {b es:Nat} {c c':List AV} (hk:H[b]?=some (some ⟨c,es⟩)) (e:c=c'):Gh nw N H0 a H a (H.set b (some ⟨c',es⟩)):=by
 subst e
 have:H.set b (some ⟨c,es⟩)=H:=by
  apply List.ext_getElem?
  intro i
  by_cases h:b=i
  ·subst h; rw [hk]; simp [(qI hk).1]
  ·rw [List.getElem?_set_ne h]
 rw [this]
 exact Gh.asg fun _ _ h=>h
end
section
variable {α:Type} {enc:Bool→α→List AV} {es:Nat}
theorem A5m (_:EncOk enc es) {l l':List α} {i:Int} {x x':α} {vs:List AV} (h:at? l i=some x) (hl:some (set' l i x')=some l') (hv:vs=enc true x'):fl (enc true) (l.take i.toNat)++(vs++fl (enc true) (l.drop (i.toNat+1)))=fl (enc true) l':=by
 cases hl
 subst hv
 have h2:=(at?_some h).2
 have hi:=(qI h2).1
 unfold set'
 rw [List.set_eq_take_append_cons_drop,if_pos hi,Jn,Ev]
theorem Gf (_:EncOk enc es) {l:List α} {i:Int} {x:α} (h:at? l i=some x):fl (enc true) l=fl (enc true) (l.take i.toNat)++(enc true x++fl (enc true) (l.drop (i.toNat+1))):=by
 have h2:=(at?_some h).2
 obtain ⟨hi,rfl⟩:=qI h2
 conv=>lhs; rw [← List.take_append_drop i.toNat l,List.drop_eq_getElem_cons hi,Jn,Ev]
theorem Xd {byt:Nat} {l r:List α} {x:α} {vs:List AV} (h:app? byt l [x]=some r) (hv:vs=enc true x):fl (enc true) l++(vs++[])=fl (enc true) r:=by
 unfold app? at h
 split at h
 ·cases h; subst hv; rw [Jn,Ev,A9t]
 ·cases h
end
section
variable {α:Type} {enc:Bool→α→List AV} {es:Nat} {a:Asg} {H:AH} {nw:Nat}
theorem A4c {A B C vs:List AV} {o:Nat} (h:o+vs.length≤B.length):splice (A++(B++C)) (A.length+o) vs=A++(splice B o vs++C):=by
 unfold splice
 rw [List.take_append,List.take_of_length_le (by omega),Nat.add_sub_cancel_left,List.drop_append,List.drop_eq_nil_of_le (by omega),List.nil_append]
 have:A.length+o+vs.length - A.length=o+vs.length:=by omega
 rw [this,List.take_append_of_le_length (by omega),List.drop_append_of_le_length (by omega)]
 simp [List.append_assoc]
theorem A2z {x y:R0} {l:List α} {e:α} {n:Int} {v:AV} {off off' sz b es':Nat} (q:EncOk enc es) (h:at? l n=some e) (hx:rg a x=some (.ptr b off)) (hy:rg a y=some v) (hb:H[b]?=some (some ⟨fl (enc true) l,es'⟩)) (ho:off=n.toNat*es+off') (hnw:Nat.ble nw b=true) (h1:(v.one||v.isAgg)=true) (hsz:v.cells.length=sz) (hlt:Nat.ble (off'+sz) es=true) :
  rx nw (.st sz x y) a H=some (.und,H.set b (some ⟨fl (enc true) (l.take n.toNat)++(splice (enc true e) off' (v.cells.map AV.strip)++fl (enc true) (l.drop (n.toNat+1))),es'⟩)):=by
 have h2:=(at?_some h).2
 have hi:=(qI h2).1
 have hle:=Nat.le_of_ble_eq_true hlt
 have hm:(v.cells.map AV.strip).length=sz:=by simpa using hsz
 have hp:(fl (enc true) (l.take n.toNat)).length=n.toNat*es:=by rw [q.flen,List.length_take]; congr 1; omega
 have e1:splice (fl (enc true) l) off (v.cells.map AV.strip)=fl (enc true) (l.take n.toNat)++(splice (enc true e) off' (v.cells.map AV.strip)++fl (enc true) (l.drop (n.toNat+1))):=by
  rw [Gf q h,ho,← hp]
  exact A4c (by rw [hm,q.len]; exact hle)
 rw [← e1]
 subst ho
 have h3:(fl (enc true) l).length=l.length*es:=q.flen true l
 have h4:n.toNat*es+es≤l.length*es:=by rw [← Nat.succ_mul]; exact Nat.mul_le_mul_right _ hi
 simp only [rx,hx,hy,rst,hb]
 rw [if_pos ⟨Nat.le_of_ble_eq_true hnw,h1,hsz,by omega⟩]
 rfl
theorem Th (q:EncOk enc es) {byt b:Nat} {l r:List α} {x:α} {xv:AV} {xs:List AV} (hb:H[b]?=some (some ⟨fl (enc true) l,es⟩)) (hnw:Nat.ble nw b=true) (hx:acont H es xv=some (1,xs)) (h:app? byt l [x]=some r) :
  rapp nw H es byt (.sl b 0 l.length) xv=some (.sl H.length 0 r.length,H.set b none++[some ⟨fl (enc true) l++(xs.map AV.strip++[]),es⟩]):=by
 unfold app? at h
 split at h
 ·rename_i hc
  cases h
  have hl:=q.flen true l
  simp only [List.length_singleton] at hc
  simp only [rapp,abase,hb]
  rw [if_pos ⟨Nat.le_of_ble_eq_true hnw,trivial,hl⟩]
  simp only [hx]
  rw [if_pos hc,List.append_nil,List.length_append]
  rfl
 ·cases h
end
section
variable {nw N:Nat} {H0:AH} {a:Asg} {H:AH}
theorem Gh.absorb_rawq {b j m es n n' es0:Nat} {pre vs post cells:List AV} (hk:H[b]?=some (some ⟨pre++(vs++post),es0⟩)) (hj:vs[j]?=some (.sl m 0 n)) (hm:H[m]?=some (some ⟨cells,es⟩)) (hbm:b≠m) (hnw:nw≤m) (hn:n=n') (hlen:cells.length=n'*es) (ho:∀ v∈cells,Own v) :
  Gh nw N H0 a H a ((H.set b (some ⟨pre++(vs.set j (.lst true es cells n')++post),es0⟩)).set m none):=by
 subst hn
 exact Gh.absorb_raw hk hj hm hbm hnw hlen ho
end
end Go.Proofs.YtldndhdohlfpgaaGreat.V
/- Parts of own lists that are handed back. -/
namespace Go.Proofs.YtldndhdohlfpgaaGreat.V
open Go Go.RowKit
section
variable {α:Type} {enc:Bool→α→List AV} {es:Nat} {a:Asg} {H:AH} {nw:Nat}
theorem A77 {x:R0} {l r:List α} {b n es':Nat} {lo hi:Option R0} {lo' hi':Option AV} {i j:Int} (hx:rg a x=some (.sl b 0 n)) (hk:liveB H b=true) (hn:n=l.length) (h1:rgo a lo=some lo') (h2:rgo a hi=some hi') (hb:(0≤i∧i≤j∧j≤(l.length:Int))→abnd l.length lo' hi'=some (i.toNat,j.toNat)) (h:sub? l i j=some r):rx nw (.sle es' x lo hi) a H=some (.sl b (i.toNat*es') r.length,H):=by
 subst hn
 obtain ⟨hc,rfl⟩:=sub?_some h
 simp only [rx,hx,h1,h2,rsle,hk,if_true,hb hc,Option.map_some,ral,Nat.zero_add,List.length_drop,List.length_take]
 congr 3
 omega
theorem OutR.viewq (q:FlatOk enc es) {l r:List α} {b:Nat} {i j:Int} (hb:H[b]?=some (some ⟨fl (enc true) l,es⟩)) (h:sub? l i j=some r):OutR H (.sl b (i.toNat*es) r.length) (.lst false es (fl (enc false) r) r.length) [b]:=by
 obtain ⟨hc,rfl⟩:=sub?_some h
 have hl:(fl (enc true) l).length=l.length*es:=q.flen true l
 have hm:i.toNat*es+((l.take j.toNat).drop i.toNat).length*es≤(fl (enc true) l).length:=by
  rw [hl,← Nat.add_mul]
  refine Nat.mul_le_mul_right _ ?_
  simp only [List.length_drop,List.length_take]
  omega
 refine .slv hb rfl hm (q.fown l) ?_
 rw [← q.fsame,← Rv (q.len true),← Xe (q.len true),List.drop_take]
 congr 1
 rw [← Nat.sub_mul]
 congr 1
 simp only [List.length_drop,List.length_take]
 omega
end
end Go.Proofs.YtldndhdohlfpgaaGreat.V
/- slices.Clone of what holds no memory. -/
namespace Go.Proofs.YtldndhdohlfpgaaGreat.V
open Go Go.RowKit
set_option maxRecDepth 100000
def rcClone (es byt:Nat):RC :=
 (.seq (.reg [⟨(some 2),none,.mv (.c (.nils))⟩])
 (.seq (.seq (.reg [⟨(some 3),none,.mv (.t 0)⟩,
  ⟨(some 4),none,.isn false (.t 3)⟩])
 (.cond (.t 4)
  (.seq (.reg [⟨(some 2),none,.mv (.c (.nils))⟩])
  .ret)
  .skip))
 (.seq (.reg [⟨(some 5),none,.mv (.c (.nils))⟩,
  ⟨(some 6),none,.mv (.t 0)⟩,
  ⟨(some 7),none,.app es byt (.t 5) (.t 6)⟩,
  ⟨(some 2),none,.mv (.t 7)⟩])
 .ret)))
theorem A0p {α:Type} {enc:Bool→α→List AV} {es byt:Nat} (q:FlatOk enc es) {P:Program} {f:FuncId} {N:Nat} (k:FnOk P f N (rcClone es byt) [.t 2]) {x r:List α} (hN:Nat.ble 1 N=true) (hF:app? byt [] x=some r):A7 P f [.lst false es (fl (enc false) x) x.length] (.lst true es (fl (enc true) r) r.length):=by
 refine A7.of_r k hN ?_
 refine RW.sreg ?_
 refine rl.run 1 rfl ?_
 refine rl.done ?_
 refine RW.seq ?_
 refine RW.sreg ?_
 refine rl.run 1 rfl ?_
 refine rl.isn rfl fun b hb=>?_
 refine rl.done ?_
 cases b
 ·refine RW.cond_f rfl ?_
  refine RW.skip ?_
  refine RW.sreg ?_
  refine rl.run 2 rfl ?_
  refine rl.op (Ar rfl rfl (Ln (m:=x) (o:=true) q.toEncOk Fm rfl (q.fst _ _) hF)) ?_
  refine rl.run 1 rfl ?_
  refine rl.done ?_
  refine RW.ret ?_
  exact RRet.mk rfl (OutR.ownq q.toEncOk rfl rfl) (by simp)
 ·have hx:x=[]:=List.eq_nil_of_length_eq_zero (hb rfl)
  subst hx
  have hr:r=[]:=by
   unfold app? at hF
   split at hF
   ·cases hF; rfl
   ·cases hF
  subst hr
  refine RW.cond_t rfl ?_
  refine RW.sreg ?_
  refine rl.run 1 rfl ?_
  refine rl.done ?_
  refine RW.ret ?_
  exact RRet.mk rfl .nils (by simp)
end Go.Proofs.YtldndhdohlfpgaaGreat.V
/- Lists of numbers that are sorted in place, and cut to one of each; texts that are repeated. -/
namespace Go.Proofs.YtldndhdohlfpgaaGreat.V
open Go Go.RowKit
section
variable {base nw:Nat} {β:Bm} {H:AH} {w w':World} {b:Nat} {p:Loc} {es:Nat} {cells cells':List AV} {c':Array Value} {T:TypeId}
end
section
variable {P:Program} {f:FuncId} {nw b:Nat} {H H':AH} {K:AV→AH→Prop} {xs ys r:List Int}
end
theorem Gh.absorbq {nw N:Nat} {H0:AH} {a:Asg} {H:AH} {b j m es n n':Nat} {k:ABlk} {cells:List AV} (hk:H[b]?=some (some k)) (hj:k.cells[j]?=some (.sl m 0 n)) (hm:H[m]?=some (some ⟨cells,es⟩)) (hbm:b≠m) (hnw:nw≤m) (hn:n=n') (hlen:cells.length=n'*es) (ho:∀ v∈cells,Own v) :
  Gh nw N H0 a H a ((H.set b (some (setCell k j (.lst true es cells n')))).set m none):=by
 subst hn
 exact Gh.absorb hk hj hm hbm hnw hlen ho
section
variable {P:Program} {nw:Nat} {f:FuncId} {args ds:List AV} {H:AH} {r r':AV} {K:AV→AH→Prop}
end
end Go.Proofs.YtldndhdohlfpgaaGreat.V
/- Calls that hand back new own blocks; views that are pinned. -/
namespace Go.Proofs.YtldndhdohlfpgaaGreat.V
open Go Go.RowKit
abbrev L_I (l:List Int):AV:=.lst false 1 (fl (encI false) l) l.length
abbrev L_B (l:List Int):AV:=.lst false 1 (fl (encB false) l) l.length
abbrev L_S (l:List (List UInt8)):AV:=.lst false 1 (fl (encS false) l) l.length
abbrev pvB (B o:Nat) (l:List Int):AV:=.pv B o 1 (fl (encB false) l) l.length
theorem scalB {l:List Int}:∀ u∈fl (encB false) l,Scal u:=by
 intro u hu
 obtain ⟨x,_,h⟩:=Zc hu
 simp only [encB,List.mem_singleton] at h
 subst h; exact .int
section
variable {α:Type} {enc:Bool→α→List AV} {es:Nat} {a:Asg} {H:AH} {nw:Nat} {x i:R0} {o:Bool} {l:List α} {e:α} {k:IntKind} {n:Int}
theorem A8w {B off es' nn:Nat} (hx:rg a x=some (.pv B off es' (fl (enc o) l) nn)) (hi:rg a i=some (.int k n)) (hn:nn=l.length) (h:at? l n=some e):rx nw (.ia es x i) a H=some (.el (fl (enc o) l) (n.toNat*es),H):=by
 subst hn
 simp only [rx,hx,hi,ria,(at?_some h).1,and_self,if_true,ral,Option.map_some]
end
inductive RtL (ns:List Nat) (ok:AV→Prop):List AV→List AV→Prop
 | nil:RtL ns ok [] []
 | cons {v u vs us} (h:Rt ns ok v u) (t:RtL ns ok vs us):RtL ns ok (v::vs) (u::us)
theorem RtL.spec {ns:List Nat} {ok:AV→Prop} {vs us:List AV} (h:RtL ns ok vs us):vs.length=us.length∧∀ (i:Nat) v u,vs[i]?=some v→us[i]?=some u→Rt ns ok v u:=by
 induction h with
 | nil=>simp
 | cons h t ih =>
  refine ⟨by simp [ih.1],?_⟩
  intro i v u hv hu
  cases i with
  | zero=>simp at hv hu; subst hv; subst hu; exact h
  | succ i=>exact ih.2 i v u (by simpa using hv) (by simpa using hu)
theorem RtL.agg {ns:List Nat} {ok:AV→Prop} {vs us:List AV} (h:RtL ns ok vs us):Rt ns ok (.agg vs) (.agg us):=.agg h.spec.1 h.spec.2
theorem RtL.tup {ns:List Nat} {ok:AV→Prop} {vs us:List AV} (h:RtL ns ok vs us):Rt ns ok (.tup vs) (.tup us):=.tup h.spec.1 h.spec.2
inductive EmN (H:AH) (pins:List AV):List Nat→List ABlk→List ABlk→Prop
 | nil:EmN H pins [] [] []
 | cons {b ns k k' ks ks'} (hb:H[b]?=some (some k)) (h:∀ v∈k.cells,RefLt 0 v) (h':∀ v∈k'.cells,Own v∨v∈pins) (t:EmN H pins ns ks ks'):EmN H pins (b::ns) (k::ks) (k'::ks')
theorem EmN.len {H:AH} {pins:List AV} {ns:List Nat} {ks ks':List ABlk} (h:EmN H pins ns ks ks'):ks.length=ns.length∧ks'.length=ns.length:=by
 induction h with
 | nil=>exact ⟨rfl,rfl⟩
 | cons _ _ _ _ ih=>simp [ih.1,ih.2]
theorem EmN.at {H:AH} {pins:List AV} {ns:List Nat} {ks ks':List ABlk} (h:EmN H pins ns ks ks'):∀ (i b:Nat),ns[i]?=some b→H[b]?=some (ks[i]?):=by
 induction h with
 | nil=>intro i b h; simp at h
 | cons hb _ _ _ ih =>
  intro i b hi
  cases i with
  | zero=>simp at hi; subst hi; simpa using hb
  | succ i=>simpa using ih i b (by simpa using hi)
theorem EmN.bf {H:AH} {pins:List AV} {ns:List Nat} {ks ks':List ABlk} (h:EmN H pins ns ks ks'):(∀ k∈ks,∀ v∈k.cells,RefLt 0 v)∧∀ k∈ks',∀ v∈k.cells,Own v∨v∈pins:=by
 induction h with
 | nil=>simp
 | cons hb h h' _ ih =>
  refine ⟨?_,?_⟩
  ·intro k hk; rcases List.mem_cons.1 hk with rfl | hk
   ·exact h
   ·exact ih.1 k hk
  ·intro k hk; rcases List.mem_cons.1 hk with rfl | hk
   ·exact h'
   ·exact ih.2 k hk
inductive NwB (pins:List AV):List ABlk→Prop
 | nil:NwB pins []
 | cons {k ks} (h:∀ v∈k.cells,Own v∨v∈pins) (t:NwB pins ks):NwB pins (k::ks)
theorem NwB.ok {pins:List AV} {ks:List ABlk} (h:NwB pins ks):∀ k∈ks,∀ v∈k.cells,Own v∨v∈pins:=by
 induction h with
 | nil=>simp
 | cons h _ ih =>
  intro k hk; rcases List.mem_cons.1 hk with rfl | hk
  ·exact h
  ·exact ih k hk
theorem NwB.own {pins:List AV} {k:ABlk} {ks:List ABlk} (h:∀ v∈k.cells,Own v) (t:NwB pins ks):NwB pins (k::ks):=.cons (fun v hv=>.inl (h v hv)) t
theorem EmN.own {H:AH} {pins:List AV} {b:Nat} {ns:List Nat} {k k':ABlk} {ks ks':List ABlk} (hb:H[b]?=some (some k)) (h:∀ v∈k.cells,RefLt 0 v) (h':∀ v∈k'.cells,Own v) (t:EmN H pins ns ks ks'):EmN H pins (b::ns) (k::ks) (k'::ks'):=.cons hb h (fun v hv=>.inl (h' v hv)) t
inductive PinL (ks:List ABlk) (ns:List Nat) (args:List AV):List AV→Prop
 | nil:PinL ks ns args []
 | blk {B off es n cells ps} {k:ABlk} (i b o j m:Nat) (hk:ks[i]?=some k) (hc:k.cells[j]?=some (.pv B off es cells n)) (hb:ns[i]?=some b) (ha:args[m]?=some (.ptr b o)) (hs:∀ u∈cells,Scal u) (t:PinL ks ns args ps):PinL ks ns args (.pv B off es cells n::ps)
 | arg {B off es n cells ps} (m:Nat) (ha:args[m]?=some (.pv B off es cells n)) (hs:∀ u∈cells,Scal u) (t:PinL ks ns args ps):PinL ks ns args (.pv B off es cells n::ps)
theorem PinL.ok {ks:List ABlk} {ns:List Nat} {args pins:List AV} (h:PinL ks ns args pins):∀ v∈pins,(∃ B off es cells n,v=.pv B off es cells n∧∀ u∈cells,Scal u)∧((∃ (i:Nat) (k:ABlk) (b off:Nat),ks[i]?=some k∧v∈k.cells∧ns[i]?=some b∧.ptr b off∈args)∨v∈args):=by
 induction h with
 | nil=>simp
 | blk i b o j m hk hc hb ha hs _ ih =>
  intro v hv; rcases List.mem_cons.1 hv with rfl | hv
  ·exact ⟨⟨_,_,_,_,_,rfl,hs⟩,.inl ⟨i,_,b,o,hk,qM hc,hb,qM ha⟩⟩
  ·exact ih v hv
 | arg m ha hs _ ih =>
  intro v hv; rcases List.mem_cons.1 hv with rfl | hv
  ·exact ⟨⟨_,_,_,_,_,rfl,hs⟩,.inr (qM ha)⟩
  ·exact ih v hv
section
variable {P:Program} {nw:Nat} {f:FuncId} {args args':List AV} {H H':AH} {r:AV} {K:AV→AH→Prop}
theorem A6.embN {r0:AV} (ks ks' news:List ABlk) (ns:List Nat) (pins:List AV) (hok:okF P f=true) (h:C5 P 0 f args' (ks.map some) r ((ks'++news).map some)) (hb:EmN H pins ns ks ks') (hw:NwB pins news) (hp:PinL ks ns args pins) (hn:nodupB ns=true) (hargs:RnL ns args args') (hr:Rt (ns++(List.range news.length).map (H.length+·)) (·∈pins) r0 r) (hH:putKs H ns (ks'.map some)++news.map some=H') (hk:K r0 H'):A6 P 0 f args H K:=by
 subst hH
 have hnd:=Fk hn
 have hlt:∀ b∈ns,b<H.length:=by
  intro b hm
  obtain ⟨i,hi⟩:=List.getElem?_of_mem hm
  exact (qI (hb.at i b hi)).1
 refine ⟨hok,r0,_,C5.embedN ns pins h hnd hb.len.1 hb.len.2 (fun i b hi=>⟨Nat.zero_le _,hb.at i b hi⟩) hb.bf.1 ?_ hp.ok ?_ hr ?_ ?_ ?_ (by simp [Fi]),hk⟩
 ·intro k hk v hv
  rcases List.mem_append.1 hk with hk | hk
  ·exact hb.bf.2 k hk v hv
  ·exact hw.ok k hk v hv
 ·clear h hk hp hr
  induction hargs with
  | nil=>exact .nil
  | cons h t ih=>exact .cons h ih
 ·intro i b hi
  have hbm:b∈ns:=qM hi
  rw [List.getElem?_append_left (by rw [Fi]; exact hlt b hbm),Xv ns _ H hnd (by simp [hb.len.2]) hlt i b hi]
  have hi':=(qI hi).1
  rw [List.getElem?_map,qG (by rw [hb.len.2]; exact hi')]
  rfl
 ·intro b hbl hm
  rw [List.getElem?_append_left (by rw [Fi]; exact hbl),Mf _ _ _ b hm]
 ·intro i hi
  rw [List.getElem?_append_right (by rw [Fi]; omega),Fi,Nat.add_sub_cancel_left,List.getElem?_map,qG hi]
  rfl
end
section
variable {P:Program} {f:FuncId} {N nw:Nat} {rc:RC} {rr:List RR} {a:Asg} {H0 H H':AH} {v:AV} {Q:Go.Exit→Asg→AH→Prop}
theorem RW.pin (t:Nat) {es n:Nat} {cells:List AV} (hg:get a t=some (.lst false es cells n)) (h:∀ B off,RW P N nw H0 rc Q ((t,.pv B off es cells n)::a) H):RW P N nw H0 rc Q a H:=by
 intro c hc base β0 w0 s0 β ca w st
 obtain ⟨h1,h2⟩:=st.t.get _ _ hg
 obtain ⟨B,off,hp⟩:=h2.pin
 refine h B off c hc base β0 w0 s0 β ca w ⟨st.s,⟨st.t.defers,st.t.size,?_⟩,st.e,st.b⟩
 intro x v hx
 simp only [V.get_cons] at hx
 split at hx
 ·rename_i e
  subst e
  cases hx
  exact ⟨h1,hp⟩
 ·exact st.t.get x v hx
end
end Go.Proofs.YtldndhdohlfpgaaGreat.V
/- Records of own lists that lie open for a while; lists that move. -/
namespace Go.Proofs.YtldndhdohlfpgaaGreat.V
open Go Go.RowKit
section
variable {α:Type} {enc:Bool→α→List AV} {es:Nat} {a:Asg} {H:AH} {nw:Nat}
theorem Mo {x:R0} {l:List α} {e:α} {n:Int} {off off' sz b es':Nat} {vs post us:List AV} (q:EncOk enc es) (hx:rg a x=some (.ptr b off)) (hb:H[b]?=some (some ⟨fl (enc true) (l.take n.toNat)++(vs++post),es'⟩)) (h:at? l n=some e) (ho:off=n.toNat*es+off') (hl:Nat.ble (off'+sz) vs.length=true) (hv:((vs.map AV.hide).drop off').take sz=us):rx nw (.ld true sz x) a H=some (.agg us,H):=by
 have h2:=(at?_some h).2
 have hi:=(qI h2).1
 have hle:=Nat.le_of_ble_eq_true hl
 have hp:(fl (enc true) (l.take n.toNat)).length=n.toNat*es:=by rw [q.flen,List.length_take]; congr 1; omega
 subst ho
 have e1:(((fl (enc true) (l.take n.toNat)++(vs++post)).map AV.hide).drop (n.toNat*es+off')).take sz=us:=by
  rw [List.map_append,List.map_append,← hp,← List.length_map (f:=AV.hide),List.drop_append,List.drop_eq_nil_of_le (by omega),List.nil_append,Nat.add_sub_cancel_left,List.drop_append_of_le_length (by simp; omega),List.take_append_of_le_length (by simp; omega)]
  exact hv
 simp only [rx,hx,hb,rload,if_true]
 rw [if_pos (by simp only [List.length_map,List.length_append]; omega),e1]
 rfl
theorem x_mv {s x:R0} {c nn:Nat} {o:Bool} {l r:List α} {byt:Nat} (q:EncOk enc es) (hs:rg a s=some .nils) (hx:rg a x=some (.sl c 0 nn)) (hb:H[c]?=some (some ⟨fl (enc o) l,es⟩)) (hn:nn=l.length) (hnw:Nat.ble nw c=true) (h:app? byt ([]:List α) l=some r):rmv nw (.app es byt s x) a H=some (.sl H.length 0 r.length,H.set c none++[some ⟨fl (enc o) r,es⟩]):=by
 subst hn
 unfold app? at h
 split at h
 case isFalse=>cases h
 rename_i hc
 cases h
 simp only [List.length_nil,Nat.zero_add] at hc
 simp only [rmv,hs,hx,hb]
 rw [if_pos ⟨⟨Nat.le_of_ble_eq_true hnw,trivial,q.flen o l⟩,hc.1,hc.2⟩]
 simp [killed]
end
section
variable {P:Program} {nw N:Nat} {H0:AH} {K:Asg→AH→Prop} {a a':Asg} {H H':AH} {l:List RO} {v:AV} {i n0:Nat} {pls:List Pl} {hs:List (Nat×AH)} {dn:List RDn}
theorem A0.chnmB {t:Option Nat} {g:Option (Nat×Bool)} {r:ROp} {rc:List Nat} (hg:rgd a g=some true) (hx:rmv nw r a H=some (v,H')) (hB:StB P nw H' rc dn) (h:A0 P nw n0 K (i+1) l pls ((i,H)::hs) dn (puta t v a) H'):A0 P nw n0 K i (⟨t,g,r⟩::l) (.chn rc::pls) hs dn a H:=by
 simp only [A0,hg]
 exact A86 hx ⟨hB.ok,h⟩
end
theorem St.ren {nw N base:Nat} {β0 β:Bm} {w0 w:World} {ca:Act} {H0:AH} {a a':Asg} {H H':AH} (ns:List Nat) (hlen:ns.length=H'.length) (hn0:H0.length≤ns.length) (hid:∀ i:Nat,i<H0.length→ns[i]?=some i) (hnd:ns.Nodup) (hb:RnB ns H H') (hs:SubR ns a' a) (s0:SRel base β0 H0 w0) (st:St base N nw β0 H0 w0 a H β ca w):St base N nw β0 H0 w0 a' H' (renB ns β) ca w:=by
 have inj:∀ (i j b:Nat),ns[i]?=some b→ns[j]?=some b→i=j:=by
  intro i j b hi hj
  exact (List.getElem?_inj (qI hi).1 hnd).1 (hi.trans hj.symm)
 refine ⟨st.s.ren ns hnd hb,⟨st.t.defers,st.t.size,?_⟩,?_,st.b⟩
 ·intro x u hu
  obtain ⟨v,hv,hr⟩:=hs.get x u hu
  exact ⟨(st.t.get x v hv).1,(st.t.get x v hv).2.rn hb hr⟩
 ·refine ⟨by omega,?_,?_,?_,?_,st.e.wsz,st.e.os,st.e.tape,st.e.output,st.e.frame⟩
  ·intro b p hp k hk
   have hlt:=s0.lt hp
   have hi:=hid b hlt
   rcases hb b b hi with ⟨k1,k',g1,g2,_⟩ | ⟨_,g2⟩
   ·obtain ⟨p',hp',r⟩:=st.e.keep b p hp k1 g1
    exact ⟨p',by unfold renB; rw [hi]; exact hp',r⟩
   ·rw [g2] at hk; cases hk
  ·intro b p' hlt hp'
   obtain ⟨c,hc,hq⟩:=M2 hp'
   rw [hid b hlt] at hc
   cases hc
   exact st.e.old b p' hlt hq
  ·intro b hbd
   have hlt:=(qI hbd).1
   have:=st.e.dead b hbd
   rcases hb b b (hid b hlt) with ⟨k1,k',g1,_⟩ | ⟨_,g2⟩
   ·rw [this] at g1; cases g1
   ·exact g2
  ·intro b p hp j hj
   obtain ⟨c,hc,hq⟩:=M2 hp
   rcases st.e.own c p hq j hj with h | ⟨b0,p0,h0,h1,h2⟩
   ·exact .inl h
   ·refine .inr ⟨b0,p0,h0,h1,?_⟩
    rcases h2 with h2 | h2
    ·have:=hid b0 (s0.lt h0)
     exact .inl (inj b0 b c (by rw [← h2]; exact this) hc)
    ·exact .inr h2
section
variable {P:Program} {f:FuncId} {N nw:Nat} {rc:RC} {rr:List RR} {a:Asg} {H0 H H':AH} {v v0:AV}
def RRetM (N nw:Nat) (H0:AH) (rr:List RR) (v:AV) (H':AH) (e:Go.Exit) (a:Asg) (H:AH):Prop :=
 (e=.normal∨e=.ret)∧∃ a1 H1 v0 ns,Gh nw N H0 a H a1 H1∧rares a1 H1 rr=some v0∧RnBs ns H1 ns H'∧nodupB ns=true∧H0.length≤ns.length∧(∀ i:Nat,i<H0.length→ns[i]?=some i)∧Rn ns v0 v
theorem RRetM.mk {a1:Asg} {H1:AH} (ns:List Nat) (g:Gh nw N H0 a H a1 H1) (hv:rares a1 H1 rr=some v0) (hb:RnBs ns H1 ns H') (hn:nodupB ns=true) (hl:Nat.ble H0.length ns.length=true) (hid:(List.range H0.length).all (fun i=>Nat.beq (ns.getD i (i+1)) i)=true) (hr:Rn ns v0 v):RRetM N nw H0 rr v H' .ret a H:=by
 refine ⟨.inr rfl,a1,H1,v0,ns,g,hv,hb,hn,Nat.le_of_ble_eq_true hl,?_,hr⟩
 intro i hi
 have h1:=List.all_eq_true.1 hid i (List.mem_range.2 hi)
 have h2:=Nat.eq_of_beq_eq_true h1
 have h3:i<ns.length:=Nat.lt_of_lt_of_le hi (Nat.le_of_ble_eq_true hl)
 rw [qG h3]
 rw [List.getD_eq_getElem?_getD,qG h3] at h2
 exact congrArg some h2
theorem C5.of_m {args:List AV} (k:FnOk P f N rc rr) (hn:Nat.ble args.length N=true) (h:RW P N nw H rc (RRetM N nw H rr v H') (start 0 args) H):C5 P nw f args H v H':=by
 obtain ⟨fn,c,hints,hf,hb,rfl,h4,h5,h6⟩:=k
 have h:=h c ⟨h6,hints,h4⟩
 intro base β w cargs s hb' hargs
 refine calls_of_wp hf hb ?_
 have st:St base fn.ntmps nw β H w (start 0 args) H β { tmps:=cargs++Array.replicate (fn.ntmps - cargs.size) undef,defers:=[] } w :=
  ⟨s,Ub hargs (Nat.le_of_ble_eq_true hn),Ext.refl nw β H w (fun b p hp=>s.lt hp),hb'⟩
 refine wp_mono (h _ _ _ s _ _ _ st) ?_
 rintro e ca' w' ⟨a1,H1,β1,⟨he,a2,H2,v0,ns,hg,hv,hbs,hnd,hl,hid,hr⟩,st1⟩
 have hR:ca'.defers=[]∧∃ v',(results fn ca'.tmps).run P w'=.ok v' w'∧∃ cv β',Ending.returned v'=.returned cv∧SRel base β' H' w'∧VRel w' β' (dead H') v cv∧Ext nw β H w β' H' w':=by
  obtain ⟨β2,st2⟩:=hg _ _ _ _ _ _ s st1
  obtain ⟨cv,h1,h2⟩:=Zt st2.s st2.t ((Zb h5).trans hv)
  have st3:=St.ren (a':=[]) ns hbs.len hl hid (Fk hnd) hbs.spec trivial s st2
  exact ⟨st2.t.defers,cv,h1,cv,_,rfl,st3.s,h2.rn hbs.spec hr,st3.e⟩
 rcases he with rfl | rfl <;> exact hR
end
end Go.Proofs.YtldndhdohlfpgaaGreat.V
/- The functions' texts, told by evaluation: what the text is, and the kernel's word that it is. -/
namespace Go.Proofs.YtldndhdohlfpgaaGreat.V
open Go Go.RowKit
def t0:Operand→R0
 | .tmp t=>.t t
 | .const v=>.c (cst v)
 | .func f=>.c (.fn f [])
 | .global _=>.c .und
def tlo (P:Program):Nat→Nat→TypeId→List (Nat×Nat)
 | 0,_,_=>[]
 | d+1,off,t=>match P.underlying t with
  | some .bool=>[(off,0)]
  | some (.int _)=>[(off,1)]
  | some .string=>[(off,2)]
  | some (.struct fs)=>fs.toList.flatMap fun f=>tlo P d (off+f.offset) f.type
  | _=>[]
def tel (P:Program) (t:TypeId):Nat:=(elT P t).getD 0
def tz (P:Program) (t:TypeId):List AV:=(zeroT P t).getD []
def tnq:BinOp→Bool
 | .neq=>true
 | _=>false
def tp (l:List (Nat×Operand)):List (Nat×R0):=l.map fun p=>(p.1,t0 p.2)
def tOp (P:Program):Op→ROp
 | .move x=>.mv (t0 x)
 | .assign x=>.mv (t0 x)
 | .pick c x y=>.pick (t0 c) (t0 x) (t0 y)
 | .binOp op T x y _=>match P.underlying T with
  | some .bool=>.eqb (tnq op) (t0 x) (t0 y)
  | some (.struct _)=>.equ (tnq op) (tlo P 9 0 T) (t0 x) (t0 y)
  | some (.slice _)=>.isn (tnq op) (t0 x)
  | _=>.bin op (t0 x) (t0 y)
 | .unOp op _ x=>.un op (t0 x)
 | .convert s d x=>match P.underlying s,P.underlying d with
  | some (.slice _),some .string=>.cvb (t0 x)
  | _,some (.int k)=>.cvi k (t0 x)
  | _,_=>.cvs (t0 x)
 | .makeFunc (.func f) _ cap=>.mkf f (cap.toList.map t0)
 | .field T x f=>match ((fldT P T).getD [])[f]? with | some (o,t)=>.fld o (szT P t) (aggT P t) (t0 x) | none=>.mv (t0 x)
 | .index _ x i=>.idx (t0 x) (t0 i)
 | .extract x i=>.ext (t0 x) i
 | .build T ps=>.bld (tz P T) (((fldT P T).getD []).map fun f=>(f.1,szT P f.2)) (tp ps.toList)
 | .slice T x lo hi mx=>match mx with
  | some _=>.slz (t0 x)
  | none=>match P.underlying T with
   | some .string=>.sls (t0 x) (lo.map t0) (hi.map t0)
   | _=>.sle (szT P (tel P T)) (t0 x) (lo.map t0) (hi.map t0)
 | .fieldAddr s x f=>match ((fldT P s).getD [])[f]? with | some (o,_)=>.fa o (t0 x) | none=>.mv (t0 x)
 | .indexAddr T x i=>.ia (szT P (tel P T)) (t0 x) (t0 i)
 | .load t x=>.ld (aggT P t) (szT P t) (t0 x)
 | .nilCheck x=>.nc (t0 x)
 | .alloc T=>.al (tz P T)
 | .box _ x=>.bx (t0 x)
 | .buildSlice T n ps=>if Nat.beq n 0&&ps.toList.isEmpty then .mv (.c .nils) else .bs (szT P (tel P T)) (tz P (tel P T)) n (tp ps.toList)
 | .makeSlice T l c=>.ms (szT P (tel P T)) (tz P (tel P T)) (byT P (tel P T)) (t0 l) (t0 c)
 | .store T x y=>.st (szT P T) (t0 x) (t0 y)
 | .call { callee:=.builtin b,args,argTypes }=>match b,args.toList,argTypes.toList with
  | .min,[x,y],_=>.mn (t0 x) (t0 y)
  | .max,[x,y],_=>.mx (t0 x) (t0 y)
  | .len,[x],[t]=>match P.underlying t with | some .string=>.lens (t0 x) | _=>.lenl (t0 x)
  | .append,[s,x],t::_=>.app (szT P (tel P t)) (byT P (tel P t)) (t0 s) (t0 x)
  | _,_,_=>.mv (.c .und)
 | .call { callee:=.value f,args,.. }=>.cl (t0 f) (args.toList.map t0)
 | _=>.mv (.c .und)
def tRO (P:Program) (ops:Array Oper) (o:Oper):RO:=⟨o.dst,match o.guard with | none=>none | some (j,w)=>((ops[j]?).bind (·.dst)).map fun d=>(d,w),tOp P o.op⟩
def tmk (M:Nat):List Edge→Nat
 | []=>0
 | e::l=>if Region.binds .any e then tmk M l ||| (1 <<< e.on) ||| ((M >>> (512*e.on))%(1 <<< 512)) else tmk M l
def tch (h:List Nat) (i:Nat) (o:Oper):Bool:=match o.op with
 | .buildSlice _ len parts=>!(len==0&&parts.toList.isEmpty)
 | .alloc _ | .box _ _ | .makeSlice _ _ _ | .store _ _ _ | .call { callee:=.builtin .append,.. }=>true
 | .call { callee:=.value _,.. }=>h.any fun x=>x==i
 | _=>false
def tfa (i:Nat):List Nat→Nat→Nat
 | [],k=>k
 | x::l,k=>if x==i then k else tfa i l (k+1)
def tpl (h fl:List Nat) (M:Nat) (i:Nat) (vs cs:List Nat):List Oper→List Pl
 | []=>[]
 | o::l =>
  let m:=tmk M o.after.toList
  let M':=M ||| (m <<< (512*i))
  if fl.any (fun x=>x==i) then .flt (tfa i fl 0)::tpl h fl M' (i+1) vs cs l
  else if tch h i o&&!(h.any fun x=>x==i+2000000) then .chn (vs.filter fun j=>(m >>> j)%2==0)::tpl h fl M' (i+1) vs (cs++[i]) l
  else .val (cs.filter fun j=>(m >>> j)%2==0)::tpl h fl M' (i+1) (vs++[i]) cs l
def tfl:List Nat→List Nat
 | []=>[]
 | x::l=>if 1000000≤x∧x<2000000 then (x - 1000000)::tfl l else tfl l
def tC (h:List (Nat×List Nat)) (P:Program):Code→RC
 | .region _ ops false=>.reg (ops.toList.map (tRO P ops))
 | .region id ops true=>.drw (ops.toList.map (tRO P ops)) (tpl (hintOf h id) (tfl (hintOf h id)) 0 0 [] [] ops.toList)
 | .seq x y=>.seq (tC h P x) (tC h P y)
 | .cond c x y=>.cond (t0 c) (tC h P x) (tC h P y)
 | .block id c=>.blk id (tC h P c)
 | .loop c=>.loop (tC h P c)
 | .exit id=>.exit id
 | .ret=>.ret
 | _=>.skip
noncomputable def rcX (h:List (Nat×List Nat)) (P:Program) (f:Func):RC:=(f.body.map (tC h P)).getD .skip
noncomputable def rcO (h:List (Nat×List Nat)) (P:Program) (f:Func):RC:=(f.body.bind (resC h P f.ntmps)).getD .skip
section
variable {P:Program} {f:FuncId} {N nw:Nat} {rc rc':RC} {rr:List RR} {ds:List AV} {r v:AV} {H H':AH}
theorem FnOk.q {f:Func} {n:Nat} {h:List (Nat×List Nat)} (h1:P.funcs[n]?=some f) (h4:P.follows .mixedOrders=true) (h2:(f.body.bind (resC h P f.ntmps)).isSome=true:=by kernel_rfl) (h3:resR P f.results.toList=some rr:=by kernel_rfl):FnOk P n f.ntmps (rcO h P f) rr:=by
 unfold rcO
 cases hb:f.body with
 | none=>rw [hb] at h2; cases h2
 | some c =>
  rw [hb] at h2
  rw [Option.bind_some] at h2 ⊢
  obtain ⟨rc,e⟩:=Option.isSome_iff_exists.1 h2
  exact ⟨f,c,h,h1,hb,rfl,by rw [e]; rfl,h3,h4⟩
theorem FnOk.w (k:FnOk P f N rc rr) (e:rc=rc':=by kernel_rfl):FnOk P f N rc' rr:=by subst e; exact k
theorem A7.q (k:FnOk P f N rc rr) (h:RW P N 0 [] rc' (RRet rr r) (start 0 ds) []) (e:rc=rc':=by refine (?k:@Eq RC (rcX ?h ?P ?f) ?b→@Eq RC (rcO ?h ?P ?f) ?b) ?p; (case p=>unfold rcX; cbv); (case k=>intro _; kernel_rfl)) (hn:Nat.ble ds.length N=true:=by rfl):A7 P f ds r:=A7.of_r (k.w e) hn h
theorem C5.q (k:FnOk P f N rc rr) (h:RW P N nw H rc' (RRetS N nw H rr v H') (start 0 ds) H) (e:rc=rc':=by refine (?k:@Eq RC (rcX ?h ?P ?f) ?b→@Eq RC (rcO ?h ?P ?f) ?b) ?p; (case p=>unfold rcX; cbv); (case k=>intro _; kernel_rfl)) (hn:Nat.ble ds.length N=true:=by rfl):C5 P nw f ds H v H':=C5.of_s (k.w e) hn h
theorem C5.p (k:FnOk P f N rc rr) (h:RW P N nw H rc' (RRetM N nw H rr v H') (start 0 ds) H) (e:rc=rc':=by refine (?k:@Eq RC (rcX ?h ?P ?f) ?b→@Eq RC (rcO ?h ?P ?f) ?b) ?p; (case p=>unfold rcX; cbv); (case k=>intro _; kernel_rfl)) (hn:Nat.ble ds.length N=true:=by rfl):C5 P nw f ds H v H':=C5.of_m (k.w e) hn h
end
end Go.Proofs.YtldndhdohlfpgaaGreat.V
/- Parts of own lists that are handed over or come back. -/
namespace Go.Proofs.YtldndhdohlfpgaaGreat.V
open Go Go.RowKit
section
variable {α:Type} {enc:Bool→α→List AV} {es:Nat} {H:AH} {l r:List α} {b n:Nat} {i j:Int}
theorem RnC.fl (q:EncOk enc es) {ns:List Nat} {o:Bool} {vs us:List AV} (t:RnC ns vs us):RnC ns (V.fl (enc o) l++vs) (V.fl (enc o) l++us):=by
 have key:∀ cs:List AV,(∀ v∈cs,RefLt 0 v)→RnC ns (cs++vs) (cs++us):=by
  intro cs
  induction cs with
  | nil=>exact fun _=>t
  | cons c cs ih=>exact fun h=>.keep (h c (by simp)) (ih fun v hv=>h v (List.mem_cons_of_mem _ hv))
 exact key _ (q.fref o l)
theorem RnC.flz (q:EncOk enc es) {ns:List Nat} {o:Bool}:RnC ns (V.fl (enc o) l) (V.fl (enc o) l):=by
 have h:=RnC.fl q (l:=l) (o:=o) (ns:=ns) .nil
 rwa [List.append_nil] at h
end
end Go.Proofs.YtldndhdohlfpgaaGreat.V
