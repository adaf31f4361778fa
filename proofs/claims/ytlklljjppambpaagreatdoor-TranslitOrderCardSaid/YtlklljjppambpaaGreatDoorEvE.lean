/- The evaluator is right on frames, calls, rounds, recover, guards, ordered regions; first laws of regions whose order is drawn. No statement of the seat stands here. No condition. By an AI agent. -/
import Derived.Test.YtlklljjppambpaaGreatDoorEvD
import Derived.Defers
import Derived.Lib.Bytealg
import Derived.Orders
namespace Go.Ev
open Go.RowKit
variable {P:Program}
variable {ns:Nat}
theorem zHb:∀ {t d:Nat},t<d→yE ns t=false→yM ns t<yM ns d:=by
 have mono:∀ d,yM ns d≤yM ns (d+1):=by
  intro d
  rw [yM]
  split<;>omega
 have mono2:∀ k d,yM ns d≤yM ns (d+k):=by
  intro k
  induction k with
  | zero=>intro d;exact kab _
  | succ k ih=>intro d;exact kar (ih d) (mono (d+k))
 intro t d h hb
 have h1:yM ns (t+1)=yM ns t+1:=by
  rw [yM]
  unfold yE at hb
  rw [hb]
 have:=mono2 (d - (t+1)) (t+1)
 rw [show t+1+(d - (t+1))=d by omega] at this
 omega
variable {d:Nat}
theorem ziM {t:Nat} (ht:yE ns t=false) (hd:yE ns d=false) (h:yM ns t=yM ns d):t=d:=by
 rcases Nat.lt_trichotomy t d with h1 | h1 | h1
 ·have:=zHb h1 ht;omega
 ·exact h1
 ·have:=zHb h1 hd;omega
structure FrX (ν:Val) (fi:FI) (ds:List Nat) (tm:T) (le:List V) (tmps:Array Value):Prop where
 sz:tmps.size=fi.nt
 a:∀ t,yE fi.ns t=false→yM fi.ns t<240→VR ν (T.get tm (yM fi.ns t)) (tmps.getD t Go.undef)
 b:∀ t i,idx t ds 0=some i→VR ν (le.getD i .bad) (tmps.getD t Go.undef)
variable {tmps:Array Value} {fi:FI} {ds:List Nat} {ν:Val}
theorem FrX.slot {tm:T} {le:List V} (h:FrX ν fi ds tm le tmps) (t:Nat):SlR ν fi T.get ds tm le tmps t:=⟨fun h1 h2 _=>h.a t h1 h2,h.b t⟩
theorem FrX.odr {tm:T} {le:List V} (h:FrX ν fi ds tm le tmps) (x:Operand):OdR ν fi ds tm le tmps x:=by
 cases x<;>first | exact h.slot _ | trivial
theorem FrX.ops {tm:T} {le:List V} (h:FrX ν fi ds tm le tmps) (o:Oper):zeS ν fi ds tm le tmps o:=fun x _=>h.odr x
theorem FrX.of {tm:T} (h:FrR ν fi T.get tm tmps):FrX ν fi [] tm [] tmps:=⟨h.1,h.2,fun t i hi=>by simp [idx] at hi⟩
theorem FrX.fr {tm:T} {le:List V} (h:FrX ν fi ds tm le tmps):FrR ν fi T.get tm tmps:=⟨h.sz,h.a⟩
variable {ν':Val}
theorem FrX.mono (hle:ν.le ν') {tm:T} {le:List V} (h:FrX ν fi ds tm le tmps):FrX ν' fi ds tm le tmps:=⟨h.sz,fun t h1 h2=>(h.a t h1 h2).mono' hle,fun t i hi=>(h.b t i hi).mono' hle⟩
theorem zAe (t:Nat):∀ (ds:List Nat) (n:Nat),idx t ds (n+1)=(idx t ds n).map (·+1)
 | [],_=>rfl
 | d::ds,n=>by
  simp only [idx]
  split
  ·rfl
  ·exact zAe t ds (n+1)
theorem zsr (t d:Nat) (ds:List Nat):idx t ((d+1)::ds) 0=if t=d then some 0 else (idx t ds 0).map (·+1):=by
 simp only [idx]
 by_cases h:t=d
 ·subst h
  rw [if_pos rfl]
  have:Nat.beq (t+1) (t+1)=true:=by simp
  rw [this]
 ·rw [if_neg h]
  have:Nat.beq (d+1) (t+1)=false:=by
   cases hb:Nat.beq (d+1) (t+1) with
   | false=>rfl
   | true=>have:=kaa hb;omega
  rw [this]
  exact zAe t ds 0
theorem zci {y:Value} (hd:d<tmps.size) (t:Nat):(tmps.setIfInBounds d y).getD t Go.undef=if t=d then y else tmps.getD t Go.undef:=by
 simp only [Array.getD_eq_getD_getElem?]
 by_cases h:t=d
 ·subst h;simp [hd]
 ·rw [if_neg h,Array.getElem?_setIfInBounds_ne (fun e=>h e.symm)]
variable {v:V}
theorem zzb {p:Nat} {t:T} {c:T→A} (hnb:¬((puC p).run v t c).isBad):p<256:=by
 have e:(puC p).run v t c=(moC (α:=N V) (p / 16)).run t (fun u k=>(moC (α:=V) (p % 16)).run u (fun _ k=>k v) k) c:=rfl
 rw [e] at hnb
 obtain ⟨u,hd,_⟩:=zFn hnb
 omega
variable {o:Oper}
theorem zjw {tm:T} {le:List V} {c:T→List V→A} (hnb:¬((dsC fi o).run v tm le c).isBad):∃ tm' le',c tm' le'=(dsC fi o).run v tm le c∧T.get tm' 240=T.get tm 240 ∧
  ∀ (ν:Val) (tmps:Array Value) (ds:List Nat) (y:Value),FrX ν fi ds tm le tmps→VR ν v y→FrX ν fi (push o ds) tm' le' (j0 tmps o.dst y):=by
 unfold dsC at hnb ⊢
 cases hd:o.dst with
 | none =>
  rw [hd] at hnb
  exact ⟨tm,le,rfl,rfl,fun ν tmps ds y h hv=>by simp only [push,hd,j0];exact h⟩
 | some d =>
  rw [hd] at hnb
  cases hlt:Nat.blt d fi.nt with
  | false=>simp only [hlt] at hnb;exact absurd trivial hnb
  | true =>
   have hlt':d<fi.nt:=by simpa [Nat.blt_eq] using hlt
   have hb:∀ (ν:Val) (tmps:Array Value) (ds:List Nat) (y:Value),FrX ν fi ds tm le tmps→VR ν v y→∀ t i,idx t ((d+1)::ds) 0=some i→VR ν ((v::le).getD i .bad) ((tmps.setIfInBounds d y).getD t Go.undef):=by
    intro ν tmps ds y h hv t i hi
    rw [zci (by rw [h.sz];exact hlt')]
    rw [zsr] at hi
    by_cases ht:t=d
    ·rw [if_pos ht] at hi ⊢
     simp only [Option.some.injEq] at hi
     subst hi
     exact hv
    ·rw [if_neg ht] at hi ⊢
     cases hx:idx t ds 0 with
     | none=>rw [hx] at hi;cases hi
     | some j =>
      rw [hx] at hi
      simp only [Option.map_some,Option.some.injEq] at hi
      subst hi
      exact h.b t j hx
   cases hns:yE fi.ns d with
   | true =>
    simp only [hlt,hns] at hnb ⊢
    refine ⟨tm,v::le,rfl,rfl,fun ν tmps ds y h hv=>?_⟩
    simp only [push,hd,j0]
    refine ⟨by simp [h.sz],fun t h1 h2=>?_,hb ν tmps ds y h hv⟩
    rw [zci (by rw [h.sz];exact hlt')]
    have ht:t≠d:=by intro e;subst e;rw [hns] at h1;cases h1
    rw [if_neg ht]
    exact h.a t h1 h2
   | false =>
    simp only [hlt,hns] at hnb ⊢
    obtain ⟨_,h2,h3⟩:=zbt (zzb hnb)
    obtain ⟨tm',h4,h5⟩:=ze3 hnb
    rw [h3] at h5
    refine ⟨tm',v::le,h4,?_,fun ν tmps ds y h hv=>?_⟩
    ·rw [h5,if_neg (by omega)]
    ·simp only [push,hd,j0]
     refine ⟨by simp [h.sz],fun t g1 g2=>?_,hb ν tmps ds y h hv⟩
     rw [zci (by rw [h.sz];exact hlt'),h5]
     by_cases ht:t=d
     ·subst ht;rw [if_pos rfl,if_pos rfl];exact hv
     ·rw [if_neg ht,if_neg (fun e=>ht (ziM g1 hns e))]
      exact h.a t g1 g2
def zHd (k:CallKind) (cs:List Frame):Prop:=k=.normal∨(k=.deferred∧∃ c rest,cs=c::rest∧c.mode=.returning)
def DfE (ν:Val):V→Deferred→Prop
 | .ref 2 a,x=>∃ bl,ν.blk a 0=some (bl,0)∧x={ target:=.collected bl,args:=#[] }
 | .ls 1 [.fn (.func g) first cap,.ls 1 args],x=>∃ cf cc ca,VRs ν first cf∧VRs ν cap cc∧VRs ν args ca∧x={ target:=.fn (.func g) ⟨cc⟩,args:=⟨cf++ca⟩ }
 | _,_=>False
def DfL (ν:Val):List V→List Deferred→Prop
 | [],df=>df=[]
 | d::l,df=>∃ x r,df=x::r∧DfE ν d x∧DfL ν l r
def DfR (ν:Val):V→List Deferred→Prop
 | .ls _ l,df=>DfL ν l df
 | _,df=>df=[]
structure Env (ν:Val) (b:Base) (cs:List Frame) (tm:T) (df:List Deferred):Prop where
 calm:zHd b.kind cs
 df:DfR ν (T.get tm 240) df
 ro:∀ t l,T.get tm 240=.ls t l→b.ro=none
theorem DfE.mono (h:ν.le ν') {d:V} {x:Deferred} (r:DfE ν d x):DfE ν' d x:=by
 unfold DfE at *
 split at r
 ·obtain ⟨bl,h1,h2⟩:=r;exact ⟨bl,(h _ _ _ h1).1,h2⟩
 ·obtain ⟨cf,cc,ca,h1,h2,h3,h4⟩:=r;exact ⟨cf,cc,ca,h1.mono' h,h2.mono' h,h3.mono' h,h4⟩
 ·exact r.elim
theorem DfL.mono {ν ν':Val} (h:ν.le ν'):∀ {l:List V} {df:List Deferred},DfL ν l df→DfL ν' l df
 | [],_,r=>r
 | _::_,_,⟨x,r,e,h1,h2⟩=>⟨x,r,e,h1.mono h,DfL.mono h h2⟩
theorem DfR.mono (h:ν.le ν') {df:List Deferred} (r:DfR ν v df):DfR ν' v df:=by
 cases v<;>first | exact r | exact DfL.mono h r
theorem Env.mono (h:ν.le ν') {b:Base} {cs:List Frame} {tm:T} {df:List Deferred} (e:Env ν b cs tm df):Env ν' b cs tm df:=⟨e.calm,e.df.mono h,e.ro⟩
theorem Env.same {b:Base} {cs:List Frame} {tm tm':T} {df:List Deferred} (e:Env ν b cs tm df) (h:T.get tm' 240=T.get tm 240):Env ν b cs tm' df:=⟨e.calm,by rw [h];exact e.df,fun t l hl=>e.ro t l (by rw [←h];exact hl)⟩
def qW (P:Program) (n0:Nat) (w0:World) (fi:FI) (ν:Val) (s:S) (b:Base) (cs:List Frame) (m:Machine) (kk:List Item):A→Prop
 | .nrm tm' s'=>∃ ν' w' tmps' df',Out P n0 w0 ν s ν' s' w'∧FrR ν' fi T.get tm' tmps'∧Env ν' b cs tm' df'∧Steps P m (lone (b.fr tmps' df' kk) cs w')
 | .ext i tm' s'=>∃ ν' w' tmps' df' todo,Out P n0 w0 ν s ν' s' w'∧FrR ν' fi T.get tm' tmps'∧Env ν' b cs tm' df'∧exitTo i todo=exitTo i kk∧Steps P m (lone (b.fr tmps' df' (.code (.exit i)::todo)) cs w')
 | .ret tm' s'=>∃ ν' w' tmps' df' todo,Out P n0 w0 ν s ν' s' w'∧FrR ν' fi T.get tm' tmps'∧Env ν' b cs tm' df'∧Steps P m (lone (b.fr tmps' df' (.code .ret::todo)) cs w')
 | .alt x y=>qW P n0 w0 fi ν s b cs m kk x∨qW P n0 w0 fi ν s b cs m kk y
 | _=>False
def zdH (P:Program) (fi:FI) (c:Code) (tm:T) (s:S) (res:A):Prop:=∀ n0 w0 ν w tmps df b cs kk,fi.ng≤P.globals.size→St P n0 w0 ν s w→yq ν P.globals.size→FrR ν fi T.get tm tmps→Env ν b cs tm df →
 qW P n0 w0 fi ν s b cs (lone (b.fr tmps df (.code c::kk)) cs w) kk res
def qO (P:Program) (f:Nat) (args:List V) (s:S) (v:V) (s':S):Prop:=∀ n0 w0 ν w (cargs:List Value),St P n0 w0 ν s w→yq ν P.globals.size→VRs ν args cargs →
 (callFunc f ⟨cargs⟩).run P w=.ok (.enter f ⟨cargs⟩) w∧∀ kind cs,zHd kind cs→∃ ν' y w' fr,Out P n0 w0 ν s ν' s' w'∧VR ν' v y∧Steps P (lone (Frame.enter P f ⟨cargs⟩ kind) cs w) (lone fr cs w') ∧
  fr.kind=kind∧fr.mode=.returning∧fr.defers=[]∧fr.fn=f∧∃ fn,P.funcs[f]?=some fn∧(results fn fr.tmps).run P w'=.ok y w'
def jR (P:Program) (h:Hook):Prop:=qO P h.f h.args h.s0 h.v h.s1
def F.isBad:F→Prop | .bad _=>True | .pnc _ _=>True | .alt a b=>a.isBad∨b.isBad | _=>False
def F.Has (p:V→S→Prop):F→Prop | .ret v s=>p v s | .alt a b=>a.Has p∨b.Has p | _=>False
theorem F.Has.imp {p q:V→S→Prop} (h:∀ v s,p v s→q v s):∀ {x:F},x.Has p→x.Has q
 | .ret _ _,g=>h _ _ g
 | .alt _ _,.inl g=>.inl (F.Has.imp h g)
 | .alt _ _,.inr g=>.inr (F.Has.imp h g)
def wW (P:Program) (f:Nat) (args:List V) (s:S) (X:F):Prop:=∀ n0 w0 ν w (cargs:List Value),St P n0 w0 ν s w→yq ν P.globals.size→VRs ν args cargs →
 (callFunc f ⟨cargs⟩).run P w=.ok (.enter f ⟨cargs⟩) w∧∀ kind cs,zHd kind cs→X.Has fun v s'=>∃ ν' y w' fr,Out P n0 w0 ν s ν' s' w'∧VR ν' v y∧Steps P (lone (Frame.enter P f ⟨cargs⟩ kind) cs w) (lone fr cs w') ∧
  fr.kind=kind∧fr.mode=.returning∧fr.defers=[]∧fr.fn=f∧∃ fn,P.funcs[f]?=some fn∧(results fn fr.tmps).run P w'=.ok y w'
structure RS (P:Program) (pc:PC) (r:R):Prop where
 code:∀ fi c tm s,¬(r.code fi c tm s).isBad→zdH P fi c tm s (r.code fi c tm s)
 calls:∀ f args s,¬(r.call f args s).isBad→wW P f args s (r.call f args s)
variable {r:R}
theorem RS.call {pc:PC} (hr:RS P pc r) (f:Nat) (args:List V) (s:S) (v:V) (s':S) (h:r.call f args s=.ret v s'):qO P f args s v s':=by
 have:=hr.calls f args s (by rw [h];exact fun h=>h)
 rw [h] at this
 exact this
def R.One (r:R):Prop:=∀ f args s,¬(r.call f args s).isBad→∃ v s',r.call f args s=.ret v s'
theorem zGD {x:F} (h:¬(zIV x).isBad):∃ v s,x=.ret v s∧zIV x=.ret v s:=by
 cases x with
 | ret v s=>exact ⟨v,s,rfl,rfl⟩
 | _=>exact absurd trivial h
theorem zHz (r:R):r.det.One:=fun f args s h=>by
 obtain ⟨v,s',_,h2⟩:=zGD (x:=r.call f args s) h
 exact ⟨v,s',h2⟩
theorem RS.det {pc:PC} (hr:RS P pc r):RS P pc r.det:=⟨hr.code,fun f args s h=>by
 obtain ⟨v,s',h1,h2⟩:=zGD (x:=r.call f args s) h
 have:=hr.call f args s v s' h1
 show wW P f args s (zIV (r.call f args s))
 rw [h2]
 exact this⟩
theorem zcr {k:V→S→A}:∀ {x:F},¬(zD x k).isBad→¬x.isBad
 | .ret _ _,_=>fun h=>h
 | .pnc _ _,h=>fun _=>h trivial
 | .bad _,h=>fun _=>h trivial
 | .alt a b,h=>fun g=>by
  have e:zD (.alt a b) k=.alt (zD a k) (zD b k):=rfl
  rw [e] at h
  rcases g with g | g
  ·exact zcr (x:=a) (fun h1=>h (.inl h1)) g
  ·exact zcr (x:=b) (fun h1=>h (.inr h1)) g
theorem yq.le {a b:Nat} (h:yq ν b) (hab:a≤b):yq ν a:=fun g hg=>h g (by omega)
def OpM (P:Program) (pc:PC) (r:R) (fi:FI) (ds:List Nat) (o:Oper):Prop:=∀ tm le s k,¬((op pc fi ds o).run r tm le s k).isBad→∃ v s',k v s'=(op pc fi ds o).run r tm le s k ∧
 ∀ n0 w0 ν w tmps df b cs (all:Array Oper) i rest kk,fi.ng≤P.globals.size→St P n0 w0 ν s w→yq ν P.globals.size→zeS ν fi ds tm le tmps o→Env ν b cs tm df→all[i]?=some o→Region.wanted o (yielded all tmps)=true →
  ∃ ν' y w',Out P n0 w0 ν s ν' s' w'∧VR ν' v y∧Steps P (lone (b.fr tmps df (.inRegion all (i::rest)::kk)) cs w) (lone (b.fr (j0 tmps o.dst y) df (.inRegion all rest::kk)) cs w')
theorem OpS.m {pc:PC} (hd:zW o=false) (h:OpS P pc fi ds o):OpM P pc r fi ds o:=fun tm le s k hnb=>by
 obtain ⟨v,s',h1,h2⟩:=h r tm le s k hnb
 refine ⟨v,s',h1,fun n0 w0 ν w tmps df b cs all i rest kk hng hst hG hf he ho hw=>?_⟩
 obtain ⟨ν',y,w',h3,h4,h5⟩:=h2 n0 w0 ν w tmps hst (hG.le hng) hf
 exact ⟨ν',y,w',h3,h4,.one (wp ho hw (.inr hd) h5)⟩
def zMw (P:Program) (pc:PC) (r:R) (fi:FI) (ds:List Nat) (o:Oper):Prop:=∀ tm le s k,¬((op pc fi ds o).run r tm le s k).isBad→∃ X:F,zD X k=(op pc fi ds o).run r tm le s k ∧
 ∀ n0 w0 ν w tmps df b cs (all:Array Oper) i rest kk,fi.ng≤P.globals.size→St P n0 w0 ν s w→yq ν P.globals.size→zeS ν fi ds tm le tmps o→Env ν b cs tm df→all[i]?=some o→Region.wanted o (yielded all tmps)=true →
  X.Has fun v s'=>∃ ν' y w',Out P n0 w0 ν s ν' s' w'∧VR ν' v y∧Steps P (lone (b.fr tmps df (.inRegion all (i::rest)::kk)) cs w) (lone (b.fr (j0 tmps o.dst y) df (.inRegion all rest::kk)) cs w')
theorem OpM.s {pc:PC} (h:OpM P pc r fi ds o):zMw P pc r fi ds o:=fun tm le s k hnb=>by
 obtain ⟨v,s',h1,h2⟩:=h tm le s k hnb
 exact ⟨.ret v s',h1,h2⟩
variable {args:List V} {f:Nat}
theorem zjS (hone:r.One) {s:S} {k:V→S→A} (hnb:¬(wY r f args s k).isBad):∃ v s',r.call f args s=.ret v s'∧k v s'=wY r f args s k:=by
 unfold wY at hnb ⊢
 obtain ⟨v,s',h⟩:=hone f args s (zcr hnb)
 rw [h] at hnb ⊢
 exact ⟨v,s',rfl,rfl⟩
variable {all:Array Oper} {kk:List Item} {rest:List Nat} {cargs:List Value} {i n0:Nat} {w0:World}
theorem zk5 {s:S} {X:F} (hX:wW P f args s X) {w:World} (hst:St P n0 w0 ν s w) (hG:yq ν P.globals.size) (hv:VRs ν args cargs) {df:List Deferred} {b:Base} {cs:List Frame} (ho:all[i]?=some o) (hw:Region.wanted o (yielded all tmps)=true) (hd:zW o=false)
  (hex:∀ w,(execOp (ev tmps) o).run P w=(callFunc f ⟨cargs⟩).run P w) :
  X.Has fun v s'=>∃ ν' y w',Out P n0 w0 ν s ν' s' w'∧VR ν' v y∧Steps P (lone (b.fr tmps df (.inRegion all (i::rest)::kk)) cs w) (lone (b.fr (j0 tmps o.dst y) df (.inRegion all rest::kk)) cs w'):=by
 obtain ⟨h1,h2⟩:=hX n0 w0 ν w cargs hst hG hv
 refine (h2 .normal (b.fr tmps df (.inRegion all (i::rest)::kk)::cs) (.inl rfl)).imp fun v s' ⟨ν',y,w',fr,h3,h4,h5,h6,h7,h8,h9,fn,h10,h11⟩=>?_
 refine ⟨ν',y,w',h3,h4,.head (zex ho hw (.inr hd) (by rw [hex];exact h1)) (h5.trans (.one ?_))⟩
 have:=step_leave_returned (P:=P) (fr:=fr) (c:=b.fr tmps df (.inRegion all (i::rest)::kk)) (cs:=cs) (w:=w') (v:=y) ⟨h7,h8,h6,fn,by rw [h9];exact h10,h11⟩
 rw [this,zag,ho]
 rfl
theorem zE8 {s s':S} (hX:qO P f args s v s') {w:World} (hst:St P n0 w0 ν s w) (hG:yq ν P.globals.size) (hv:VRs ν args cargs) {df:List Deferred} {b:Base} {cs:List Frame} (ho:all[i]?=some o) (hw:Region.wanted o (yielded all tmps)=true) (hd:zW o=false)
  (hex:∀ w,(execOp (ev tmps) o).run P w=(callFunc f ⟨cargs⟩).run P w) :
  ∃ ν' y w',Out P n0 w0 ν s ν' s' w'∧VR ν' v y∧Steps P (lone (b.fr tmps df (.inRegion all (i::rest)::kk)) cs w) (lone (b.fr (j0 tmps o.dst y) df (.inRegion all rest::kk)) cs w') :=
 zk5 (X:=.ret v s') hX hst hG hv ho hw hd hex
theorem zMq {a b:Bool} (h:zOA a b=true):a=b:=by cases a<;>cases b<;>first | rfl | cases h
theorem zzl {a b:B} (h:ziO a b=true):a=.none∨a=b:=by
 cases a with
 | none=>exact .inl rfl
 | row l n el gr mn f1 f2 =>
  right
  cases b<;>first | (cases h;done) | skip
  obtain ⟨h1,h⟩:=zh h
  obtain ⟨h2,h⟩:=zh h
  obtain ⟨h3,h⟩:=zh h
  obtain ⟨h4,h⟩:=zh h
  obtain ⟨h5,h⟩:=zh h
  obtain ⟨h6,h⟩:=zh h
  rw [bq h1,bq h2,zMq h3,bq h4,bq h5,bq h6,zCv h]
 | map es ck =>
  right
  cases b<;>first | (cases h;done) | skip
  obtain ⟨h1,h⟩:=zh h
  rw [bq h1,zhW h]
 | _=>cases h
theorem zz1:∀ {a b:Tr B},zIQ a b=true→∀ k,Tr.get B.none k a=.none∨Tr.get B.none k a=Tr.get B.none k b
 | .lf,b,_,k=>.inl (zer _ k)
 | .nd l v r,.lf,h,_=>by cases h
 | .nd l v r,.nd l' v' r',h,k=>by
  have e:zIQ (.nd l v r) (.nd l' v' r')=zq (ziO v v') (zq (zIQ l l') (zIQ r r')):=rfl
  rw [e] at h
  obtain ⟨h1,h2⟩:=zh h
  obtain ⟨h2,h3⟩:=zh h2
  cases k with
  | h=>exact zzl h1
  | o p=>exact zz1 h2 p
  | i p=>exact zz1 h3 p
theorem zGO {a b:S} (h:zDj a b=true):a.nx=b.nx∧∀ k,Tr.get B.none k a.h=.none∨Tr.get B.none k a.h=Tr.get B.none k b.h:=by
 obtain ⟨h1,h2⟩:=zh (show zq (K.beq a.nx b.nx) (zIQ a.h b.h)=true from h)
 exact ⟨(K.beq_iff _ _).1 h1,zz1 h2⟩
variable {s0:S}
theorem St.sub {w:World} {s:S} (hst:St P n0 w0 ν s w) (h:zDj s0 s=true):St P n0 w0 ν s0 w:=by
 obtain ⟨h1,h2⟩:=zGO h
 have hl:∀ k,(Tr.get B.none k s0.h).live→Tr.get B.none k s0.h=Tr.get B.none k s.h:=by
  intro k hk
  rcases h2 k with e | e
  ·rw [e] at hk;exact hk.elim
  ·exact e
 refine ⟨hst.below,hst.n0le,fun a=>?_,fun a ha=>?_,fun a1 v1 b1 d1 a2 v2 d2 e1 e2 l1 l2=>hst.sep _ _ _ _ _ _ _ e1 e2 (by rw [←hl _ l1];exact l1) (by rw [←hl _ l2];exact l2),fun a v b δ hb hlv=>?_⟩
 ·rcases h2 a with e | e
  ·rw [e];trivial
  ·rw [e];exact hst.rows a
 ·obtain ⟨q1,q2⟩:=hst.fresh a (by rw [←h1];exact ha)
  refine ⟨q1,?_⟩
  rcases h2 a with e | e
  ·exact e
  ·rw [e];exact q2
 ·rw [hl a hlv]
  exact hst.own a v b δ hb (by rw [←hl a hlv];exact hlv)
variable {s1:S}
theorem Out.sub {w':World} {s:S} (h:zDj s0 s=true) (o:Out P n0 w0 ν s0 ν' s1 w'):Out P n0 w0 ν s ν' s1 w':=by
 obtain ⟨h1,h2⟩:=zGO h
 refine ⟨o.le,o.st,by rw [←h1];exact o.nx,fun a ha hlt=>?_⟩
 obtain ⟨k1,k2⟩:=o.keep a ha (by rw [h1];exact hlt)
 refine ⟨k1,?_⟩
 rcases k2 with k2 | k2
 ·rcases h2 a with e | e
  ·right;rw [k2,e]
  ·left;rw [k2,e]
 ·exact .inr k2
theorem zwa {hs:List Hook} {s:S} {k:V→S→A} {d:Unit→A} (hnb:¬(zd4 hs args s k d).isBad):(∃ h∈hs,h.args=args∧zDj h.s0 s=true∧k h.v h.s1=zd4 hs args s k d)∨d ()=zd4 hs args s k d:=by
 induction hs with
 | nil=>exact .inr rfl
 | cons h hs ih =>
  have e:zd4 (h::hs) args s k d=@Bool.rec (fun _=>A) (zd4 hs args s k d) (k h.v h.s1) (zq (zj4 h.args args) (zDj h.s0 s)):=rfl
  cases hc:zq (zj4 h.args args) (zDj h.s0 s) with
  | true =>
   obtain ⟨h1,h2⟩:=zh hc
   exact .inl ⟨h,by simp,zCv h1,h2,by rw [e,hc]⟩
  | false =>
   rw [e,hc] at hnb ⊢
   rcases ih hnb with ⟨g,g1,g2⟩ | g
   ·exact .inl ⟨g,by simp [g1],g2⟩
   ·exact .inr g
theorem zc6 {f:Nat}:∀ {l:List Hook} {h:Hook},h∈zbF f l→h∈l∧h.f=f
 | [],_,hm=>by simp [zbF] at hm
 | g::l,h,hm=>by
  simp only [zbF] at hm
  cases hb:Nat.beq f g.f with
  | false=>rw [hb] at hm;have:=zc6 (l:=l) hm;exact ⟨by simp [this.1],this.2⟩
  | true =>
   rw [hb] at hm
   rcases kaj.1 hm with h1 | h1
   ·subst h1;exact ⟨by simp,(bq hb).symm⟩
   ·have:=zc6 (l:=l) h1;exact ⟨by simp [this.1],this.2⟩
theorem qO.sub {s:S} (hX:qO P f args s0 v s1) (h:zDj s0 s=true):qO P f args s v s1:=by
 intro n0 w0 ν w cargs hst hG hv
 obtain ⟨h1,h2⟩:=hX n0 w0 ν w cargs (hst.sub h) hG hv
 refine ⟨h1,fun kind cs hc=>?_⟩
 obtain ⟨ν',y,w',fr,h3,h4⟩:=h2 kind cs hc
 exact ⟨ν',y,w',fr,h3.sub h,h4⟩
theorem zG4 (c:UInt8):∀ (l:List UInt8) (n:Nat) (k:V→A),∃ v,k v=zBq c.toNat (l.map UInt8.toNat) n k∧∀ ν,VR ν v (.int .i64 (if Lib.indexByte l c=-1 then -1 else n+Lib.indexByte l c))
 | [],n,k=>⟨.neg .i64 0,rfl,fun ν=>rfl⟩
 | b::l,n,k=>by
  have e:zBq c.toNat ((b::l).map UInt8.toNat) n k=(match Nat.beq b.toNat c.toNat with | true=>k (.nat .i64 n) | false=>fN (Nat.succ n) fun n=>zBq c.toNat (l.map UInt8.toNat) n k):=by
   show @Bool.rec (fun _=>A) _ _ (Nat.beq b.toNat c.toNat)=_
   cases Nat.beq b.toNat c.toNat<;>rfl
  rw [e]
  have hbc:Nat.beq b.toNat c.toNat=(b == c):=by
   rw [kaJ,Nat.beq_eq,beq_iff_eq]
   exact UInt8.toNat_inj
  rw [hbc]
  cases hb:(b == c) with
  | true =>
   refine ⟨_,rfl,fun ν=>?_⟩
   have:Lib.indexByte (b::l) c=0:=by unfold Lib.indexByte;rw [hb];rfl
   rw [this]
   simp [VR]
  | false =>
   simp only [zH]
   obtain ⟨v,h1,h2⟩:=zG4 c l (n+1) k
   refine ⟨v,h1,fun ν=>?_⟩
   have h3:=h2 ν
   have:Lib.indexByte (b::l) c=if Lib.indexByte l c=-1 then -1 else Lib.indexByte l c+1:=by
    conv=>lhs;unfold Lib.indexByte
    rw [hb];simp
   rw [this]
   have hge:=Lib.indexByte_ge l c
   by_cases h0:Lib.indexByte l c=-1
   ·rw [if_pos h0] at h3
    rw [if_pos h0]
    exact h3
   ·rw [if_neg h0] at h3
    rw [if_neg h0,if_neg (by omega)]
    rw [show (n:Int)+(Lib.indexByte l c+1)=((n+1:Nat):Int)+Lib.indexByte l c by omega]
    exact h3
theorem zKr (b:Nat):∀ (l:List Nat) (n:Nat) (k:V→A),∃ v,k v=zBq b l n k
 | [],n,k=>⟨_,rfl⟩
 | x::l,n,k=>by
  have e:zBq b (x::l) n k=(match Nat.beq x b with | true=>k (.nat .i64 n) | false=>fN (Nat.succ n) fun n=>zBq b l n k):=by
   show @Bool.rec (fun _=>A) _ _ (Nat.beq x b)=_
   cases Nat.beq x b<;>rfl
  rw [e]
  cases Nat.beq x b with
  | true=>exact ⟨_,rfl⟩
  | false=>simp only [zH];exact zKr b l (n+1) k
theorem zHD {e:Nat} {s:S} {k:V→S→A} (hnb:¬(zFD e args s k).isBad):∃ v,k v s=zFD e args s k∧∀ (ν:Val) (cargs:Array Value),VRs ν args cargs.toList→∃ y,VR ν v y∧∀ g,zIT e=some g→∀ w,(g cargs).run P w=.ok y w:=by
 rcases e with _ | _ | e
 ·have e1:zFD 0 args s k=zxU args fun x=>k x s:=rfl
  rw [e1] at hnb ⊢
  obtain ⟨x,ea,h1⟩:=zA8 hnb
  subst ea
  refine ⟨x,h1,fun ν cargs hv=>?_⟩
  obtain ⟨y,e2,h2⟩:=hv.one
  subst e2
  refine ⟨y,h2,fun g hg w=>?_⟩
  simp only [zIT,Option.some.injEq] at hg
  subst hg
  rfl
 ·have e1:zFD 1 args s k=ztM args fun x y=>@V.rec mA mU eA eC eC eB (fun l=>@V.rec mA mU eA (fun j b=>@Bool.rec (fun _=>A) eA (zBq b l 0 fun v=>k v s) (zq (yl j .u8) (Nat.blt b 256))) eC eB eB eD eF eF eB eC eD eF eD () tE y) eD eF eF eB eC eD eF eD () tE x:=rfl
  rw [e1] at hnb ⊢
  obtain ⟨x,y,ea,h1⟩:=zEI hnb
  subst ea
  rw [←h1] at hnb ⊢
  cases x with
  | str l =>
   cases y with
   | nat j b =>
    simp only at hnb ⊢
    cases hc:zq (yl j .u8) (Nat.blt b 256) with
    | false=>rw [hc] at hnb;exact absurd trivial hnb
    | true =>
     obtain ⟨q1,q2⟩:=zh hc
     have q1:=(qU _ _).1 q1
     have q2:b<256:=by simpa [Nat.blt_eq] using q2
     subst q1
     simp only
     -- the bytes
     have hb:(UInt8.ofNat b).toNat=b:=by simp;omega
     by_cases hl:∃ m:List UInt8,l=m.map UInt8.toNat
     ·obtain ⟨m,rfl⟩:=hl
      obtain ⟨v,g1,g2⟩:=zG4 (UInt8.ofNat b) m 0 (fun v=>k v s)
      rw [hb] at g1
      refine ⟨v,g1,fun ν cargs hv=>?_⟩
      obtain ⟨u,z,e2,⟨t,e3,e4⟩,e5⟩:=hv.two
      simp only [VR] at e5
      subst e2 e3 e5
      have hm:t.data.toList=m:=by
       have h6:qm t=qm ⟨m.toArray⟩:=by rw [e4];rfl
       have h7:=zBg h6
       rw [h7]
      refine ⟨_,g2 ν,fun g hg w=>?_⟩
      simp only [zIT,Option.some.injEq] at hg
      subst hg
      rw [run_indexByte_string,Lib.firstIdx_eq,hm]
      have hge:=Lib.indexByte_ge m (UInt8.ofNat b)
      have hbb:(Int.ofNat b).toNat.toUInt8=UInt8.ofNat b:=rfl
      rw [hbb]
      congr 2
      split
      ·assumption
      ·simp
     ·obtain ⟨v,g1⟩:=zKr b l 0 (fun v=>k v s)
      refine ⟨v,g1,fun ν cargs hv=>?_⟩
      obtain ⟨u,z,e2,⟨t,e3,e4⟩,e5⟩:=hv.two
      exact absurd ⟨_,e4.symm⟩ hl
   | _=>exact absurd trivial hnb
  | _=>exact absurd trivial hnb
 ·exact absurd trivial hnb
theorem zbL {c:Call} (ho:o.op=.call c) (hc:c.callee=.value (.func f)) (tmps:Array Value) (w:World):(execOp (ev tmps) o).run P w=(callFunc f ⟨c.args.toList.map (ev tmps)⟩).run P w:=by
 have e:(#[]++c.args.map (ev tmps)++#[]:Array Value)=⟨c.args.toList.map (ev tmps)⟩:=by apply Array.ext';simp
 simp only [execOp,ho,resolve,hc,ev,Deferred.ofValue,Sem.run_bind,Sem.run_pure,Result.andThen_ok,invoke]
 rw [e]
theorem zEX {pc:PC} (hp:PcOk P pc) (hr:RS P pc r) (hone:r.One) (hh:∀ h∈pc.hooks,jR P h) {c:Call} (ho:o.op=.call c) (hc:c.callee=.value (.func f)):OpM P pc r fi ds o:=by
 intro tm le s k hnb
 have hd:zW o=false:=by simp [zW,ho]
 have fin:∀ (args:List V) (v:V) (s':S),qO P f args s v s'→(∀ (ν:Val) (tmps:Array Value),yq ν fi.ng→(∀ x∈c.args.toList,OdR ν fi ds tm le tmps x)→VRs ν args (c.args.toList.map (ev tmps))) →
   ∀ n0 w0 ν w tmps df b cs (all:Array Oper) i rest kk,fi.ng≤P.globals.size→St P n0 w0 ν s w→yq ν P.globals.size→zeS ν fi ds tm le tmps o→Env ν b cs tm df→all[i]?=some o→Region.wanted o (yielded all tmps)=true →
   ∃ ν' y w',Out P n0 w0 ν s ν' s' w'∧VR ν' v y∧Steps P (lone (b.fr tmps df (.inRegion all (i::rest)::kk)) cs w) (lone (b.fr (j0 tmps o.dst y) df (.inRegion all rest::kk)) cs w'):=by
  intro args v s' hX h2 n0 w0 ν w tmps df b cs all i rest kk hng hst hG hf he hao hw
  exact zE8 hX hst hG (h2 ν tmps (hG.le hng) (fun x hx=>hf x (zaw ho hx))) hao hw hd (fun w=>zbL ho hc tmps w)
 cases hx:zsB f pc.ext with
 | succ e =>
  have e:(op pc fi ds o).run r tm le s k=(zaJ fi ds c.args.toList).run tm le fun args=>zFD e args s k:=by simp only [op,ho,hc,hx]
  rw [e] at hnb ⊢
  obtain ⟨args,h1,h2⟩:=jm fi ds c.args.toList tm le _ hnb
  rw [←h1] at hnb ⊢
  obtain ⟨v,h3,h4⟩:=zHD (P:=P) hnb
  refine ⟨v,s,h3,fun n0 w0 ν w tmps df b cs all i rest kk hng hst hG hf he hao hw=>?_⟩
  obtain ⟨y,h5,h6⟩:=h4 ν ⟨c.args.toList.map (ev tmps)⟩ (h2 ν tmps (hG.le hng) (fun x hx=>hf x (zaw ho hx)))
  obtain ⟨g,h7,h8⟩:=hp.ext f _ hx ⟨c.args.toList.map (ev tmps)⟩ w
  refine ⟨ν,y,w,Out.refl hst,h5,.one (wp hao hw (.inr hd) (.inl ?_))⟩
  rw [zbL ho hc,h8,h6 g h7 w]
  rfl
 | zero =>
  cases hhk:zbF f pc.hooks with
  | nil =>
   have e:(op pc fi ds o).run r tm le s k=(zaJ fi ds c.args.toList).run tm le fun args=>wY r f args s k:=by simp only [op,ho,hc,zH,hhk,hx]
   rw [e] at hnb ⊢
   obtain ⟨args,h1,h2⟩:=jm fi ds c.args.toList tm le _ hnb
   rw [←h1] at hnb ⊢
   obtain ⟨v,s',h3,h4⟩:=zjS hone hnb
   exact ⟨v,s',h4,fin args v s' (hr.call f args s v s' h3) h2⟩
  | cons h hs =>
   have e:(op pc fi ds o).run r tm le s k=(zaJ fi ds c.args.toList).run tm le fun args=>zd4 (h::hs) args s k fun _=>wY r f args s k:=by simp only [op,ho,hc,zH,hhk,hx]
   rw [e] at hnb ⊢
   obtain ⟨args,h1,h2⟩:=jm fi ds c.args.toList tm le _ hnb
   rw [←h1] at hnb ⊢
   rcases zwa hnb with ⟨g,g1,g2,g3,g4⟩ | g
   ·rw [←hhk] at g1
    obtain ⟨k1,k2⟩:=zc6 g1
    have:=hh g k1
    unfold jR at this
    rw [k2,g2] at this
    exact ⟨g.v,g.s1,g4,fin args g.v g.s1 (this.sub g3) h2⟩
   ·rw [←g] at hnb ⊢
    obtain ⟨v,s',h3,h4⟩:=zjS hone hnb
    exact ⟨v,s',h4,fin args v s' (hr.call f args s v s' h3) h2⟩
theorem zDE {pc:PC} (hp:PcOk P pc) (hr:RS P pc r) (hh:∀ h∈pc.hooks,jR P h) {c:Call} (ho:o.op=.call c) (hc:c.callee=.value (.func f)):zMw P pc r fi ds o:=by
 intro tm le s k hnb
 have hd:zW o=false:=by simp [zW,ho]
 have fin:∀ (args:List V) (X:F),wW P f args s X→(∀ (ν:Val) (tmps:Array Value),yq ν fi.ng→(∀ x∈c.args.toList,OdR ν fi ds tm le tmps x)→VRs ν args (c.args.toList.map (ev tmps))) →
   ∀ n0 w0 ν w tmps df b cs (all:Array Oper) i rest kk,fi.ng≤P.globals.size→St P n0 w0 ν s w→yq ν P.globals.size→zeS ν fi ds tm le tmps o→Env ν b cs tm df→all[i]?=some o→Region.wanted o (yielded all tmps)=true →
   X.Has fun v s'=>∃ ν' y w',Out P n0 w0 ν s ν' s' w'∧VR ν' v y∧Steps P (lone (b.fr tmps df (.inRegion all (i::rest)::kk)) cs w) (lone (b.fr (j0 tmps o.dst y) df (.inRegion all rest::kk)) cs w'):=by
  intro args X hX h2 n0 w0 ν w tmps df b cs all i rest kk hng hst hG hf he hao hw
  exact zk5 hX hst hG (h2 ν tmps (hG.le hng) (fun x hx=>hf x (zaw ho hx))) hao hw hd (fun w=>zbL ho hc tmps w)
 cases hx:zsB f pc.ext with
 | succ e =>
  have e:(op pc fi ds o).run r tm le s k=(zaJ fi ds c.args.toList).run tm le fun args=>zFD e args s k:=by simp only [op,ho,hc,hx]
  rw [e] at hnb ⊢
  obtain ⟨args,h1,h2⟩:=jm fi ds c.args.toList tm le _ hnb
  rw [←h1] at hnb ⊢
  obtain ⟨v,h3,h4⟩:=zHD (P:=P) hnb
  refine ⟨.ret v s,h3,fun n0 w0 ν w tmps df b cs all i rest kk hng hst hG hf he hao hw=>?_⟩
  obtain ⟨y,h5,h6⟩:=h4 ν ⟨c.args.toList.map (ev tmps)⟩ (h2 ν tmps (hG.le hng) (fun x hx=>hf x (zaw ho hx)))
  obtain ⟨g,h7,h8⟩:=hp.ext f _ hx ⟨c.args.toList.map (ev tmps)⟩ w
  refine ⟨ν,y,w,Out.refl hst,h5,.one (wp hao hw (.inr hd) (.inl ?_))⟩
  rw [zbL ho hc,h8,h6 g h7 w]
  rfl
 | zero =>
  cases hhk:zbF f pc.hooks with
  | nil =>
   have e:(op pc fi ds o).run r tm le s k=(zaJ fi ds c.args.toList).run tm le fun args=>wY r f args s k:=by simp only [op,ho,hc,zH,hhk,hx]
   rw [e] at hnb ⊢
   obtain ⟨args,h1,h2⟩:=jm fi ds c.args.toList tm le _ hnb
   rw [←h1] at hnb ⊢
   exact ⟨r.call f args s,rfl,fin args _ (hr.calls f args s (zcr hnb)) h2⟩
  | cons h hs =>
   have e:(op pc fi ds o).run r tm le s k=(zaJ fi ds c.args.toList).run tm le fun args=>zd4 (h::hs) args s k fun _=>wY r f args s k:=by simp only [op,ho,hc,zH,hhk,hx]
   rw [e] at hnb ⊢
   obtain ⟨args,h1,h2⟩:=jm fi ds c.args.toList tm le _ hnb
   rw [←h1] at hnb ⊢
   rcases zwa hnb with ⟨g,g1,g2,g3,g4⟩ | g
   ·rw [←hhk] at g1
    obtain ⟨k1,k2⟩:=zc6 g1
    have:=hh g k1
    unfold jR at this
    rw [k2,g2] at this
    exact ⟨.ret g.v g.s1,g4,fin args (.ret g.v g.s1) (this.sub g3) h2⟩
   ·rw [←g] at hnb ⊢
    exact ⟨r.call f args s,rfl,fin args _ (hr.calls f args s (zcr hnb)) h2⟩
section moves
variable {b:Base} {tm:Array Value} {df:List Deferred} {k:List Item} {cs:List Frame} {w w':World} {c:Frame}
variable {l:Nat}
theorem zKa (hro:b.ro=some l) (h:(Instr.beginRound l).run P w=.ok () w'):step P (lone (b.fr tm df (.beginRound::k)) cs w)=.next (lone (b.fr tm df k) cs w') :=
 step_lone_go (by simp [stepG,stepG.exec,stepG.apply,Base.fr,hro,h,Frame.finish])
variable {v:Value}
theorem zIK (hro:b.ro=some l) (hk:b.kind=.normal) (h:(Instr.endRound l none).run P w=.ok v w'):step P (lone (b.fr tm df []) (c::cs) w)=.next (lone (c.finish v) cs w') :=
 step_lone_go (by simp [stepG,stepG.exec,Base.fr,hro,hk,h,doReturn])
theorem zIJ (hro:b.ro=some l) (hk:b.kind=.normal) (h:(Instr.endRound l (some .ret)).run P w=.ok v w'):step P (lone (b.fr tm df (.code .ret::k)) (c::cs) w)=.next (lone (c.finish v) cs w') :=
 step_lone_go (by simp [stepG,stepG.exec,Base.fr,hro,hk,h,doReturn])
theorem zIC {i:Nat} (hro:b.ro=some l) (hk:b.kind=.normal) (hx:exitTo i k=none) (h:(Instr.endRound l (some (.exit i))).run P w=.ok v w'):step P (lone (b.fr tm df (.code (.exit i)::k)) (c::cs) w)=.next (lone (c.finish v) cs w') :=
 step_lone_go (by simp [stepG,stepG.exec,Base.fr,hro,hk,h,doReturn,hx])
end moves
theorem zbV {w:World} {b:Nat} {l:Loop} (h:w.heap[b]?=some (.loop l)):(Instr.getLoop b).run P w=.ok l w:=by simp [Instr.getLoop,getObj,Sem.run,h]
theorem zbd {w:World} {b:Nat} {l:Loop} (h:w.heap[b]?=some (.loop l)) (o:Obj):(setObj b o).run P w=.ok () { w with heap:=w.heap.setIfInBounds b o }:=by simp [setObj,Sem.run,h]
theorem zhc {n0:Nat} {w0 w:World} {ν:Val} {s:S} (hst:St P n0 w0 ν s w) {a:K} {st:Nat} {pend:Option Code} {fi:FI} {tm:T} {ps:List Tmp} {asg body:Code} {df:K} (hB:Tr.get B.none a s.h=.loop st pend fi tm ps asg body df) {b:Nat} (hb:ν.blk a 0=some (b,0)) :
  (∀ v p,ν.blk a v=some p→v=0)∧fi.ng≤P.globals.size∧∃ ls fn tmps d,w.heap[b]?=some (.loop { state:=ls,pending:=pend,fn:=fn,tmps:=tmps,params:=⟨ps⟩,assign:=asg,body:=body,defers:=d })∧lst st ls∧FrR ν fi T.get tm tmps∧(∃ δ',ν.blk df 0=some (d,δ')):=by
 have h:=hst.rows a
 rw [hB] at h
 obtain ⟨_,h1,h2⟩:=h 0 b 0 hb
 exact ⟨fun v p hp=>(h v p.1 p.2 hp).1,h1,h2⟩
theorem zqX {n0:Nat} {w0 w:World} {ν:Val} {s:S} (hst:St P n0 w0 ν s w) {a:K} {st st':Nat} {pend pend':Option Code} {fi:FI} {tm:T} {ps:List Tmp} {asg body:Code} {df:K} (hB:Tr.get B.none a s.h=.loop st pend fi tm ps asg body df) {b:Nat} (hb:ν.blk a 0=some (b,0))
  {ls ls':LoopState} {fn d:Nat} {tmps:Array Value} (hw:w.heap[b]?=some (.loop { state:=ls,pending:=pend,fn:=fn,tmps:=tmps,params:=⟨ps⟩,assign:=asg,body:=body,defers:=d })) (hl:lst st' ls') :
  St P n0 w0 ν ⟨Tr.set B.none (.loop st' pend' fi tm ps asg body df) a s.h,s.nx⟩ { w with heap:=w.heap.setIfInBounds b (.loop { state:=ls',pending:=pend',fn:=fn,tmps:=tmps,params:=⟨ps⟩,assign:=asg,body:=body,defers:=d }) }∧zFF ν s ⟨Tr.set B.none (.loop st' pend' fi tm ps asg body df) a s.h,s.nx⟩:=by
 obtain ⟨h1,h2,ls0,fn0,tmps0,d0,h3,h4,h5,h6⟩:=zhc hst hB hb
 rw [hw] at h3
 simp only [Option.some.injEq,Obj.loop.injEq,Loop.mk.injEq] at h3
 obtain ⟨e1,_,e2,e3,_,_,_,e4⟩:=h3
 subst e2 e3 e4
 refine ⟨ziv hst hb (by rw [hB];trivial) (by rw [hB];exact fun h=>h) h1 (fun h=>h) (fun w' hw'=>?_),wH hb _⟩
 intro v b' δ' hb'
 have hv0:=h1 v _ hb'
 subst hv0
 rw [hb] at hb'
 simp only [Option.some.injEq,Prod.mk.injEq] at hb'
 rw [←hb'.1]
 exact ⟨rfl,h2,ls',fn,tmps,d,hw',hl,h5,h6⟩
theorem zgL {s:S} {l:K} {st:Nat} {pend:Option Code} {c:S→A} (hnb:¬(zdE s l st pend c).isBad):∃ st0 p0 fi tm ps asg body df,Tr.get B.none l s.h=.loop st0 p0 fi tm ps asg body df∧c ⟨Tr.set B.none (.loop st pend fi tm ps asg body df) l s.h,s.nx⟩=zdE s l st pend c:=by
 unfold zdE at hnb ⊢
 rw [zK] at hnb ⊢
 cases hB:Tr.get B.none l s.h with
 | loop st0 p0 fi tm ps asg body df=>exact ⟨st0,p0,fi,tm,ps,asg,body,df,rfl,by simp only [qp]⟩
 | _=>rw [hB] at hnb;exact absurd trivial hnb
theorem zIS {s:S} {l:K} {c:S→A} (hnb:¬(zz3 s l c).isBad):∃ p0 fi tm ps asg body df,Tr.get B.none l s.h=.loop 0 p0 fi tm ps asg body df∧c ⟨Tr.set B.none (.loop 1 p0 fi tm ps asg body df) l s.h,s.nx⟩=zz3 s l c:=by
 unfold zz3 at hnb ⊢
 rw [zK] at hnb ⊢
 cases hB:Tr.get B.none l s.h with
 | loop st0 p0 fi tm ps asg body df =>
  rw [hB] at hnb
  cases hz:Nat.beq st0 0 with
  | false=>simp only [hz] at hnb;exact absurd trivial hnb
  | true =>
   have:=bq hz
   subst this
   exact ⟨p0,fi,tm,ps,asg,body,df,rfl,by simp only [qp];rfl⟩
 | _=>rw [hB] at hnb;exact absurd trivial hnb
theorem zkY {fi:FI}:∀ {ps:List Tmp} {args:List V} {ltm:T} {c:T→A},¬(zen fi ps args ltm c).isBad→∃ rtm,c rtm=zen fi ps args ltm c∧∀ (ν:Val) (tmps:Array Value) (cargs:List Value),FrR ν fi T.get ltm tmps→VRs ν args cargs →
  ps.length=cargs.length∧FrR ν fi T.get rtm ((ps.zip cargs).foldl (fun (t:Array Value) (p:Tmp × Value)=>t.setIfInBounds p.1 p.2) tmps)
 | [],[],ltm,c,_=>⟨ltm,rfl,fun ν tmps cargs h hv=>by simp only [VRs] at hv;subst hv;exact ⟨rfl,h⟩⟩
 | [],_::_,_,_,hnb=>absurd trivial hnb
 | _::_,[],_,_,hnb=>absurd trivial hnb
 | p::ps,v::vs,ltm,c,hnb=>by
  have e:zen fi (p::ps) (v::vs) ltm c=@Bool.rec (fun _=>A) eA ((puC (yc fi.ns p)).run v ltm (fun tm=>zen fi ps vs tm c)) (zq (zat (yE fi.ns p)) (Nat.blt p fi.nt)):=rfl
  rw [e] at hnb ⊢
  cases hc:zq (zat (yE fi.ns p)) (Nat.blt p fi.nt) with
  | false=>rw [hc] at hnb;exact absurd trivial hnb
  | true =>
   obtain ⟨h1,h2⟩:=zh hc
   have hns:yE fi.ns p=false:=by cases h:yE fi.ns p with | false=>rfl | true=>rw [h] at h1;cases h1
   have hlt:p<fi.nt:=by simpa [Nat.blt_eq] using h2
   simp only [hc] at hnb ⊢
   obtain ⟨_,h4,h5⟩:=zbt (zzb hnb)
   obtain ⟨tm1,h6,h7⟩:=ze3 hnb
   rw [←h6] at hnb ⊢
   rw [h5] at h7
   obtain ⟨rtm,h8,h9⟩:=zkY hnb
   refine ⟨rtm,h8,fun ν tmps cargs hf hv=>?_⟩
   obtain ⟨x,r,e1,hv1,hv2⟩:=hv
   subst e1
   have:=h9 ν (tmps.setIfInBounds p x) r ⟨by simp [hf.1],fun t g1 g2=>?_⟩ hv2
   ·exact ⟨by simp [this.1],by simpa using this.2⟩
   ·rw [zci (by rw [hf.1];exact hlt),h7]
    by_cases ht:t=p
    ·subst ht;rw [if_pos rfl,if_pos rfl];exact hv1
    ·rw [if_neg ht,if_neg (fun e=>ht (ziM g1 hns e))]
     exact hf.2 t g1 g2
def znY (P:Program):Next→Frame
 | .round l f tmps asg body=>Frame.round l f tmps asg body .normal
 | .enter f args=>Frame.enter P f args .normal
 | _=>default
def Next.begins:Next→Prop
 | .round ..=>True
 | .enter ..=>True
 | _=>False
def VX (P:Program) (fv:V) (args:List V) (s:S) (v:V) (s':S):Prop:=∀ n0 w0 ν w (y:Value) (cargs:List Value),St P n0 w0 ν s w→yq ν P.globals.size→VR ν fv y→VRs ν args cargs →
 ∃ N,Next.begins N∧(∀ C:Sem Deferred→Sem Next,C=(fun D=>do let d ←D;invoke d.target d.args)→(C (Deferred.ofValue y ⟨cargs⟩)).run P w=.ok N w)∧∀ (c:Frame) (cs:List Frame),∃ ν' z w',Out P n0 w0 ν s ν' s' w'∧VR ν' v z∧Steps P (lone (znY P N) (c::cs) w) (lone (c.finish z) cs w')
theorem zJz {l:K} {jump:Option Code} {s:S} {k:V→S→A} (hnb:¬(zsU l jump s k).isBad):∃ st0 p0 fi tm ps asg body df,Tr.get B.none l s.h=.loop st0 p0 fi tm ps asg body df∧k (.bool jump.isNone) ⟨Tr.set B.none (.loop (if jump.isNone then 0 else 2) jump fi tm ps asg body df) l s.h,s.nx⟩=zsU l jump s k:=by
 cases jump with
 | none=>exact zgL hnb
 | some c=>exact zgL hnb
theorem zzn {n0:Nat} {w0 w:World} {ν:Val} {s:S} (hst:St P n0 w0 ν s w) {a:K} {st:Nat} {pend:Option Code} {fi:FI} {tm:T} {ps:List Tmp} {asg body:Code} {df:K} (hB:Tr.get B.none a s.h=.loop st pend fi tm ps asg body df) {b:Nat} (hb:ν.blk a 0=some (b,0)) (jump:Option Code) :
  ∃ w',(Instr.endRound b jump).run P w=.ok (.bool jump.isNone) w'∧St P n0 w0 ν ⟨Tr.set B.none (.loop (if jump.isNone then 0 else 2) jump fi tm ps asg body df) a s.h,s.nx⟩ w'∧zFF ν s ⟨Tr.set B.none (.loop (if jump.isNone then 0 else 2) jump fi tm ps asg body df) a s.h,s.nx⟩:=by
 obtain ⟨h1,h2,ls,fn,tmps,d,h3,h4,h5,h6⟩:=zhc hst hB hb
 obtain ⟨g1,g2⟩:=zqX hst hB hb (st':=if jump.isNone then 0 else 2) (pend':=jump) (ls':=if jump.isNone then .ready else .done) h3 (by cases jump<;>rfl)
 exact ⟨_,by simp [Instr.endRound,zbV h3,zbd h3],g1,g2⟩
theorem zns {pc:PC} {r:R} (hr:RS P pc r) {l:K} {args:List V} {tm:T} {s:S} {k:V→S→A} (hnb:¬(zfl r l args tm s k).isBad):∃ v s',k v s'=zfl r l args tm s k∧VX P (.ref 3 l) args s v s':=by
 unfold zfl at hnb ⊢
 rw [zK] at hnb ⊢
 cases hB:Tr.get B.none l s.h with
 | loop st pend fi ltm ps asg body df =>
  rw [hB] at hnb
  simp only at hnb ⊢
  cases hz:Nat.beq st 0 with
  | false=>rw [hz] at hnb;exact absurd trivial hnb
  | true =>
   have:=bq hz
   subst this
   simp only [hz] at hnb ⊢
   obtain ⟨rtm,h1,h2⟩:=zkY hnb
   rw [←h1] at hnb ⊢
   obtain ⟨rtm2,h3,h4⟩:=ze3 hnb
   rw [←h3] at hnb ⊢
   have hfr2:∀ (ν:Val) (tmps:Array Value),FrR ν fi T.get rtm tmps→FrR ν fi T.get rtm2 tmps:=fun ν tmps h=>⟨h.1,fun t g1 g2=>by rw [h4,if_neg (by omega)];exact h.2 t g1 g2⟩
   have h240:T.get rtm2 240=.bad:=by rw [h4,if_pos rfl]
   -- the start, in the machine
   have start:∀ n0 w0 ν w (y:Value) (cargs:List Value),St P n0 w0 ν s w→VR ν (.ref 3 l) y→VRs ν args cargs→∃ b fn tmps,ν.blk l 0=some (b,0)∧fi.ng≤P.globals.size∧FrR ν fi T.get rtm2 tmps ∧
     (∀ C:Sem Deferred→Sem Next,C=(fun D=>do let d ←D;invoke d.target d.args)→(C (Deferred.ofValue y ⟨cargs⟩)).run P w=.ok (.round b fn tmps asg body) w):=by
    intro n0 w0 ν w y cargs hst hy hv
    obtain ⟨b,hb,e⟩:=hy
    subst e
    obtain ⟨g1,g2,ls,fn,tmps,d,g3,g4,g5,g6⟩:=zhc hst hB hb
    obtain ⟨p1,p2⟩:=h2 ν tmps cargs g5 hv
    refine ⟨b,fn,_,hb,g2,hfr2 _ _ p2,fun C hC=>?_⟩
    subst hC
    have hsz:¬(cargs.length≠ps.length):=by simp [p1]
    simp [Deferred.ofValue,invoke,Instr.yield,zbV g3,p1]
   ·have hnb1:¬(r.code fi asg rtm2 s).isBad:=by
     intro h
     cases hc:r.code fi asg rtm2 s with
     | bad m=>rw [hc] at hnb;exact hnb trivial
     | pnc c s1=>rw [hc] at hnb;exact hnb trivial
     | alt x y=>rw [hc] at hnb;exact hnb trivial
     | _=>rw [hc] at h;exact h
    have hX1:=hr.code fi asg rtm2 s hnb1
    cases hc1:r.code fi asg rtm2 s with
    | nrm tm1 s1 =>
     rw [hc1] at hnb hX1
     simp only at hnb ⊢
     obtain ⟨p0,fi1,ltm1,ps1,asg1,body1,df1,hB1,h5⟩:=zIS hnb
     rw [←h5] at hnb ⊢
     generalize hs2:(⟨Tr.set B.none (.loop 1 p0 fi1 ltm1 ps1 asg1 body1 df1) l s1.h,s1.nx⟩:S)=s2 at hnb ⊢
     have hnb2:¬(r.code fi body tm1 s2).isBad:=by
      intro h
      cases hc:r.code fi body tm1 s2 with
      | bad m=>rw [hc] at hnb;exact hnb trivial
      | pnc c s1=>rw [hc] at hnb;exact hnb trivial
      | alt x y=>rw [hc] at hnb;exact hnb trivial
      | _=>rw [hc] at h;exact h
     have hX2:=hr.code fi body tm1 s2 hnb2
     -- up to the body
     have zjO:∀ n0 w0 ν w (y:Value) (cargs:List Value) (c:Frame) (cs:List Frame) (b fn:Nat) (tmps:Array Value),fi.ng≤P.globals.size→St P n0 w0 ν s w→yq ν P.globals.size→ν.blk l 0=some (b,0)→FrR ν fi T.get rtm2 tmps →
       ∃ ν2 w2 tmps2 df2,Out P n0 w0 ν s ν2 s2 w2∧qW P n0 w0 fi ν2 s2 ⟨fn,.normal,some b⟩ (c::cs) (lone ((⟨fn,.normal,some b⟩:Base).fr tmps2 df2 [.code body]) (c::cs) w2) [] (r.code fi body tm1 s2) ∧
        Steps P (lone (Frame.round b fn tmps asg body .normal) (c::cs) w) (lone ((⟨fn,.normal,some b⟩:Base).fr tmps2 df2 [.code body]) (c::cs) w2):=by
      intro n0 w0 ν w y cargs c cs b fn tmps hng hst hG hb hf
      have henv:Env ν ⟨fn,.normal,some b⟩ (c::cs) rtm2 []:=⟨.inl rfl,by rw [h240];rfl,fun t l hl=>by rw [h240] at hl;cases hl⟩
      obtain ⟨ν1,w1,tmps1,df1',o1,f1,e1,st1⟩:=hX1 n0 w0 ν w tmps [] ⟨fn,.normal,some b⟩ (c::cs) [.beginRound,.code body] hng hst hG hf henv
      have hb1:=(o1.le _ _ _ hb).1
      obtain ⟨q1,q2,ls,fn',tmps',d,q3,q4,q5,q6⟩:=zhc o1.st hB1 hb1
      obtain ⟨g1,g2⟩:=zqX o1.st hB1 hb1 (st':=1) (pend':=p0) (ls':=.busy) q3 rfl
      rw [hs2] at g1 g2
      have hls:ls=.ready:=q4
      subst hls
      have hbeg:(Instr.beginRound b).run P w1=.ok () { w1 with heap:=w1.heap.setIfInBounds b (.loop { state:=.busy,pending:=p0,fn:=fn',tmps:=tmps',params:=⟨ps1⟩,assign:=asg1,body:=body1,defers:=d }) }:=by
       simp [Instr.beginRound,zbV q3,zbd q3]
      have o2:Out P n0 w0 ν1 s1 ν1 s2 _:=Out.write g1 (by rw [←hs2]) g2
      refine ⟨ν1,_,tmps1,df1',o1.trans o2,hX2 n0 w0 ν1 _ tmps1 df1' ⟨fn,.normal,some b⟩ (c::cs) [] hng g1 (hG.mono o1.le) f1 e1,?_⟩
      exact st1.trans (.one (zKa rfl hbeg))
     -- the ends
     have fin:∀ (jump:Option Code) (tm3:T) (s3:S),¬(zsU l jump s3 k).isBad →
       (∀ n0 w0 ν2 w2 tmps2 df2 fn b c cs,qW P n0 w0 fi ν2 s2 ⟨fn,.normal,some b⟩ (c::cs) (lone ((⟨fn,.normal,some b⟩:Base).fr tmps2 df2 [.code body]) (c::cs) w2) [] (r.code fi body tm1 s2) →
        ∃ ν3 w3 m,Out P n0 w0 ν2 s2 ν3 s3 w3∧Steps P (lone ((⟨fn,.normal,some b⟩:Base).fr tmps2 df2 [.code body]) (c::cs) w2) m∧∀ w4,(Instr.endRound b jump).run P w3=.ok (.bool jump.isNone) w4→step P m=.next (lone (c.finish (.bool jump.isNone)) cs w4)) →
       ∃ v s',k v s'=zsU l jump s3 k∧VX P (.ref 3 l) args s v s':=by
      intro jump tm3 s3 hnb3 harr
      obtain ⟨st0,p3,fi3,tm4,ps3,asg3,body3,df3,hB3,h6⟩:=zJz hnb3
      refine ⟨_,_,h6,fun n0 w0 ν w y cargs hst hG hy hv=>?_⟩
      obtain ⟨b,fn,tmps,hb,hng',hf,hrun⟩:=start n0 w0 ν w y cargs hst hy hv
      refine ⟨.round b fn tmps asg body,trivial,hrun,fun c cs=>?_⟩
      obtain ⟨ν2,w2,tmps2,df2,o2,a2,st2⟩:=zjO n0 w0 ν w y cargs c cs b fn tmps hng' hst hG hb hf
      obtain ⟨ν3,w3,m,o3,st3,hlast⟩:=harr n0 w0 ν2 w2 tmps2 df2 fn b c cs a2
      have hb3:=(o3.le _ _ _ (o2.le _ _ _ hb).1).1
      obtain ⟨w4,g1,g2,g3⟩:=zzn o3.st hB3 hb3 jump
      exact ⟨ν3,.bool jump.isNone,w4,(o2.trans o3).trans (Out.write g2 rfl g3),rfl,st2.trans (st3.trans (.one (hlast w4 g1)))⟩
     cases hc2:r.code fi body tm1 s2 with
     | nrm tm3 s3 =>
      rw [hc2] at hnb
      refine fin none tm3 s3 hnb (fun n0 w0 ν2 w2 tmps2 df2 fn b c cs harr=>?_)
      rw [hc2] at harr
      obtain ⟨ν3,w3,tmps3,df3,o3,f3,e3,st3⟩:=harr
      exact ⟨ν3,w3,_,o3,st3,fun w4 hw4=>zIK rfl rfl hw4⟩
     | ret tm3 s3 =>
      rw [hc2] at hnb
      refine fin (some .ret) tm3 s3 hnb (fun n0 w0 ν2 w2 tmps2 df2 fn b c cs harr=>?_)
      rw [hc2] at harr
      obtain ⟨ν3,w3,tmps3,df3,todo,o3,f3,e3,st3⟩:=harr
      exact ⟨ν3,w3,_,o3,st3,fun w4 hw4=>zIJ rfl rfl hw4⟩
     | ext i tm3 s3 =>
      rw [hc2] at hnb
      refine fin (some (.exit i)) tm3 s3 hnb (fun n0 w0 ν2 w2 tmps2 df2 fn b c cs harr=>?_)
      rw [hc2] at harr
      obtain ⟨ν3,w3,tmps3,df3,todo,o3,f3,e3,hx,st3⟩:=harr
      exact ⟨ν3,w3,_,o3,st3,fun w4 hw4=>zIC rfl rfl (by rw [hx];rfl) hw4⟩
     | _=>rw [hc2] at hnb;exact absurd trivial hnb
    | _=>rw [hc1] at hnb;exact absurd trivial hnb
 | _=>rw [hB] at hnb;exact absurd trivial hnb
theorem zEw {pc:PC} {r:R} (hr:RS P pc r) (hone:r.One) {fv:V} {args:List V} {tm:T} {s:S} {k:V→S→A} (hnb:¬(jz r fv args tm s k).isBad):∃ v s',k v s'=jz r fv args tm s k∧VX P fv args s v s':=by
 cases fv with
 | fn g first cap =>
  cases g with
  | func g =>
   have e:jz r (.fn (.func g) first cap) args tm s k=wY r g (first++(args++cap)) s k:=by simp only [jz,yf]
   rw [e] at hnb ⊢
   obtain ⟨v,s',h1,h2⟩:=zjS hone hnb
   refine ⟨v,s',h2,fun n0 w0 ν w y cargs hst hG hy hv=>?_⟩
   obtain ⟨cf,cc,g1,g2,g3⟩:=hy
   subst g3
   obtain ⟨q1,q2⟩:=hr.call _ _ _ _ _ h1 n0 w0 ν w (cf++(cargs++cc)) hst hG (g1.append (hv.append g2))
   refine ⟨.enter g ⟨cf++(cargs++cc)⟩,trivial,fun C hC=>?_,fun c cs=>?_⟩
   ·subst hC
    have ea:((⟨cf⟩:Array Value)++⟨cargs⟩++⟨cc⟩:Array Value)=⟨cf++(cargs++cc)⟩:=by apply Array.ext';simp
    simp only [Deferred.ofValue,Sem.run_bind,Sem.run_pure,Result.andThen_ok,invoke]
    rw [ea];exact q1
   ·obtain ⟨ν',z,w',fr,h3,h4,h5,h6,h7,h8,h9,fn,h10,h11⟩:=q2 .normal (c::cs) (.inl rfl)
    exact ⟨ν',z,w',h3,h4,h5.trans (.one (step_leave_returned ⟨h7,h8,h6,fn,by rw [h9];exact h10,h11⟩))⟩
  | _=>exact absurd trivial hnb
 | ref t l =>
  have e:jz r (.ref t l) args tm s k=@Bool.rec (fun _=>A) eA (zfl r l args tm s k) (Nat.beq t 3):=rfl
  rw [e] at hnb ⊢
  cases ht:Nat.beq t 3 with
  | false=>rw [ht] at hnb;exact absurd trivial hnb
  | true =>
   have:=bq ht
   subst this
   rw [ht] at hnb
   exact zns hr hnb
 | _=>exact absurd trivial hnb
theorem zMB {pc:PC} {r:R} (hr:RS P pc r) (hone:r.One) {fi:FI} {ds:List Nat} {o:Oper} {c:Call} {x:Operand} (ho:o.op=.call c) (hc:c.callee=.value x) (hx:∀ f,x≠.func f):OpM P pc r fi ds o:=by
 intro tm le s k hnb
 have hd:zW o=false:=by simp [zW,ho]
 have e:(op pc fi ds o).run r tm le s k=(opd fi ds x).run tm le fun fv=>(zaJ fi ds c.args.toList).run tm le fun args=>jz r fv args tm s k:=by
  simp only [op,ho,hc]
 rw [e] at hnb ⊢
 obtain ⟨fv,h1,h2⟩:=qc fi ds x tm le _ hnb
 rw [←h1] at hnb ⊢
 obtain ⟨args,h3,h4⟩:=jm fi ds c.args.toList tm le _ hnb
 rw [←h3] at hnb ⊢
 obtain ⟨v,s',h5,h6⟩:=zEw hr hone hnb
 refine ⟨v,s',h5,fun n0 w0 ν w tmps df b cs all i rest kk hng hst hG hf he hao hw=>?_⟩
 have hxm:x∈o.op.operands.toList:=by simp [ho,Op.operands,Call.operands,hc]
 obtain ⟨N,g1,g2,g3⟩:=h6 n0 w0 ν w _ _ hst hG (h2 ν tmps (hG.le hng) (hf x hxm)) (h4 ν tmps (hG.le hng) (fun y hy=>hf y (zaw ho hy)))
 obtain ⟨ν',z,w',g4,g5,g6⟩:=g3 (b.fr tmps df (.inRegion all (i::rest)::kk)) cs
 rw [zag,hao] at g6
 have hrun:(execOp (ev tmps) o).run P w=.ok N w:=by
  have:=g2 _ rfl
  rw [←this]
  have ea:(c.args.map (ev tmps):Array Value)=⟨c.args.toList.map (ev tmps)⟩:=by apply Array.ext';simp
  simp only [execOp,ho,resolve,hc,ea]
 refine ⟨ν',z,w',g4,g5,?_⟩
 cases N with
 | enter f a=>exact .head (zex hao hw (.inr hd) hrun) g6
 | round l f t a bd=>exact .head (zlD hao hw (.inr hd) hrun) g6
 | _=>exact g1.elim
theorem zth {b:Base} {tm:Array Value} {df:List Deferred} {k:List Item} {cs:List Frame} {w:World} {ops:Array Oper} {i:Nat} {rest:List Nat} {o:Oper} (ho:ops[i]?=some o) (hw:Region.wanted o (yielded ops tm)=true) (hro:b.ro=none) (hc:zHd b.kind cs)
  (h:(execOp (ev tm) o).run P w=.ok .recover w):step P (lone (b.fr tm df (.inRegion ops (i::rest)::k)) cs w)=.next (lone (b.fr (j0 tm o.dst .nilIface) df (.inRegion ops rest::k)) cs w):=by
 have hf:=zag b tm df ops i rest k .nilIface
 rw [ho] at hf
 simp only [Option.bind_some] at hf
 rw [←hf]
 have htr:tryRecover (b.fr tm df (.inRegion ops (i::rest)::k)) cs=none:=by
  rcases hc with hc | ⟨hc,c,r,rfl,hm⟩
  ·simp [tryRecover,Base.fr,hc]
  ·simp [tryRecover,Base.fr,hc,hm]
 have hro':(b.fr tm df (.inRegion ops (i::rest)::k)).roundOf=none:=hro
 exact step_lone_go (by rw [zjc ho hw (.inl hro)];simp [stepG.apply,h,htr,hro'])
theorem zkx {pc:PC} {r:R} {fi:FI} {ds:List Nat} {o:Oper} {c:Call} (ho:o.op=.call c) (hc:c.callee=.builtin .recover):OpM P pc r fi ds o:=by
 intro tm le s k hnb
 have e:(op pc fi ds o).run r tm le s k=(geC 240).run tm fun v=>zAD v s k:=by simp only [op,ho,hc]
 rw [e] at hnb ⊢
 have h1:=zed hnb
 rw [←h1] at hnb ⊢
 cases hv:T.get tm 240 with
 | ls t l =>
  refine ⟨.nil 4,s,rfl,fun n0 w0 ν w tmps df b cs all i rest kk hng hst hG hf he hao hw=>?_⟩
  refine ⟨ν,.nilIface,w,Out.refl hst,rfl,.one (zth hao hw (he.ro _ _ hv) he.calm ?_)⟩
  simp [execOp,ho,resolve,hc,invoke,builtin]
 | _=>rw [hv] at hnb;exact absurd trivial hnb
theorem zGj {pc:PC} (hp:PcOk P pc) {fi:FI} {ds:List Nat} {o:Oper} (hc:∀ c,o.op≠.call c) (hd:∀ c,o.op≠.defer c):OpS P pc fi ds o:=by
 cases ho:o.op with
 | move x=>exact (zfh (.inl ho)).read.op
 | assign x=>exact (zfh (.inr ho)).read.op
 | pick c a b=>exact (zvc ho).read.op
 | alloc el=>exact (zkT hp ho).op
 | box el x=>exact (zwD ho).op
 | build t ps=>exact (zp1 hp ho).read.op
 | buildSlice t n ps=>exact (zb9 hp ho).op
 | insert t m k x=>exact zyH hp (.inr ho)
 | load t x=>exact (zwI hp ho).op
 | store t x y=>exact zKj hp ho
 | nilCheck x=>exact (zfZ ho).read.op
 | binOp b t x y yt=>exact (zCA hp ho).op
 | unOp u t x=>exact (ztt ho).read.op
 | convert a b x=>exact (zzH hp ho).op
 | makeFunc f a b=>exact (zf7 ho).read.op
 | typeAssert x xt t ok=>exact (zmP hp ho).read.op
 | range t x=>exact zLH hp ho
 | entry x=>exact zFN ho
 | mapEntry t m k=>exact zCT hp ho
 | entryStore t m n x=>exact ztb ho
 | makeMap t r=>exact (zfS hp ho).op
 | makeSlice t x y=>exact (zdJ hp ho).op
 | slice t x a b c=>exact (zsx hp ho).op
 | fieldAddr t x i=>exact (zeN hp ho).read.op
 | field t x i=>exact (zo6 hp ho).read.op
 | indexAddr t x i=>exact (zes hp ho).read.op
 | index t x i=>exact (zpc hp ho).read.op
 | lookup t x i b=>exact (zme hp ho).op
 | mapUpdate t m k x=>exact zyH hp (.inl ho)
 | extract x i=>exact (zhy ho).read.op
 | call c=>exact absurd ho (hc c)
 | defer c=>exact absurd ho (hd c)
 | _=>exact OpS.bad (m:=0) (by simp only [op,ho])
theorem zzG {pc:PC} (hp:PcOk P pc) {r:R} (hr:RS P pc r) (hone:r.One) (hh:∀ h∈pc.hooks,jR P h) {fi:FI} {ds:List Nat} {o:Oper} (hd:zW o=false):OpM P pc r fi ds o:=by
 by_cases hcall:∃ c,o.op=.call c
 ·obtain ⟨c,ho⟩:=hcall
  cases hc:c.callee with
  | value x =>
   cases x with
   | func f=>exact zEX hp hr hone hh ho hc
   | _=>exact zMB hr hone ho hc (by simp)
  | invoke x m=>exact (OpS.bad (m:=0) (by simp only [op,ho,hc])).m hd
  | builtin b =>
   by_cases hb:b=.recover
   ·subst hb;exact zkx ho hc
   ·exact (zs4 ho hc hb (zKn hp b _)).m hd
 ·refine (zGj hp (fun c h=>hcall ⟨c,h⟩) (fun c h=>?_)).m hd
  simp [zW,h] at hd
theorem zIa {pc:PC} {r:R} (hr:RS P pc r) {fv:V} {args:List V} {tm:T} {s:S} {k:V→S→A} (hnb:¬(jz r fv args tm s k).isBad):∃ X:F,zD X k=jz r fv args tm s k ∧
  ∀ n0 w0 ν w (y:Value) (cargs:List Value),St P n0 w0 ν s w→yq ν P.globals.size→VR ν fv y→VRs ν args cargs →
   ∃ N,Next.begins N∧(∀ C:Sem Deferred→Sem Next,C=(fun D=>do let d ←D;invoke d.target d.args)→(C (Deferred.ofValue y ⟨cargs⟩)).run P w=.ok N w)∧∀ (c:Frame) (cs:List Frame),X.Has fun v s'=>∃ ν' z w',Out P n0 w0 ν s ν' s' w'∧VR ν' v z∧Steps P (lone (znY P N) (c::cs) w) (lone (c.finish z) cs w'):=by
 cases fv with
 | fn g first cap =>
  cases g with
  | func g =>
   have e:jz r (.fn (.func g) first cap) args tm s k=wY r g (first++(args++cap)) s k:=by simp only [jz,yf]
   rw [e] at hnb ⊢
   have hX:=hr.calls g (first++(args++cap)) s (zcr hnb)
   refine ⟨r.call g (first++(args++cap)) s,rfl,fun n0 w0 ν w y cargs hst hG hy hv=>?_⟩
   obtain ⟨cf,cc,g1,g2,g3⟩:=hy
   subst g3
   obtain ⟨q1,q2⟩:=hX n0 w0 ν w (cf++(cargs++cc)) hst hG (g1.append (hv.append g2))
   refine ⟨.enter g ⟨cf++(cargs++cc)⟩,trivial,fun C hC=>?_,fun c cs=>?_⟩
   ·subst hC
    have ea:((⟨cf⟩:Array Value)++⟨cargs⟩++⟨cc⟩:Array Value)=⟨cf++(cargs++cc)⟩:=by apply Array.ext';simp
    simp only [Deferred.ofValue,Sem.run_bind,Sem.run_pure,Result.andThen_ok,invoke]
    rw [ea];exact q1
   ·refine (q2 .normal (c::cs) (.inl rfl)).imp fun v s' ⟨ν',z,w',fr,h3,h4,h5,h6,h7,h8,h9,fn,h10,h11⟩=>?_
    exact ⟨ν',z,w',h3,h4,h5.trans (.one (step_leave_returned ⟨h7,h8,h6,fn,by rw [h9];exact h10,h11⟩))⟩
  | _=>exact absurd trivial hnb
 | ref t l =>
  have e:jz r (.ref t l) args tm s k=@Bool.rec (fun _=>A) eA (zfl r l args tm s k) (Nat.beq t 3):=rfl
  rw [e] at hnb ⊢
  cases ht:Nat.beq t 3 with
  | false=>rw [ht] at hnb;exact absurd trivial hnb
  | true =>
   have:=bq ht
   subst this
   rw [ht] at hnb
   obtain ⟨v,s',h1,h2⟩:=zns hr hnb
   exact ⟨.ret v s',h1,h2⟩
 | _=>exact absurd trivial hnb
theorem zKD {pc:PC} {r:R} (hr:RS P pc r) {fi:FI} {ds:List Nat} {o:Oper} {c:Call} {x:Operand} (ho:o.op=.call c) (hc:c.callee=.value x) (hx:∀ f,x≠.func f):zMw P pc r fi ds o:=by
 intro tm le s k hnb
 have hd:zW o=false:=by simp [zW,ho]
 have e:(op pc fi ds o).run r tm le s k=(opd fi ds x).run tm le fun fv=>(zaJ fi ds c.args.toList).run tm le fun args=>jz r fv args tm s k:=by
  simp only [op,ho,hc]
 rw [e] at hnb ⊢
 obtain ⟨fv,h1,h2⟩:=qc fi ds x tm le _ hnb
 rw [←h1] at hnb ⊢
 obtain ⟨args,h3,h4⟩:=jm fi ds c.args.toList tm le _ hnb
 rw [←h3] at hnb ⊢
 obtain ⟨X,h5,h6⟩:=zIa hr hnb
 refine ⟨X,h5,fun n0 w0 ν w tmps df b cs all i rest kk hng hst hG hf he hao hw=>?_⟩
 have hxm:x∈o.op.operands.toList:=by simp [ho,Op.operands,Call.operands,hc]
 obtain ⟨N,g1,g2,g3⟩:=h6 n0 w0 ν w _ _ hst hG (h2 ν tmps (hG.le hng) (hf x hxm)) (h4 ν tmps (hG.le hng) (fun y hy=>hf y (zaw ho hy)))
 refine (g3 (b.fr tmps df (.inRegion all (i::rest)::kk)) cs).imp fun v s' ⟨ν',z,w',g4,g5,g6⟩=>?_
 rw [zag,hao] at g6
 have hrun:(execOp (ev tmps) o).run P w=.ok N w:=by
  have:=g2 _ rfl
  rw [←this]
  have ea:(c.args.map (ev tmps):Array Value)=⟨c.args.toList.map (ev tmps)⟩:=by apply Array.ext';simp
  simp only [execOp,ho,resolve,hc,ea]
 refine ⟨ν',z,w',g4,g5,?_⟩
 cases N with
 | enter f a=>exact .head (zex hao hw (.inr hd) hrun) g6
 | round l f t a bd=>exact .head (zlD hao hw (.inr hd) hrun) g6
 | _=>exact g1.elim
theorem zKN {pc:PC} (hp:PcOk P pc) {r:R} (hr:RS P pc r) (hh:∀ h∈pc.hooks,jR P h) {fi:FI} {ds:List Nat} {o:Oper} (hd:zW o=false):zMw P pc r fi ds o:=by
 by_cases hcall:∃ c,o.op=.call c
 ·obtain ⟨c,ho⟩:=hcall
  cases hc:c.callee with
  | value x =>
   cases x with
   | func f=>exact zDE hp hr hh ho hc
   | _=>exact zKD hr ho hc (by simp)
  | invoke x m=>exact ((OpS.bad (m:=0) (by simp only [op,ho,hc])).m hd).s
  | builtin b =>
   by_cases hb:b=.recover
   ·subst hb;exact (zkx ho hc).s
   ·exact ((zs4 ho hc hb (zKn hp b _)).m hd).s
 ·refine ((zGj hp (fun c h=>hcall ⟨c,h⟩) (fun c h=>?_)).m hd).s
  simp [zW,h] at hd
theorem zBf {ν:Val} {t:Nat} {l:List V} {tmps:Array Value} {d:Nat} (h:VR ν (.ls t l) (tmps.getD d Go.undef)) (arr:Array Oper) (j:Nat) (hj:(arr[j]?).bind (·.dst)=some d):yielded arr tmps j=none:=by
 obtain ⟨c,_,h2⟩:=h
 unfold yielded
 rw [hj]
 simp only [Option.bind_some]
 simp only [Array.getD_eq_getD_getElem?] at h2
 cases hd:tmps[d]? with
 | none=>rfl
 | some x =>
  rw [hd] at h2
  simp only [Option.getD_some] at h2
  rcases t with _ | _ | t
  ·rw [h2.1]
  ·rw [h2]
  ·exact h2.elim
theorem zqJ {ν:Val} {v:Bool} {tmps:Array Value} {d:Nat} (h:VR ν (.bool v) (tmps.getD d Go.undef)) (arr:Array Oper) (j:Nat) (hj:(arr[j]?).bind (·.dst)=some d):yielded arr tmps j=some v:=by
 simp only [VR,Array.getD_eq_getD_getElem?] at h
 unfold yielded
 rw [hj]
 simp only [Option.bind_some]
 cases hd:tmps[d]? with
 | none=>rw [hd] at h;cases h
 | some x=>rw [hd] at h;simp only [Option.getD_some] at h;rw [h]
theorem zcc {fi:FI} {ds:List Nat} {all:Array Oper} {o:Oper} {e g:LoC} {r:R} {tm:T} {le:List V} {s:S} (hnb:¬((jh fi ds all.toList o e g).run r tm le s).isBad) :
  ∃ X:Bool,(if X then e.run r tm le s else g.run r tm le s)=(jh fi ds all.toList o e g).run r tm le s∧∀ (ν:Val) (tmps:Array Value),yq ν fi.ng→(∀ j w d,o.guard=some (j,w)→(all[j]?).bind (·.dst)=some d→OdR ν fi ds tm le tmps (.tmp d))→Region.wanted o (yielded all tmps)=X:=by
 unfold jh at hnb ⊢
 cases hg:o.guard with
 | none=>exact ⟨true,rfl,fun ν tmps _ _=>by simp [Region.wanted,hg]⟩
 | some p =>
  obtain ⟨j,want⟩:=p
  rw [hg] at hnb
  have hall:all.toList[j]?=all[j]?:=kao
  simp only [hall] at hnb ⊢
  cases hd:(all[j]?).bind (·.dst) with
  | none=>rw [hd] at hnb;exact absurd trivial hnb
  | some d =>
   rw [hd] at hnb
   simp only at hnb ⊢
   have key:∀ {K:V→A},¬((opd fi ds (.tmp d)).run tm le K).isBad→∃ v,K v=(opd fi ds (.tmp d)).run tm le K∧∀ (ν:Val) (tmps:Array Value),yq ν fi.ng→(∀ j' w d',some (j,want)=some (j',w)→(all[j']?).bind (·.dst)=some d'→OdR ν fi ds tm le tmps (.tmp d'))→VR ν v (tmps.getD d Go.undef):=by
    intro K hnb
    obtain ⟨v,h1,h2⟩:=qc fi ds (.tmp d) tm le K hnb
    exact ⟨v,h1,fun ν tmps hG hf=>h2 ν tmps hG (hf j want d rfl hd)⟩
   cases want with
   | true =>
    have e1:(match opd fi ds (.tmp d),true with | ⟨f⟩,true=>(⟨fun r tm le s=>f tm le fun v=>zzj v (fun _=>e.run r tm le s) (fun _=>g.run r tm le s)⟩:LoC) | ⟨f⟩,false=>⟨fun r tm le s=>f tm le fun v=>zm1 v (fun _=>e.run r tm le s) (fun _=>g.run r tm le s)⟩).run r tm le s=(opd fi ds (.tmp d)).run tm le fun v=>zzj v (fun _=>e.run r tm le s) (fun _=>g.run r tm le s):=rfl
    rw [e1] at hnb ⊢
    obtain ⟨v,h1,h2⟩:=key hnb
    rw [←h1] at hnb
    cases v with
    | bool b' =>
     refine ⟨b',by rw [←h1];cases b'<;>rfl,fun ν tmps hG hf=>?_⟩
     have:=zqJ (h2 ν tmps hG hf) all j hd
     simp only [Region.wanted,hg,this]
     cases b'<;>rfl
    | ls t l =>
     refine ⟨false,by rw [←h1];rfl,fun ν tmps hG hf=>?_⟩
     have:=zBf (h2 ν tmps hG hf) all j hd
     simp only [Region.wanted,hg,this]
     rfl
    | _=>exact absurd trivial hnb
   | false =>
    have e1:(match opd fi ds (.tmp d),false with | ⟨f⟩,true=>(⟨fun r tm le s=>f tm le fun v=>zzj v (fun _=>e.run r tm le s) (fun _=>g.run r tm le s)⟩:LoC) | ⟨f⟩,false=>⟨fun r tm le s=>f tm le fun v=>zm1 v (fun _=>e.run r tm le s) (fun _=>g.run r tm le s)⟩).run r tm le s=(opd fi ds (.tmp d)).run tm le fun v=>zm1 v (fun _=>e.run r tm le s) (fun _=>g.run r tm le s):=rfl
    rw [e1] at hnb ⊢
    obtain ⟨v,h1,h2⟩:=key hnb
    rw [←h1] at hnb
    cases v with
    | bool b' =>
     refine ⟨!b',by rw [←h1];cases b'<;>rfl,fun ν tmps hG hf=>?_⟩
     have:=zqJ (h2 ν tmps hG hf) all j hd
     simp only [Region.wanted,hg,this]
     cases b'<;>rfl
    | ls t l =>
     refine ⟨false,by rw [←h1];rfl,fun ν tmps hG hf=>?_⟩
     have:=zBf (h2 ν tmps hG hf) all j hd
     simp only [Region.wanted,hg,this]
     rfl
    | _=>exact absurd trivial hnb
theorem zLu {pc:PC} {r:R} {fi:FI} {ds:List Nat} {o:Oper} (hd:zW o=true) {tm:T} {le:List V} {s:S} {k:V→S→A} (hnb:¬((op pc fi ds o).run r tm le s k).isBad) :
  ∃ v,k v s=(op pc fi ds o).run r tm le s k∧∀ (ν:Val) (tmps:Array Value),yq ν fi.ng→zeS ν fi ds tm le tmps o→∃ d,DfE ν v d∧∀ w,(execOp (ev tmps) o).run P w=.ok (.defer d) w:=by
 cases ho:o.op with
 | defer c =>
  cases hc:c.callee with
  | value x =>
   have e:(op pc fi ds o).run r tm le s k=(opd fi ds x).run tm le fun fv=>(zaJ fi ds c.args.toList).run tm le fun args=>zKe fv args s k:=by simp only [op,ho,hc]
   rw [e] at hnb ⊢
   obtain ⟨fv,h1,h2⟩:=qc fi ds x tm le _ hnb
   rw [←h1] at hnb ⊢
   obtain ⟨args,h3,h4⟩:=jm fi ds c.args.toList tm le _ hnb
   rw [←h3] at hnb ⊢
   have hxm:x∈o.op.operands.toList:=by simp [ho,Op.operands,Call.operands,hc]
   have ham:∀ y∈c.args.toList,y∈o.op.operands.toList:=by
    intro y hy
    simp only [ho,Op.operands,Call.operands,hc]
    simp;right;simpa using hy
   cases fv with
   | fn f first cap =>
    cases f with
    | func g =>
     refine ⟨_,rfl,fun ν tmps hG hf=>?_⟩
     obtain ⟨cf,cc,g1,g2,g3⟩:=h2 ν tmps hG (hf x hxm)
     have g4:=h4 ν tmps hG (fun y hy=>hf y (ham y hy))
     refine ⟨_,⟨cf,cc,_,g1,g2,g4,rfl⟩,fun w=>?_⟩
     have ea:(c.args.map (ev tmps):Array Value)=⟨c.args.toList.map (ev tmps)⟩:=by apply Array.ext';simp
     simp only [execOp,ho,resolve,hc,g3,Deferred.ofValue,Sem.run_bind,Sem.run_pure,Result.andThen_ok,ea]
     congr 3
     apply Array.ext';simp
    | _=>exact absurd trivial hnb
   | _=>exact absurd trivial hnb
  | _ =>
   have e:op pc fi ds o=zX 0:=by simp only [op,ho,hc]
   rw [e] at hnb;exact absurd trivial hnb
 | _=>simp [zW,ho] at hd
theorem zeE {fi:FI} {o:Oper} {f:OpC} {g:LoC} (hd:zW o=false) (r:R) (tm:T) (le:List V) (s:S):(zp9 fi o f g).run r tm le s=f.run r tm le s fun v s=>(dsC fi o).run v tm le fun tm le=>g.run r tm le s:=by
 unfold zp9
 rw [hd]
theorem zqs {fi:FI} {o:Oper} {f:OpC} {g:LoC} (hd:zW o=true) (r:R) (tm:T) (le:List V) (s:S):(zp9 fi o f g).run r tm le s=f.run r tm le s fun v s=>(geC 240).run tm fun l=>(@V.rec mA mU eA eC eC eB eB eD eF eF eB eC
  (fun _ l _=>(puC 240).run (.ls 1 (v::l)) tm (fun tm=>(dsC fi o).run undef tm le fun tm le=>g.run r tm le s)) eF eD () tE l:A):=by
 unfold zp9
 rw [hd]
theorem zKx (pc:PC) (fi:FI) (all:List Oper) (o:Oper) (os:List Oper) (ds:List Nat):ops pc fi all (o::os) ds=jh fi ds all o (zp9 fi o (op pc fi ds o) (ops pc fi all os (push o ds))) (zka fi o (ops pc fi all os (push o ds))):=rfl
theorem zcE {fi:FI} {o:Oper} {g:LoC} (r:R) (tm:T) (le:List V) (s:S):(zka fi o g).run r tm le s=(dsC fi o).run undef tm le fun tm le=>g.run r tm le s:=rfl
def zPc (P:Program) (fi:FI) (s:S) (tmps:Array Value) (df:List Deferred) (ν:Val) (w:World) (n0:Nat) (w0:World) (b:Base) (cs:List Frame) (kk:List Item) (all:Array Oper) (l:List Nat) (res:A):Prop :=
 qW P n0 w0 fi ν s b cs (lone (b.fr tmps df (.inRegion all l::kk)) cs w) kk res
theorem qW.trans {n0:Nat} {w0:World} {fi:FI} {ν ν1:Val} {s s1:S} {w1:World} {b:Base} {cs:List Frame} {m m1:Machine} {kk:List Item} {res:A} (ho:Out P n0 w0 ν s ν1 s1 w1) (hs:Steps P m m1) (h:qW P n0 w0 fi ν1 s1 b cs m1 kk res):qW P n0 w0 fi ν s b cs m kk res:=by
 induction res with
 | nrm tm' s' =>
  obtain ⟨ν',w',tmps',df',h1,h2,h3,h4⟩:=h
  exact ⟨ν',w',tmps',df',ho.trans h1,h2,h3,hs.trans h4⟩
 | ext i tm' s' =>
  obtain ⟨ν',w',tmps',df',todo,h1,h2,h3,h4,h5⟩:=h
  exact ⟨ν',w',tmps',df',todo,ho.trans h1,h2,h3,h4,hs.trans h5⟩
 | ret tm' s' =>
  obtain ⟨ν',w',tmps',df',todo,h1,h2,h3,h4⟩:=h
  exact ⟨ν',w',tmps',df',todo,ho.trans h1,h2,h3,hs.trans h4⟩
 | alt x y hx hy=>exact h.imp hx hy
 | _=>exact h
theorem qW.steps {n0:Nat} {w0:World} {fi:FI} {ν:Val} {s:S} {b:Base} {cs:List Frame} {m m1:Machine} {kk:List Item} {res:A} (hs:Steps P m m1) (h:qW P n0 w0 fi ν s b cs m1 kk res):qW P n0 w0 fi ν s b cs m kk res:=by
 induction res with
 | nrm tm' s' =>
  obtain ⟨ν',w',tmps',df',h1,h2,h3,h4⟩:=h
  exact ⟨ν',w',tmps',df',h1,h2,h3,hs.trans h4⟩
 | ext i tm' s' =>
  obtain ⟨ν',w',tmps',df',todo,h1,h2,h3,h4,h5⟩:=h
  exact ⟨ν',w',tmps',df',todo,h1,h2,h3,h4,hs.trans h5⟩
 | ret tm' s' =>
  obtain ⟨ν',w',tmps',df',todo,h1,h2,h3,h4⟩:=h
  exact ⟨ν',w',tmps',df',todo,h1,h2,h3,hs.trans h4⟩
 | alt x y hx hy=>exact h.imp hx hy
 | _=>exact h
theorem Has.arr {n0:Nat} {w0:World} {fi:FI} {ν:Val} {s:S} {b:Base} {cs:List Frame} {m:Machine} {kk:List Item} {p:V→S→Prop} {k:V→S→A}:∀ {X:F},¬(zD X k).isBad→X.Has p→(∀ v s1,¬(k v s1).isBad→p v s1→qW P n0 w0 fi ν s b cs m kk (k v s1))→qW P n0 w0 fi ν s b cs m kk (zD X k)
 | .ret v s1,hnb,h,g=>g v s1 hnb h
 | .alt x y,hnb,h,g=>by
  have e:zD (.alt x y) k=.alt (zD x k) (zD y k):=rfl
  rw [e] at hnb ⊢
  rcases h with h | h
  ·exact .inl (Has.arr (fun h1=>hnb (.inl h1)) h g)
  ·exact .inr (Has.arr (fun h1=>hnb (.inr h1)) h g)
theorem zpa {pc:PC} (hp:PcOk P pc) {r:R} (hr:RS P pc r) (hh:∀ h∈pc.hooks,jR P h) (fi:FI) (all:Array Oper):∀ (os:List Oper) (i:Nat) (ds:List Nat) (tm:T) (le:List V) (s:S),all.toList.drop i=os→¬((ops pc fi all.toList os ds).run r tm le s).isBad →
  ∀ n0 w0 ν w tmps df b cs kk,fi.ng≤P.globals.size→St P n0 w0 ν s w→yq ν P.globals.size→FrX ν fi ds tm le tmps→Env ν b cs tm df →
   zPc P fi s tmps df ν w n0 w0 b cs kk all (List.range' i os.length) ((ops pc fi all.toList os ds).run r tm le s)
 | [],i,ds,tm,le,s,_,_=>fun n0 w0 ν w tmps df b cs kk hng hst hG hf he=>⟨ν,w,tmps,df,Out.refl hst,hf.fr,he,.one zfR⟩
 | o::os,i,ds,tm,le,s,hdrop,hnb=>by
  have ho:all[i]?=some o:=by
   have:(all.toList.drop i)[0]?=some o:=by rw [hdrop];rfl
   rw [List.getElem?_drop] at this
   simpa using this
  have hdrop':all.toList.drop (i+1)=os:=by
   have h9:(all.toList.drop i).drop 1=os:=by rw [hdrop];rfl
   rw [List.drop_drop] at h9
   exact h9
  have hrange:List.range' i (o::os).length=i::List.range' (i+1) os.length:=rfl
  rw [zKx] at hnb ⊢
  rw [hrange]
  obtain ⟨X,hX,hwant⟩:=zcc hnb
  rw [←hX] at hnb ⊢
  cases X with
  | false =>
   simp only [Bool.false_eq_true,if_false,zcE] at hnb ⊢
   obtain ⟨tm1,le1,h1,h2,h3⟩:=zjw hnb
   rw [←h1] at hnb ⊢
   have h5:=zpa hp hr hh fi all os (i+1) (push o ds) tm1 le1 s hdrop' hnb
   intro n0 w0 ν w tmps df b cs kk hng hst hG hf he
   have hw:=hwant ν tmps (hG.le hng) (fun j wt d _ _=>hf.odr _)
   have h6:=h5 n0 w0 ν w (j0 tmps o.dst Go.undef) df b cs kk hng hst hG (h3 ν tmps ds Go.undef hf VR.undef) (he.same h2)
   refine qW.steps (.one ?_) h6
   have:=zgE (P:=P) (b:=b) (tm:=tmps) (df:=df) (k:=kk) (cs:=cs) (w:=w) (ops:=all) (i:=i) (rest:=List.range' (i+1) os.length) (by simp [ho,hw])
   rw [ho] at this
   exact this
  | true =>
   simp only [if_true] at hnb ⊢
   cases hd:zW o with
   | false =>
    rw [zeE hd] at hnb ⊢
    obtain ⟨X,h1,h2⟩:=zKN hp hr hh hd tm le s _ hnb
    rw [←h1] at hnb ⊢
    intro n0 w0 ν w tmps df b cs kk hng hst hG hf he
    have hw:=hwant ν tmps (hG.le hng) (fun j wt d _ _=>hf.odr _)
    refine Has.arr hnb (h2 n0 w0 ν w tmps df b cs all i (List.range' (i+1) os.length) kk hng hst hG (hf.ops o) he ho hw) (fun v s1 hnb1 ⟨ν1,y,w1,g1,g2,g3⟩=>?_)
    obtain ⟨tm1,le1,h3,h4,h5⟩:=zjw hnb1
    rw [←h3] at hnb1 ⊢
    have h7:=zpa hp hr hh fi all os (i+1) (push o ds) tm1 le1 s1 hdrop' hnb1
    exact (h7 n0 w0 ν1 w1 (j0 tmps o.dst y) df b cs kk hng g1.st (hG.mono g1.le) (h5 ν1 tmps ds y (hf.mono g1.le) g2) ((he.mono g1.le).same h4)).trans g1 g3
   | true =>
    rw [zqs hd] at hnb ⊢
    obtain ⟨v,h1,h2⟩:=zLu (P:=P) hd hnb
    rw [←h1] at hnb ⊢
    have h240:=zed hnb
    rw [←h240] at hnb ⊢
    cases hl:T.get tm 240 with
    | ls t l =>
     rw [hl] at hnb
     simp only at hnb ⊢
     obtain ⟨tm0,h3,h4⟩:=ze3 hnb
     rw [←h3] at hnb ⊢
     obtain ⟨tm1,le1,h5,h6,h7⟩:=zjw hnb
     rw [←h5] at hnb ⊢
     have h9:=zpa hp hr hh fi all os (i+1) (push o ds) tm1 le1 s hdrop' hnb
     intro n0 w0 ν w tmps df b cs kk hng hst hG hf he
     have hw:=hwant ν tmps (hG.le hng) (fun j wt d _ _=>hf.odr _)
     obtain ⟨d,g1,g2⟩:=h2 ν tmps (hG.le hng) (hf.ops o)
     have hf0:FrX ν fi ds tm0 le tmps:=⟨hf.sz,fun t q1 q2=>by rw [h4,if_neg (by omega)];exact hf.a t q1 q2,hf.b⟩
     have hro:=he.ro t l hl
     have h240':T.get tm1 240=.ls 1 (v::l):=by rw [h6,h4,if_pos rfl]
     have hdf:=he.df
     rw [hl] at hdf
     have he1:Env ν b cs tm1 (d::df):=⟨he.calm,by rw [h240'];exact ⟨d,df,rfl,g1,hdf⟩,fun _ _ _=>hro⟩
     exact qW.steps (.one (zDc ho hw hro (g2 w))) (h9 n0 w0 ν w (j0 tmps o.dst Go.undef) (d::df) b cs kk hng hst hG (h7 ν tmps ds Go.undef hf0 VR.undef) he1)
    | _=>rw [hl] at hnb;exact absurd trivial hnb
theorem zMz (a b i:Nat):bit (Nat.lor a b) i=(bit a i || bit b i):=by
 have h:∀ m,bit m i=m.testBit i:=by
  intro m
  unfold bit
  rw [Nat.testBit,Nat.shiftRight_eq_div_pow,Nat.one_and_eq_mod_two]
  have:Nat.mod (Nat.shiftRight m i) 2=m / 2 ^ i % 2:=by
   show (m >>> i) % 2=_
   rw [Nat.shiftRight_eq_div_pow]
  rw [this]
  have h2:m / 2 ^ i % 2<2:=Nat.mod_lt _ (by omega)
  rcases Nat.eq_zero_or_pos (m / 2 ^ i % 2) with h3 | h3
  ·rw [h3];rfl
  ·have:m / 2 ^ i % 2=1:=by omega
   rw [this];rfl
 rw [h,h,h]
 exact Nat.testBit_or a b i
theorem zMt (a i:Nat):bit (Nat.pow 2 a) i=decide (a=i):=by
 have h:∀ m,bit m i=m.testBit i:=by
  intro m
  unfold bit
  rw [Nat.testBit,Nat.shiftRight_eq_div_pow,Nat.one_and_eq_mod_two]
  have:Nat.mod (Nat.shiftRight m i) 2=m / 2 ^ i % 2:=by
   show (m >>> i) % 2=_
   rw [Nat.shiftRight_eq_div_pow]
  rw [this]
  have h2:m / 2 ^ i % 2<2:=Nat.mod_lt _ (by omega)
  rcases Nat.eq_zero_or_pos (m / 2 ^ i % 2) with h3 | h3
  ·rw [h3];rfl
  ·have:m / 2 ^ i % 2=1:=by omega
   rw [this];rfl
 rw [h]
 exact Nat.testBit_two_pow
theorem zBS (i:Nat):bit 0 i=false:=by
 have:bit 0 i=Nat.beq (Nat.mod (Nat.shiftRight 0 i) 2) 1:=rfl
 rw [this]
 have h2:Nat.shiftRight 0 i=0:=Nat.zero_shiftRight i
 rw [h2];rfl
theorem zfo (ms:List Nat):∀ (l:List Edge) (m i:Nat),bit (zmF ms l m) i=true↔bit m i=true∨∃ e∈l,Region.binds .any e=true∧(e.on=i∨bit (ms.getD e.on 0) i=true)
 | [],m,i=>by simp only [zmF,List.not_mem_nil,false_and,exists_false,or_false]
 | e::l,m,i=>by
  simp only [zmF]
  cases hb:Region.binds .any e with
  | true =>
   simp only [zfo ms l,zMz,zMt,Bool.or_eq_true,decide_eq_true_eq,kaj,exists_eq_or_imp,hb,true_and]
   constructor
   ·rintro ((h | h | h) | h)
    ·exact .inl h
    ·exact .inr (.inl (.inl h))
    ·exact .inr (.inl (.inr h))
    ·exact .inr (.inr h)
   ·rintro (h | (h | h) | h)
    ·exact .inl (.inl h)
    ·exact .inl (.inr (.inl h))
    ·exact .inl (.inr (.inr h))
    ·exact .inr h
  | false =>
   simp only [zfo ms l,kaj,exists_eq_or_imp,hb,Bool.false_eq_true,false_and,false_or]
theorem zdl:∀ (l:List Oper) (ms:List Nat) (i:Nat),i<ms.length→(yB l ms).getD i 0=ms.getD i 0
 | [],_,_,_=>rfl
 | o::l,ms,i,h=>by
  rw [yB,zdl l _ i (by simp;omega)]
  simp [List.getD,kam h]
theorem zt9:∀ (l:List Oper) (ms:List Nat) (k:Nat) (o:Oper),l[k]?=some o →
  (∀ j,bit ((yB l ms).getD (ms.length+k) 0) j=true→∃ e∈o.after.toList,Region.binds .any e=true∧(e.on=j∨bit ((yB l ms).getD e.on 0) j=true)) ∧
  (∀ e∈o.after.toList,Region.binds .any e=true→bit ((yB l ms).getD (ms.length+k) 0) e.on=true)
 | [],_,k,o,h=>by simp at h
 | o::l,ms,0,o',h=>by
  simp only [List.getElem?_cons_zero,Option.some.injEq] at h
  subst h
  have hm:(yB (o::l) ms).getD (ms.length+0) 0=zmF ms o.after.toList 0:=by
   rw [yB,zdl l _ _ (by simp)]
   simp [List.getD]
  refine ⟨fun j hj=>?_,fun e he hb=>?_⟩
  ·rw [hm,zfo] at hj
   rcases hj with hj | ⟨e,he,hb,hj⟩
   ·rw [zBS] at hj;cases hj
   ·refine ⟨e,he,hb,?_⟩
    rcases hj with hj | hj
    ·exact .inl hj
    ·right
     have hlt:e.on<ms.length:=by
      rcases kaq e.on ms.length with h | h
      ·exact h
      ·have:ms.getD e.on 0=0:=by simp [List.getD,kau h]
       rw [this,zBS] at hj;cases hj
     rw [yB,zdl l _ _ (by simp;omega)]
     simp only [List.getD,kam hlt]
     exact hj
  ·rw [hm,zfo]
   exact .inr ⟨e,he,hb,.inl rfl⟩
 | o::l,ms,k+1,o',h=>by
  have:=zt9 l (ms++[zmF ms o.after.toList 0]) k o' (by simpa using h)
  simp only [kah,List.length_singleton] at this
  rw [show ms.length+1+k=ms.length+(k+1) by omega] at this
  exact this
theorem zeb:∀ (n:Nat) (l:List Nat) (i:Nat),i∈zjO n l↔i<n∨i∈l
 | 0,l,i=>by simp [zjO]
 | n+1,l,i=>by
  rw [zjO,zeb n]
  simp only [kaj,Nat.lt_succ_iff_lt_or_eq,or_assoc]
theorem zvI:∀ (l:List Oper),zLo (l.filterMap (·.dst))=true→∀ (i j:Nat) (d:Nat),(l[i]?).bind (·.dst)=some d→(l[j]?).bind (·.dst)=some d→i=j
 | [],_,i,j,d,h,_=>by simp at h
 | o::l,h,i,j,d,hi,hj=>by
  have mem:∀ (l:List Oper) (k d:Nat),(l[k]?).bind (·.dst)=some d→d∈l.filterMap (·.dst):=by
   intro l k d h
   cases hk:l[k]? with
   | none=>rw [hk] at h;cases h
   | some o=>rw [hk] at h;exact List.mem_filterMap.2 ⟨o,kae hk,h⟩
  have tail:zLo (l.filterMap (·.dst))=true∧∀ d',o.dst=some d'→d' ∉ l.filterMap (·.dst):=by
   cases ho:o.dst with
   | none=>rw [List.filterMap_cons,ho] at h;exact ⟨h,fun d' h'=>by cases h'⟩
   | some d0 =>
    rw [List.filterMap_cons,ho] at h
    simp only [zLo] at h
    cases hc:(l.filterMap (·.dst)).contains d0 with
    | true=>rw [hc] at h;cases h
    | false =>
     rw [hc] at h
     refine ⟨h,fun d' h'=>?_⟩
     simp only [Option.some.injEq] at h'
     subst h'
     intro hm
     have:=List.elem_eq_true_of_mem hm
     rw [List.contains,this] at hc;cases hc
  cases i with
  | zero=>cases j with
   | zero=>rfl
   | succ j =>
    simp only [List.getElem?_cons_zero,Option.bind_some,List.getElem?_cons_succ] at hi hj
    exact absurd (mem l j d hj) (tail.2 d hi)
  | succ i=>cases j with
   | zero =>
    simp only [List.getElem?_cons_zero,Option.bind_some,List.getElem?_cons_succ] at hi hj
    exact absurd (mem l i d hi) (tail.2 d hj)
   | succ j =>
    simp only [List.getElem?_cons_succ] at hi hj
    rw [zvI l tail.1 i j d hi hj]
theorem zI9 {pc:PC} (hp:PcOk P pc) {fi:FI} {ds:List Nat} {o:Oper} (h:qa o=0):jM P pc fi ds o:=by
 cases ho:o.op with
 | move x=>exact zfh (.inl ho)
 | assign x=>exact zfh (.inr ho)
 | pick c a b=>exact zvc ho
 | build t ps=>exact zp1 hp ho
 | nilCheck x=>exact zfZ ho
 | binOp b t x y yt =>
  refine zEg hp ho fun hb=>?_
  simp only [qa,ho] at h
  rcases hb with rfl | rfl<;>simp only at h<;>split at h<;>first | (rename_i hc;rw [hc];rfl) | (cases h;done)
 | unOp u t x=>exact ztt ho
 | makeFunc f a b=>exact zf7 ho
 | fieldAddr t x i=>exact zeN hp ho
 | field t x i=>exact zo6 hp ho
 | indexAddr t x i=>exact zes hp ho
 | index t x i=>exact zpc hp ho
 | extract x i=>exact zhy ho
 | call c =>
  simp only [qa,ho] at h
  split at h<;>simp at h
 | _=>simp [qa,ho] at h
theorem zFH {pc:PC} (hp:PcOk P pc) {fi:FI} {ds:List Nat} {o:Oper} (h:qa o=1):yh P pc fi ds o:=by
 cases ho:o.op with
 | alloc el=>exact zkT hp ho
 | box el x=>exact zwD ho
 | buildSlice t n ps=>exact zb9 hp ho
 | makeMap t r=>exact zfS hp ho
 | makeSlice t x y=>exact zdJ hp ho
 | call c =>
  simp only [qa,ho] at h
  split at h<;>simp at h
 | binOp b t x y yt =>
  simp only [qa,ho] at h
  split at h<;>first | (cases h;done) | (split at h<;>cases h)
 | _=>simp [qa,ho] at h
theorem zwS {pc:PC} (hp:PcOk P pc) {fi:FI} {ds:List Nat} {o:Oper} (h:qa o=2):wV P pc fi ds o:=by
 cases ho:o.op with
 | load t x=>exact zwI hp ho
 | slice t x a b c=>exact zsx hp ho
 | lookup t x i b=>exact zme hp ho
 | binOp b t x y yt=>exact zCA hp ho
 | call c =>
  simp only [qa,ho] at h
  split at h
  ·rename_i hc;exact zaR ho hc (by simp) (zKy hp _)
  ·rename_i hc;exact zaR ho hc (by simp) (zJD hp _)
  ·rename_i hc;exact zaR ho hc (by simp) (zLC _)
  ·rename_i hc;exact zaR ho hc (by simp) (zJ9 _)
  ·simp at h
 | _=>simp [qa,ho] at h
theorem zMj (o:Oper):qa o=0∨qa o=1∨qa o=2∨qa o=3:=by
 unfold qa
 split<;>first
  | (simp;done)
  | (split<;>simp;done)
  | (split<;>first | (simp;done) | (split<;>simp;done))
structure DE where
 i:Nat
 v:V
 key:Option K
def yG (all:Array Oper) (j:Nat):Option Nat:=(all[j]?).bind (·.dst)
def kd (all:Array Oper) (i:Nat):Nat:=(all.toList.map qa).getD i 3
theorem zLT {all:Array Oper} {i:Nat} {o:Oper} (h:all[i]?=some o):kd all i=qa o:=by
 unfold kd
 simp [List.getD,h]
def jq (all:Array Oper) (i j:Nat):Bool:=bit ((yB all.toList []).getD i 0) j
structure Acfg (all:Array Oper) (fi:FI) (tm0:T) (D:List DE) (ds:List Nat) (tm:T) (le:List V):Prop where
 a1:∀ t k,idx t ds 0=some k→∃ e∈D,yG all e.i=some t∧le.getD k .bad=e.v
 a2:∀ t,yE fi.ns t=false→yM fi.ns t<240→(∀ e∈D,yG all e.i≠some t)→T.get tm (yM fi.ns t)=T.get tm0 (yM fi.ns t)
 a2':∀ e∈D,∀ t,yG all e.i=some t→yE fi.ns t=false→yM fi.ns t<240→T.get tm (yM fi.ns t)=e.v
 a3:∀ e∈D,∀ t,yG all e.i=some t→(idx t ds 0).isSome=true
 a4:T.get tm 240=T.get tm0 240
def Rdy (all:Array Oper) (fi:FI) (tm0:T) (D:List DE) (ν:Val) (tmps:Array Value) (i:Nat):Prop:=∀ o,all[i]?=some o→∀ t∈jw all.toList o,
 (∀ e∈D,yG all e.i=some t→jq all i e.i=true→VR ν e.v (tmps.getD t Go.undef)) ∧
 ((∀ j,yG all j=some t→jq all i j=false)→yE fi.ns t=false→yM fi.ns t<240→VR ν (T.get tm0 (yM fi.ns t)) (tmps.getD t Go.undef))
theorem Rdy.mono {all:Array Oper} {fi:FI} {tm0:T} {D D':List DE} {ν:Val} {tmps:Array Value} {i:Nat} (hD:∀ e∈D,e∈D') (h:Rdy all fi tm0 D' ν tmps i):Rdy all fi tm0 D ν tmps i :=
 fun o ho t ht=>⟨fun e he=>(h o ho t ht).1 e (hD e he),(h o ho t ht).2⟩
theorem zyW {all:Array Oper} {fi:FI} {tm0:T} {D:List DE} {ds:List Nat} {tm:T} {le:List V} (hc:Acfg all fi tm0 D ds tm le) {i:Nat} {o:Oper} (ho:all[i]?=some o)
  (h1:∀ e∈D,∀ t,yG all e.i=some t→t∈jw all.toList o→jq all i e.i=true) (h2:∀ j,j<all.size→jq all i j=true→∃ e∈D,e.i=j) {ν:Val} {tmps:Array Value} (hr:Rdy all fi tm0 D ν tmps i) :
  ∀ t∈jw all.toList o,SlR ν fi T.get ds tm le tmps t:=by
 intro t ht
 obtain ⟨r1,r2⟩:=hr o ho t ht
 refine ⟨fun g1 g2 g3=>?_,fun k hk=>?_⟩
 ·have hno:∀ e∈D,yG all e.i≠some t:=fun e he h=>by have:=hc.a3 e he t h;rw [g3] at this;cases this
  rw [hc.a2 t g1 g2 hno]
  refine r2 (fun j hj=>?_) g1 g2
  cases hp:jq all i j with
  | false=>rfl
  | true =>
   have hlt:j<all.size:=by
    unfold yG at hj
    cases hx:all[j]? with
    | none=>rw [hx] at hj;cases hj
    | some x=>exact (kaB.1 hx).1
   obtain ⟨e,he,rfl⟩:=h2 j hlt hp
   exact absurd hj (hno e he)
 ·obtain ⟨e,he,e1,e2⟩:=hc.a1 t k hk
  rw [e2]
  exact r1 e he e1 (h1 e he t e1 ht)
theorem zJd {l:List Oper} {o:Oper} {t:Nat} (h:Operand.tmp t∈o.op.operands.toList):t∈jw l o:=by
 unfold jw zGv
 exact kak.2 (.inl (List.mem_filterMap.2 ⟨_,h,rfl⟩))
theorem zqo {all:Array Oper} {fi:FI} {ds:List Nat} {tm:T} {le:List V} {o:Oper} {ν:Val} {tmps:Array Value} (h:∀ t∈jw all.toList o,SlR ν fi T.get ds tm le tmps t):zeS ν fi ds tm le tmps o:=by
 intro x hx
 cases x with
 | tmp t=>exact h t (zJd hx)
 | _=>trivial
theorem zba {all:Array Oper} {fi:FI} {ds:List Nat} {tm:T} {le:List V} {o:Oper} {ν:Val} {tmps:Array Value} (h:∀ t∈jw all.toList o,SlR ν fi T.get ds tm le tmps t) :
  ∀ j w d,o.guard=some (j,w)→(all[j]?).bind (·.dst)=some d→OdR ν fi ds tm le tmps (.tmp d):=by
 intro j w d hg hd
 refine h d ?_
 unfold jw
 rw [hg]
 have:all.toList[j]?=all[j]?:=kao
 simp only [this,hd]
 simp
def zIX (all:Array Oper):List DE→Prop
 | []=>True
 | x::E=>(∀ j,j<all.size→jq all x.i j=true→∃ e∈E,e.i=j)∧zIX all E
theorem zIX.top {all:Array Oper}:∀ {D:List DE},zIX all D→∀ e∈D,∀ j,j<all.size→jq all e.i j=true→∃ e'∈D,e'.i=j
 | [],_,e,he,_,_,_=>by cases he
 | x::E,h,e,he,j,hj,hp=>by
  rcases kaj.1 he with h1 | h1
  ·subst h1
   obtain ⟨e',he',h2⟩:=h.1 j hj hp
   exact ⟨e',kaC _ he',h2⟩
  ·obtain ⟨e',he',h2⟩:=zIX.top h.2 e h1 j hj hp
   exact ⟨e',kaC _ he',h2⟩
section
variable (P)
def zNY (all:Array Oper) (fi:FI) (tm0:T) (D:List DE) (e:DE) (o:Oper):Prop:=∀ ν tmps,yq ν fi.ng→Rdy all fi tm0 D ν tmps e.i→∃ y,VR ν e.v y∧∀ w,(execOp (ev tmps) o).run P w=.ok (.value y) w
def zKk (all:Array Oper) (fi:FI) (tm0:T) (D:List DE) (s:S) (e:DE) (o:Oper):Prop:=∀ ν w tmps,zEx P ν s w→yq ν fi.ng→Rdy all fi tm0 D ν tmps e.i→∃ y,VR ν e.v y∧(execOp (ev tmps) o).run P w=.ok (.value y) w
def zL2 (all:Array Oper) (fi:FI) (tm0:T) (D:List DE) (a:K) (b:B) (e:DE) (o:Oper):Prop:=∀ n0 w0 ν tmps s2 w,St P n0 w0 ν s2 w→yq ν fi.ng→Rdy all fi tm0 D ν tmps e.i→(∀ u,ν.blk a u=none)→a.toNat<s2.nx.toNat→(Tr.get B.none a s2.h=b∨Tr.get B.none a s2.h=.none) →
 ∃ ν' y w',ν.le ν'∧St P n0 w0 ν' s2 w'∧(∀ a',a'≠a→∀ u,ν'.blk a' u=ν.blk a' u)∧VR ν' e.v y∧(execOp (ev tmps) o).run P w=.ok (.value y) w'
def zDD (all:Array Oper) (fi:FI) (tm0:T) (D:List DE) (stale:List Nat) (s:S) (ν:Val) (e:DE):Prop:=∃ X o,all[e.i]?=some o ∧
 (∀ ν' tmps,yq ν' fi.ng→Rdy all fi tm0 D ν' tmps e.i→Region.wanted o (yielded all tmps)=X)∧(X=false→e.v=undef) ∧
 (X=true→zNY P all fi tm0 D e o∨(e.i∈stale∧kd all e.i=2)∨(kd all e.i=2∧zKk P all fi tm0 D s e o)∨∃ a b,e.key=some a∧zL2 P all fi tm0 D a b e o∧(∀ u,ν.blk a u=none)∧a.toNat<s.nx.toNat∧(Tr.get B.none a s.h=b∨Tr.get B.none a s.h=.none))
structure KeysOk (D:List DE) (m:Nat) (s:S):Prop where
 lt:∀ e∈D,∀ k,e.key=some k→m≤k.toNat∧k.toNat<s.nx.toNat
 ne:∀ e∈D,∀ e'∈D,e.i≠e'.i→∀ k,e.key=some k→e'.key≠some k
structure Inv (all:Array Oper) (fi:FI) (tm0:T) (tmps0:Array Value) (n0:Nat) (w0:World) (ν0:Val) (s0:S) (D:List DE) (ds:List Nat) (tm:T) (le:List V) (s:S) (stale:List Nat) (S:Nat→Prop) (ν:Val) (w:World) (tmps:Array Value):Prop where
 out:Out P n0 w0 ν0 s0 ν s w
 glob:yq ν P.globals.size
 ng:fi.ng≤P.globals.size
 cfg:Acfg all fi tm0 D ds tm le
 nd:(D.map (·.i)).Nodup
 lt:∀ e∈D,e.i<all.size
 topL:zIX all D
 keys:KeysOk D s0.nx.toNat s
 szt:tmps.size=fi.nt
 dlt:∀ e∈D,∀ t,yG all e.i=some t→t<fi.nt
 c1:∀ e∈D,S e.i→∀ t,yG all e.i=some t→VR ν e.v (tmps.getD t Go.undef)
 c2:∀ t,(∀ j,S j→yG all j≠some t)→tmps.getD t Go.undef=tmps0.getD t Go.undef
 fr0:∀ t,yE fi.ns t=false→yM fi.ns t<240→VR ν (T.get tm0 (yM fi.ns t)) (tmps0.getD t Go.undef)
 c3:∀ i,S i→∀ j,jq all i j=true→S j
 c4:∀ i,S i→∃ e∈D,e.i=i
 eff:∀ e∈D,kd all e.i=3→S e.i
 pend:∀ e∈D,¬S e.i→zDD P all fi tm0 D stale s ν e
end
theorem Inv.top {all:Array Oper} {fi:FI} {tm0:T} {tmps0:Array Value} {n0:Nat} {w0:World} {ν0:Val} {s0:S} {D:List DE} {ds:List Nat} {tm:T} {le:List V} {s:S} {stale:List Nat} {S:Nat→Prop} {ν:Val} {w:World} {tmps:Array Value}
  (hI:Inv P all fi tm0 tmps0 n0 w0 ν0 s0 D ds tm le s stale S ν w tmps):∀ e∈D,∀ j,j<all.size→jq all e.i j=true→∃ e'∈D,e'.i=j:=hI.topL.top
theorem zNk {D:List DE} (hnd:(D.map (·.i)).Nodup) {e e':DE} (he:e∈D) (he':e'∈D) (h:e.i=e'.i):e=e':=by
 induction D with
 | nil=>cases he
 | cons d D ih =>
  simp only [kaN,List.nodup_cons] at hnd
  rcases kaj.1 he with h1 | h1
  ·rcases kaj.1 he' with h2 | h2
   ·rw [h1,h2]
   ·subst h1
    exact absurd (by rw [h];exact kav.2 ⟨e',h2,rfl⟩) hnd.1
  ·rcases kaj.1 he' with h2 | h2
   ·subst h2
    exact absurd (by rw [←h];exact kav.2 ⟨e,h1,rfl⟩) hnd.1
   ·exact ih hnd.2 h1 h2
structure Tidy (all:Array Oper):Prop where
 uniq:∀ i j d,yG all i=some d→yG all j=some d→i=j
 pair:∀ i j,i<all.size→j<all.size→∀ o t,all[i]?=some o→yG all j=some t→t∈jw all.toList o→j=i∨jq all i j=true∨jq all j i=true
theorem zMS {all:Array Oper} (h:zNU (yB all.toList []) all.toList=true):Tidy all:=by
 unfold zNU at h
 rw [kas] at h
 obtain ⟨h1,h2⟩:=h
 refine ⟨fun i j d hi hj=>?_,fun i j hi hj o t ho hd ht=>?_⟩
 ·unfold yG at hi hj
  refine zvI all.toList h1 i j d ?_ ?_
  ·rw [kao];exact hi
  ·rw [kao];exact hj
 ·rw [kaD] at h2
  have h3:=h2 i ((zeb _ _ _).2 (.inl (by simpa using hi)))
  rw [kaD] at h3
  have h4:=h3 j ((zeb _ _ _).2 (.inl (by simpa using hj)))
  unfold zNr at h4
  rw [kao,kao,ho] at h4
  unfold yG at hd
  cases hp:all[j]? with
  | none=>rw [hp] at hd;cases hd
  | some p =>
   rw [hp] at hd h4
   simp only [Option.bind_some] at hd
   simp only [hd,Bool.or_eq_true] at h4
   rcases h4 with ((h4 | h4) | h4) | h4
   ·exact .inl (bq h4)
   ·exact .inr (.inl h4)
   ·exact .inr (.inr h4)
   ·have:(jw all.toList o).contains t=true:=List.elem_eq_true_of_mem ht
    rw [this] at h4;cases h4
theorem zKS {all:Array Oper} (ht:Tidy all) {fi:FI} {tm0:T} {tmps0:Array Value} {n0:Nat} {w0:World} {ν0:Val} {s0:S} {D:List DE} {ds:List Nat} {tm:T} {le:List V} {s:S} {stale:List Nat} {S:Nat→Prop} {ν:Val} {w:World} {tmps:Array Value}
  (hI:Inv P all fi tm0 tmps0 n0 w0 ν0 s0 D ds tm le s stale S ν w tmps) {i:Nat} (hi:i<all.size) (hS:¬S i) (hr:∀ j,jq all i j=true→S j):Rdy all fi tm0 D ν tmps i:=by
 intro o ho t hts
 refine ⟨fun e he hd hp=>hI.c1 e he (hr _ hp) t hd,fun hno g1 g2=>?_⟩
 have:tmps.getD t Go.undef=tmps0.getD t Go.undef:=by
  refine hI.c2 t fun j hj hd=>?_
  obtain ⟨e,he,hej⟩:=hI.c4 j hj
  have hlt:j<all.size:=by rw [←hej];exact hI.lt e he
  rcases ht.pair i j hi hlt o t ho hd hts with h | h | h
  ·subst h;exact hS hj
  ·rw [hno j hd] at h;cases h
  ·exact hS (hI.c3 j hj i h)
 rw [this]
 exact hI.fr0 t g1 g2
theorem zfg {all:Array Oper} (ht:Tidy all) {fi:FI} {o:Oper} {i:Nat} (ho:all[i]?=some o) {v:V} {tm:T} {le:List V} {c:T→List V→A} (hnb:¬((dsC fi o).run v tm le c).isBad):∃ tm' le',c tm' le'=(dsC fi o).run v tm le c∧(∀ d,o.dst=some d→d<fi.nt) ∧
  ∀ (tm0:T) (D:List DE) (ds:List Nat) (key:Option K),Acfg all fi tm0 D ds tm le→(∀ e∈D,e.i≠i)→Acfg all fi tm0 (⟨i,v,key⟩::D) (push o ds) tm' le':=by
 have hdst:yG all i=o.dst:=by unfold yG;rw [ho];rfl
 unfold dsC at hnb ⊢
 cases hd:o.dst with
 | none =>
  rw [hd] at hnb hdst
  refine ⟨tm,le,rfl,fun d h=>(by cases h),fun tm0 D ds key h hne=>?_⟩
  simp only [push,hd]
  refine ⟨fun t k hk=>?_,fun t g1 g2 g3=>h.a2 t g1 g2 (fun e he=>g3 e (by simp [he])),fun e he t g1 g2 g3=>?_,fun e he t g=>?_,h.a4⟩
  ·obtain ⟨e,he,q⟩:=h.a1 t k hk;exact ⟨e,by simp [he],q⟩
  ·rcases kaj.1 he with e1 | e1
   ·subst e1;rw [hdst] at g1;cases g1
   ·exact h.a2' e e1 t g1 g2 g3
  ·rcases kaj.1 he with e1 | e1
   ·subst e1;rw [hdst] at g;cases g
   ·exact h.a3 e e1 t g
 | some d =>
  rw [hd] at hnb hdst
  cases hlt:Nat.blt d fi.nt with
  | false=>simp only [hlt] at hnb;exact absurd trivial hnb
  | true =>
   have hlt':d<fi.nt:=by simpa [Nat.blt_eq] using hlt
   have gen:∀ (tm':T),T.get tm' 240=T.get tm 240→(∀ t,yE fi.ns t=false→yM fi.ns t<240→T.get tm' (yM fi.ns t)=if t=d then v else T.get tm (yM fi.ns t)) →
     ∀ (tm0:T) (D:List DE) (ds:List Nat) (key:Option K),Acfg all fi tm0 D ds tm le→(∀ e∈D,e.i≠i)→Acfg all fi tm0 (⟨i,v,key⟩::D) ((d+1)::ds) tm' (v::le):=by
    intro tm' h240 zY tm0 D ds key h hne
    have hnd:∀ e∈D,yG all e.i≠some d:=fun e he hh=>hne e he (ht.uniq _ _ d hh hdst)
    refine ⟨fun t k hk=>?_,fun t g1 g2 g3=>?_,fun e he t g1 g2 g3=>?_,fun e he t g=>?_,by rw [h240];exact h.a4⟩
    ·rw [zsr] at hk
     by_cases htd:t=d
     ·rw [if_pos htd] at hk
      simp only [Option.some.injEq] at hk
      subst hk
      exact ⟨⟨i,v,key⟩,by simp,by rw [htd];exact hdst,rfl⟩
     ·rw [if_neg htd] at hk
      cases hx:idx t ds 0 with
      | none=>rw [hx] at hk;cases hk
      | some j =>
       rw [hx] at hk
       simp only [Option.map_some,Option.some.injEq] at hk
       subst hk
       obtain ⟨e,he,q1,q2⟩:=h.a1 t j hx
       exact ⟨e,by simp [he],q1,q2⟩
    ·have htd:t≠d:=fun e=>g3 ⟨i,v,key⟩ (by simp) (by rw [e];exact hdst)
     rw [zY t g1 g2,if_neg htd]
     exact h.a2 t g1 g2 (fun e he=>g3 e (by simp [he]))
    ·rw [zY t g2 g3]
     rcases kaj.1 he with e1 | e1
     ·subst e1
      rw [hdst] at g1
      simp only [Option.some.injEq] at g1
      rw [if_pos g1.symm]
     ·rw [if_neg (fun e2=>hnd e e1 (by rw [←e2];exact g1))]
      exact h.a2' e e1 t g1 g2 g3
    ·rw [zsr]
     by_cases htd:t=d
     ·rw [if_pos htd];rfl
     ·rw [if_neg htd]
      rcases kaj.1 he with e1 | e1
      ·subst e1
       rw [hdst] at g
       simp only [Option.some.injEq] at g
       exact absurd g.symm htd
      ·have:=h.a3 e e1 t g
       cases hx:idx t ds 0 with
       | none=>rw [hx] at this;cases this
       | some k=>rfl
   cases hns:yE fi.ns d with
   | true =>
    simp only [hlt,hns] at hnb ⊢
    refine ⟨tm,v::le,rfl,fun d' h=>(by cases h;exact hlt'),fun tm0 D ds key h hne=>?_⟩
    simp only [push,hd]
    exact gen tm rfl (fun t g1 g2=>by rw [if_neg];intro e;subst e;rw [hns] at g1;cases g1) tm0 D ds key h hne
   | false =>
    simp only [hlt,hns] at hnb ⊢
    obtain ⟨_,h2,h3⟩:=zbt (zzb hnb)
    obtain ⟨tm',h4,h5⟩:=ze3 hnb
    rw [h3] at h5
    refine ⟨tm',v::le,h4,fun d' h=>(by cases h;exact hlt'),fun tm0 D ds key h hne=>?_⟩
    simp only [push,hd]
    refine gen tm' (by rw [h5,if_neg (by omega)]) (fun t g1 g2=>?_) tm0 D ds key h hne
    rw [h5]
    by_cases htd:t=d
    ·subst htd;rw [if_pos rfl,if_pos rfl]
    ·rw [if_neg htd,if_neg (fun e=>htd (ziM g1 hns e))]
theorem zDD.mono {all:Array Oper} {fi:FI} {tm0:T} {D:List DE} {stale:List Nat} {s:S} {ν ν':Val} {e:DE} (hk:∀ k,e.key=some k→(∀ u,ν.blk k u=none)→∀ u,ν'.blk k u=none) (h:zDD P all fi tm0 D stale s ν e):zDD P all fi tm0 D stale s ν' e:=by
 obtain ⟨X,o,h1,h2,h3,h4⟩:=h
 refine ⟨X,o,h1,h2,h3,fun hX=>?_⟩
 rcases h4 hX with h | h | h | ⟨a,b,g1,g2,g3,g4⟩
 ·exact .inl h
 ·exact .inr (.inl h)
 ·exact .inr (.inr (.inl h))
 ·exact .inr (.inr (.inr ⟨a,b,g1,g2,hk a g1 g3,g4⟩))
section
variable {all:Array Oper} {fi:FI} {tm0:T} {tmps0:Array Value} {n0:Nat} {w0:World} {ν0:Val} {s0:S} {D:List DE} {ds:List Nat} {tm:T} {le:List V} {s:S} {stale:List Nat} {Sx:Nat→Prop} {ν:Val} {w:World} {tmps:Array Value}
theorem zpR (ht:Tidy all) (hI:Inv P all fi tm0 tmps0 n0 w0 ν0 s0 D ds tm le s stale Sx ν w tmps) {e:DE} (he:e∈D) {o:Oper} (ho:all[e.i]?=some o) (hr:∀ j,jq all e.i j=true→Sx j) {ν':Val} {w':World} (hle:ν.le ν') (hout:Out P n0 w0 ν0 s0 ν' s w') {y:Value} (hy:VR ν' e.v y)
  (hal:∀ e'∈D,e'.i≠e.i→∀ k,e'.key=some k→(∀ u,ν.blk k u=none)→∀ u,ν'.blk k u=none) :
  Inv P all fi tm0 tmps0 n0 w0 ν0 s0 D ds tm le s stale (fun j=>Sx j∨j=e.i) ν' w' (j0 tmps o.dst y):=by
 have hdst:yG all e.i=o.dst:=by unfold yG;rw [ho];rfl
 have zY:∀ t,(j0 tmps o.dst y).getD t Go.undef=if o.dst=some t then y else tmps.getD t Go.undef:=by
  intro t
  cases hd:o.dst with
  | none=>simp [j0]
  | some d =>
   have hlt:=hI.dlt e he d (by rw [hdst,hd])
   simp only [j0]
   rw [zci (by rw [hI.szt];exact hlt)]
   by_cases h:t=d
   ·subst h;simp
   ·rw [if_neg h,if_neg];intro e2;simp only [Option.some.injEq] at e2;exact h e2.symm
 refine ⟨hout,hI.glob.mono hle,hI.ng,hI.cfg,hI.nd,hI.lt,hI.topL,hI.keys,?_,hI.dlt,fun e' he' hS t hd=>?_,fun t hno=>?_,fun t g1 g2=>(hI.fr0 t g1 g2).mono' hle,fun i hS j hj=>?_,fun i hS=>?_,fun e' he' hk=>.inl (hI.eff e' he' hk),fun e' he' hS=>?_⟩
 ·cases hd:o.dst<;>simp [j0,hI.szt]
 ·rw [zY]
  by_cases hii:e'.i=e.i
  ·have:=zNk hI.nd he' he hii
   subst this
   rw [hdst] at hd
   rw [if_pos hd];exact hy
  ·rw [if_neg (fun h=>hii (ht.uniq _ _ t hd (by rw [hdst];exact h)))]
   rcases hS with hS | hS
   ·exact (hI.c1 e' he' hS t hd).mono' hle
   ·exact absurd hS hii
 ·rw [zY,if_neg (fun h=>hno e.i (.inr rfl) (by rw [hdst];exact h))]
  exact hI.c2 t (fun j hj=>hno j (.inl hj))
 ·rcases hS with hS | hS
  ·exact .inl (hI.c3 i hS j hj)
  ·subst hS;exact .inl (hr j hj)
 ·rcases hS with hS | hS
  ·exact hI.c4 i hS
  ·exact ⟨e,he,hS.symm⟩
 ·have hii:e'.i≠e.i:=fun h=>hS (.inr h)
  exact (hI.pend e' he' (fun h=>hS (.inl h))).mono (hal e' he' hii)
theorem zI5 (ht:Tidy all) (hnd:∀ (i:Nat) (o:Oper),all[i]?=some o→zW o=false) (hI:Inv P all fi tm0 tmps0 n0 w0 ν0 s0 D ds tm le s [] Sx ν w tmps) {e:DE} (he:e∈D) (hS:¬Sx e.i) (hr:∀ j,jq all e.i j=true→Sx j) :
  ∃ ν' w' tmps',Inv P all fi tm0 tmps0 n0 w0 ν0 s0 D ds tm le s [] (fun j=>Sx j∨j=e.i) ν' w' tmps'∧∀ (b:Base) cs df kk rest,step P (lone (b.fr tmps df (.inRegion all (e.i::rest)::kk)) cs w)=.next (lone (b.fr tmps' df (.inRegion all rest::kk)) cs w'):=by
 have hrdy:=zKS ht hI (hI.lt e he) hS hr
 obtain ⟨X,o,ho,hw,hX0,hX1⟩:=hI.pend e he hS
 have hG:=hI.glob.le hI.ng
 have hwant:=hw ν tmps hG hrdy
 cases X with
 | false =>
  refine ⟨ν,w,_,zpR ht hI he ho hr ν.le_refl hI.out (y:=Go.undef) (by rw [hX0 rfl];exact VR.undef) (fun _ _ _ _ _ h=>h),fun b cs df kk rest=>?_⟩
  have:=zgE (P:=P) (b:=b) (tm:=tmps) (df:=df) (k:=kk) (cs:=cs) (w:=w) (ops:=all) (i:=e.i) (rest:=rest) (by simp [ho,hwant])
  rw [ho] at this
  exact this
 | true =>
  have fin:∀ y,VR ν e.v y→(execOp (ev tmps) o).run P w=.ok (.value y) w→∃ ν' w' tmps',Inv P all fi tm0 tmps0 n0 w0 ν0 s0 D ds tm le s [] (fun j=>Sx j∨j=e.i) ν' w' tmps'∧∀ (b:Base) cs df kk rest,step P (lone (b.fr tmps df (.inRegion all (e.i::rest)::kk)) cs w)=.next (lone (b.fr tmps' df (.inRegion all rest::kk)) cs w'):=by
   intro y hy hrun
   exact ⟨ν,w,_,zpR ht hI he ho hr ν.le_refl hI.out hy (fun _ _ _ _ _ h=>h),fun b cs df kk rest=>wp ho hwant (.inr (hnd _ _ ho)) (.inl hrun)⟩
  rcases hX1 rfl with h | h | h | ⟨a,bb,g1,g2,g3,g4,g5⟩
  ·obtain ⟨y,h1,h2⟩:=h ν tmps hG hrdy
   exact fin y h1 (h2 w)
  ·exact absurd h.1 (by simp)
  ·obtain ⟨y,h1,h2⟩:=h.2 ν w tmps ⟨hI.out.st.rows,hI.out.st.sep⟩ hG hrdy
   exact fin y h1 h2
  ·obtain ⟨ν',y,w',h1,h2,h3,h4,h5⟩:=g2 n0 w0 ν tmps s w hI.out.st hG hrdy g3 g4 g5
   have hout:Out P n0 w0 ν0 s0 ν' s w':=by
    refine ⟨Val.le_trans hI.out.le h1,h2,hI.out.nx,fun a' ha' hlt=>?_⟩
    obtain ⟨k1,k2⟩:=hI.out.keep a' ha' hlt
    have hne:a'≠a:=by
     intro e2;subst e2
     have:=(hI.keys.lt e he a' g1).1
     omega
    exact ⟨fun u=>by rw [h3 a' hne u];exact k1 u,k2⟩
   exact ⟨ν',w',_,zpR ht hI he ho hr h1 hout h4 (fun e' he' hii k hk hn u=>by
    rw [h3 k ?_ u]
    ·exact hn u
    ·intro e2;subst e2;exact hI.keys.ne e he e' he' (fun h=>hii h.symm) k g1 hk),fun b cs df kk rest=>wp ho hwant (.inr (hnd _ _ ho)) (.inl h5)⟩
end
end Go.Ev
