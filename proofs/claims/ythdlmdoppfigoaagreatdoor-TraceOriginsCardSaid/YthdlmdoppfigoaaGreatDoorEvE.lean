/- The evaluator is right on frames, calls, rounds, recover, guards, ordered regions; first laws of regions whose order is drawn. No statement of the seat stands here. No condition. By an AI agent. -/
import Derived.Test.YthdlmdoppfigoaaGreatDoorEvD
import Derived.Defers
import Derived.Lib.Bytealg
import Derived.Orders
namespace Go.Ev
open Go.RowKit
variable {P:Program}
variable {ns:Nat}
theorem ztA:∀ {t d:Nat},t<d→qV ns t=false→yl ns t<yl ns d:=by
 have mono:∀ d,yl ns d≤yl ns (d+1):=by
  intro d
  rw [yl]
  split<;>omega
 have A:∀ k d,yl ns d≤yl ns (d+k):=by
  intro k
  induction k with
  | zero=>intro d;exact kad _
  | succ k X=>intro d;exact kaB (X d) (mono (d+k))
 intro t d h hb
 have I:yl ns (t+1)=yl ns t+1:=by
  rw [yl]
  unfold qV at hb
  rw [hb]
 have:=A (d - (t+1)) (t+1)
 rw [show t+1+(d - (t+1))=d by omega] at this
 omega
variable {d:Nat}
theorem zgY {t:Nat} (H:qV ns t=false) (u:qV ns d=false) (h:yl ns t=yl ns d):t=d:=by
 rcases Nat.lt_trichotomy t d with I | I | I
 ·have:=ztA I H;omega
 ·exact I
 ·have:=ztA I u;omega
structure FrX (ν:Val) (fi:FI) (ds:List Nat) (tm:T) (le:List V) (tmps:Array Value):Prop where
 sz:tmps.size=fi.nt
 a:∀ t,qV fi.ns t=false→yl fi.ns t<240→VR ν (T.get tm (yl fi.ns t)) (tmps.getD t Go.undef)
 b:∀ t i,idx t ds 0=some i→VR ν (le.getD i .bad) (tmps.getD t Go.undef)
variable {tmps:Array Value} {fi:FI} {ν:Val}
theorem FrX.slot {ds:List Nat} {tm:T} {le:List V} (h:FrX ν fi ds tm le tmps) (t:Nat):SlR ν fi T.get ds tm le tmps t:=⟨fun I J _=>h.a t I J,h.b t⟩
theorem FrX.odr {ds:List Nat} {tm:T} {le:List V} (h:FrX ν fi ds tm le tmps) (x:Operand):OdR ν fi ds tm le tmps x:=by
 cases x<;>first | exact h.slot _ | trivial
theorem FrX.ops {ds:List Nat} {tm:T} {le:List V} (h:FrX ν fi ds tm le tmps) (o:Oper):zfS ν fi ds tm le tmps o:=fun x _=>h.odr x
theorem FrX.of {tm:T} (h:FrR ν fi T.get tm tmps):FrX ν fi [] tm [] tmps:=⟨h.1,h.2,fun t i hi=>by simp [idx] at hi⟩
theorem FrX.fr {ds:List Nat} {tm:T} {le:List V} (h:FrX ν fi ds tm le tmps):FrR ν fi T.get tm tmps:=⟨h.sz,h.a⟩
variable {W:Val}
theorem FrX.mono (g:ν.le W) {ds:List Nat} {tm:T} {le:List V} (h:FrX ν fi ds tm le tmps):FrX W fi ds tm le tmps:=⟨h.sz,fun t I J=>(h.a t I J).mono' g,fun t i hi=>(h.b t i hi).mono' g⟩
theorem zoA (t:Nat):∀ (ds:List Nat) (n:Nat),idx t ds (n+1)=(idx t ds n).map (·+1)
 | [],_=>rfl
 | d::ds,n=>by
  simp only [idx]
  split
  ·rfl
  ·exact zoA t ds (n+1)
theorem zkZ (t d:Nat) (ds:List Nat):idx t ((d+1)::ds) 0=if t=d then some 0 else (idx t ds 0).map (·+1):=by
 simp only [idx]
 by_cases h:t=d
 ·subst h
  rw [if_pos rfl]
  have:Nat.beq (t+1) (t+1)=true:=by simp
  rw [this]
 ·rw [if_neg h]
  have:Nat.beq (d+1) (t+1)=false:=by
   cases hb:Nat.beq (d+1) (t+1) with
   | false=>rfl
   | true=>have:=kac hb;omega
  rw [this]
  exact zoA t ds 0
theorem zb9 {y:Value} (u:d<tmps.size) (t:Nat):(tmps.setIfInBounds d y).getD t Go.undef=if t=d then y else tmps.getD t Go.undef:=by
 simp only [Array.getD_eq_getD_getElem?]
 by_cases h:t=d
 ·subst h;simp [u]
 ·rw [if_neg h,Array.getElem?_setIfInBounds_ne (fun e=>h e.symm)]
variable {v:V}
theorem znt {p:Nat} {t:T} {c:T→A} (G:¬((puC p).run v t c).isBad):p<256:=by
 have e:(puC p).run v t c=(moC (α:=N V) (p / 16)).run t (fun u k=>(moC (α:=V) (p % 16)).run u (fun _ k=>k v) k) c:=rfl
 rw [e] at G
 obtain ⟨u,B,_⟩:=zrK G
 omega
variable {o:Oper}
theorem zjU {tm:T} {le:List V} {c:T→List V→A} (G:¬((dsC fi o).run v tm le c).isBad):∃ F f,c F f=(dsC fi o).run v tm le c∧T.get F 240=T.get tm 240 ∧
  ∀ (ν:Val) (tmps:Array Value) (ds:List Nat) (y:Value),FrX ν fi ds tm le tmps→VR ν v y→FrX ν fi (push o ds) F f (wB tmps o.dst y):=by
 unfold dsC at G ⊢
 cases u:o.dst with
 | none =>
  rw [u] at G
  exact ⟨tm,le,rfl,rfl,fun ν tmps ds y h E=>by simp only [push,u,wB];exact h⟩
 | some d =>
  rw [u] at G
  cases O:Nat.blt d fi.nt with
  | false=>simp only [O] at G;exact absurd trivial G
  | true =>
   have W:d<fi.nt:=by simpa [Nat.blt_eq] using O
   have hb:∀ (ν:Val) (tmps:Array Value) (ds:List Nat) (y:Value),FrX ν fi ds tm le tmps→VR ν v y→∀ t i,idx t ((d+1)::ds) 0=some i→VR ν ((v::le).getD i .bad) ((tmps.setIfInBounds d y).getD t Go.undef):=by
    intro ν tmps ds y h E t i hi
    rw [zb9 (by rw [h.sz];exact W)]
    rw [zkZ] at hi
    by_cases H:t=d
    ·rw [if_pos H] at hi ⊢
     simp only [Option.some.injEq] at hi
     subst hi
     exact E
    ·rw [if_neg H] at hi ⊢
     cases M:idx t ds 0 with
     | none=>rw [M] at hi;cases hi
     | some j =>
      rw [M] at hi
      simp only [Option.map_some,Option.some.injEq] at hi
      subst hi
      exact h.b t j M
   cases n:qV fi.ns d with
   | true =>
    simp only [O,n] at G ⊢
    refine ⟨tm,v::le,rfl,rfl,fun ν tmps ds y h E=>?_⟩
    simp only [push,u,wB]
    refine ⟨by simp [h.sz],fun t I J=>?_,hb ν tmps ds y h E⟩
    rw [zb9 (by rw [h.sz];exact W)]
    have H:t≠d:=by intro e;subst e;rw [n] at I;cases I
    rw [if_neg H]
    exact h.a t I J
   | false =>
    simp only [O,n] at G ⊢
    obtain ⟨_,J,Q⟩:=zbn (znt G)
    obtain ⟨F,K,g⟩:=zeC G
    rw [Q] at g
    refine ⟨F,v::le,K,?_,fun ν tmps ds y h E=>?_⟩
    ·rw [g,if_neg (by omega)]
    ·simp only [push,u,wB]
     refine ⟨by simp [h.sz],fun t R U=>?_,hb ν tmps ds y h E⟩
     rw [zb9 (by rw [h.sz];exact W),g]
     by_cases H:t=d
     ·subst H;rw [if_pos rfl,if_pos rfl];exact E
     ·rw [if_neg H,if_neg (fun e=>H (zgY R n e))]
      exact h.a t R U
def ztF (k:CallKind) (cs:List Frame):Prop:=k=.normal∨(k=.deferred∧∃ c q,cs=c::q∧c.mode=.returning)
def DfE (ν:Val):V→Deferred→Prop
 | .ref 2 a,x=>∃ B,ν.blk a 0=some (B,0)∧x={ target:=.collected B,args:=#[] }
 | .ls 1 [.fn (.func g) first cap,.ls 1 args],x=>∃ h m C,VRs ν first h∧VRs ν cap m∧VRs ν args C∧x={ target:=.fn (.func g) ⟨m⟩,args:=⟨h++C⟩ }
 | _,_=>False
def DfL (ν:Val):List V→List Deferred→Prop
 | [],df=>df=[]
 | d::l,df=>∃ x r,df=x::r∧DfE ν d x∧DfL ν l r
def DfR (ν:Val):V→List Deferred→Prop
 | .ls _ l,df=>DfL ν l df
 | _,df=>df=[]
structure Env (ν:Val) (b:Base) (cs:List Frame) (tm:T) (df:List Deferred):Prop where
 calm:ztF b.kind cs
 df:DfR ν (T.get tm 240) df
 ro:∀ t l,T.get tm 240=.ls t l→b.ro=none
theorem DfE.mono (h:ν.le W) {d:V} {x:Deferred} (r:DfE ν d x):DfE W d x:=by
 unfold DfE at *
 split at r
 ·obtain ⟨B,I,J⟩:=r;exact ⟨B,(h _ _ _ I).1,J⟩
 ·obtain ⟨A,m,C,I,J,Q,K⟩:=r;exact ⟨A,m,C,I.mono' h,J.mono' h,Q.mono' h,K⟩
 ·exact r.elim
theorem DfL.mono {ν W:Val} (h:ν.le W):∀ {l:List V} {df:List Deferred},DfL ν l df→DfL W l df
 | [],_,r=>r
 | _::_,_,⟨x,r,e,I,J⟩=>⟨x,r,e,I.mono h,DfL.mono h J⟩
theorem DfR.mono (h:ν.le W) {df:List Deferred} (r:DfR ν v df):DfR W v df:=by
 cases v<;>first | exact r | exact DfL.mono h r
theorem Env.mono (h:ν.le W) {b:Base} {cs:List Frame} {tm:T} {df:List Deferred} (e:Env ν b cs tm df):Env W b cs tm df:=⟨e.calm,e.df.mono h,e.ro⟩
theorem Env.same {b:Base} {cs:List Frame} {tm F:T} {df:List Deferred} (e:Env ν b cs tm df) (h:T.get F 240=T.get tm 240):Env ν b cs F df:=⟨e.calm,by rw [h];exact e.df,fun t l f=>e.ro t l (by rw [←h];exact f)⟩
def jq (P:Program) (n0:Nat) (w0:World) (fi:FI) (ν:Val) (s:S) (b:Base) (cs:List Frame) (m:Machine) (kk:List Item):A→Prop
 | .nrm F U=>∃ W w' n L,Out P n0 w0 ν s W U w'∧FrR W fi T.get F n∧Env W b cs F L∧Steps P m (lone (b.fr n L kk) cs w')
 | .ext i F U=>∃ W w' n L todo,Out P n0 w0 ν s W U w'∧FrR W fi T.get F n∧Env W b cs F L∧exitTo i todo=exitTo i kk∧Steps P m (lone (b.fr n L (.code (.exit i)::todo)) cs w')
 | .ret F U=>∃ W w' n L todo,Out P n0 w0 ν s W U w'∧FrR W fi T.get F n∧Env W b cs F L∧Steps P m (lone (b.fr n L (.code .ret::todo)) cs w')
 | _=>False
def zh5 (P:Program) (fi:FI) (c:Code) (tm:T) (s:S) (res:A):Prop:=∀ n0 w0 ν w tmps df b cs l,fi.ng≤P.globals.size→St P n0 w0 ν s w→yn ν P.globals.size→FrR ν fi T.get tm tmps→Env ν b cs tm df →
 jq P n0 w0 fi ν s b cs (lone (b.fr tmps df (.code c::l)) cs w) l res
def zai (P:Program) (f:Nat) (args:List V) (s:S) (v:V) (U:S):Prop:=∀ n0 w0 ν w (p:List Value),St P n0 w0 ν s w→yn ν P.globals.size→VRs ν args p →
 (callFunc f ⟨p⟩).run P w=.ok (.enter f ⟨p⟩) w∧∀ kind cs,ztF kind cs→∃ W y w' fr,Out P n0 w0 ν s W U w'∧VR W v y∧Steps P (lone (Frame.enter P f ⟨p⟩ kind) cs w) (lone fr cs w') ∧
  fr.kind=kind∧fr.mode=.returning∧fr.defers=[]∧fr.fn=f∧∃ fn,P.funcs[f]?=some fn∧(results fn fr.tmps).run P w'=.ok y w'
def F.isBad:F→Prop | .bad _=>True | _=>False
def F.Has (p:V→S→Prop):F→Prop | .ret v s=>p v s | _=>False
theorem F.Has.imp {p q:V→S→Prop} (h:∀ v s,p v s→q v s):∀ {x:F},x.Has p→x.Has q
 | .ret _ _,g=>h _ _ g
def zqP (P:Program) (f:Nat) (args:List V) (s:S) (X:F):Prop:=∀ n0 w0 ν w (p:List Value),St P n0 w0 ν s w→yn ν P.globals.size→VRs ν args p →
 (callFunc f ⟨p⟩).run P w=.ok (.enter f ⟨p⟩) w∧∀ kind cs,ztF kind cs→X.Has fun v U=>∃ W y w' fr,Out P n0 w0 ν s W U w'∧VR W v y∧Steps P (lone (Frame.enter P f ⟨p⟩ kind) cs w) (lone fr cs w') ∧
  fr.kind=kind∧fr.mode=.returning∧fr.defers=[]∧fr.fn=f∧∃ fn,P.funcs[f]?=some fn∧(results fn fr.tmps).run P w'=.ok y w'
structure RS (P:Program) (pc:PC) (r:R):Prop where
 code:∀ fi c tm s,¬(r.code fi c tm s).isBad→zh5 P fi c tm s (r.code fi c tm s)
 calls:∀ f args s,¬(r.call f args s).isBad→zqP P f args s (r.call f args s)
theorem RS.call {pc:PC} {r:R} (N:RS P pc r) (f:Nat) (args:List V) (s:S) (v:V) (U:S) (h:r.call f args s=.ret v U):zai P f args s v U:=by
 have:=N.calls f args s (by rw [h];exact fun h=>h)
 rw [h] at this
 exact this
theorem yn.le {a b:Nat} (h:yn ν b) (Y:a≤b):yn ν a:=fun g Q=>h g (by omega)
def OpM (P:Program) (pc:PC) (r:R) (fi:FI) (ds:List Nat) (o:Oper):Prop:=∀ tm le s k,¬((op pc fi ds o).run r tm le s k).isBad→∃ v U,k v U=(op pc fi ds o).run r tm le s k ∧
 ∀ n0 w0 ν w tmps df b cs (all:Array Oper) i q l,fi.ng≤P.globals.size→St P n0 w0 ν s w→yn ν P.globals.size→zfS ν fi ds tm le tmps o→Env ν b cs tm df→all[i]?=some o→Region.wanted o (yielded all tmps)=true →
  ∃ W y w',Out P n0 w0 ν s W U w'∧VR W v y∧Steps P (lone (b.fr tmps df (.inRegion all (i::q)::l)) cs w) (lone (b.fr (wB tmps o.dst y) df (.inRegion all q::l)) cs w')
theorem OpS.m {pc:PC} {r:R} {ds:List Nat} (u:z7 o=false) (h:OpS P pc fi ds o):OpM P pc r fi ds o:=fun tm le s k G=>by
 obtain ⟨v,U,I,J⟩:=h r tm le s k G
 refine ⟨v,U,I,fun n0 w0 ν w tmps df b cs all i q l j Y O B z C F=>?_⟩
 obtain ⟨W,y,w',Q,K,d⟩:=J n0 w0 ν w tmps Y (O.le j) B
 exact ⟨W,y,w',Q,K,.one (zbQ C F (.inr u) d)⟩
variable {args:List V} {f:Nat} {s:S}
theorem zmS {r:R} {k:V→S→A} (G:¬(zdA r f args s k).isBad):∃ v U,r.call f args s=.ret v U∧k v U=zdA r f args s k:=by
 unfold zdA at G ⊢
 cases h:r.call f args s with
 | ret v U=>exact ⟨v,U,rfl,rfl⟩
 | bad m=>rw [h] at G;exact absurd trivial G
variable {all:Array Oper} {kk:List Item} {rest:List Nat} {p:List Value} {i n0:Nat} {w0:World}
theorem zpS {X:F} (Z:zqP P f args s X) {w:World} (Y:St P n0 w0 ν s w) (O:yn ν P.globals.size) (E:VRs ν args p) {df:List Deferred} {b:Base} {cs:List Frame} (C:all[i]?=some o) (m:Region.wanted o (yielded all tmps)=true) (u:z7 o=false)
  (B:∀ w,(execOp (ev tmps) o).run P w=(callFunc f ⟨p⟩).run P w) :
  X.Has fun v U=>∃ W y w',Out P n0 w0 ν s W U w'∧VR W v y∧Steps P (lone (b.fr tmps df (.inRegion all (i::rest)::kk)) cs w) (lone (b.fr (wB tmps o.dst y) df (.inRegion all rest::kk)) cs w'):=by
 obtain ⟨I,J⟩:=Z n0 w0 ν w p Y O E
 refine (J .normal (b.fr tmps df (.inRegion all (i::rest)::kk)::cs) (.inl rfl)).imp fun v U ⟨W,y,w',fr,Q,K,d,t,g,R,H,fn,e,G⟩=>?_
 refine ⟨W,y,w',Q,K,.head (zif C m (.inr u) (by rw [B];exact I)) (d.trans (.one ?_))⟩
 have:=step_leave_returned (P:=P) (fr:=fr) (c:=b.fr tmps df (.inRegion all (i::rest)::kk)) (cs:=cs) (w:=w') (v:=y) ⟨g,R,t,fn,by rw [H];exact e,G⟩
 rw [this,zaQ,C]
 rfl
theorem zrw {U:S} (Z:zai P f args s v U) {w:World} (Y:St P n0 w0 ν s w) (O:yn ν P.globals.size) (E:VRs ν args p) {df:List Deferred} {b:Base} {cs:List Frame} (C:all[i]?=some o) (m:Region.wanted o (yielded all tmps)=true) (u:z7 o=false)
  (B:∀ w,(execOp (ev tmps) o).run P w=(callFunc f ⟨p⟩).run P w) :
  ∃ W y w',Out P n0 w0 ν s W U w'∧VR W v y∧Steps P (lone (b.fr tmps df (.inRegion all (i::rest)::kk)) cs w) (lone (b.fr (wB tmps o.dst y) df (.inRegion all rest::kk)) cs w') :=
 zpS (X:=.ret v U) Z Y O E C m u B
theorem zgw (c:UInt8):∀ (l:List UInt8) (n:Nat) (k:V→A),∃ v,k v=zjH c.toNat (l.map UInt8.toNat) n k∧∀ ν,VR ν v (.int .i64 (if Lib.indexByte l c=-1 then -1 else n+Lib.indexByte l c))
 | [],n,k=>⟨.neg .i64 0,rfl,fun ν=>rfl⟩
 | b::l,n,k=>by
  have e:zjH c.toNat ((b::l).map UInt8.toNat) n k=(match Nat.beq b.toNat c.toNat with | true=>k (.nat .i64 n) | false=>fN (Nat.succ n) fun n=>zjH c.toNat (l.map UInt8.toNat) n k):=by
   show @Bool.rec (fun _=>A) _ _ (Nat.beq b.toNat c.toNat)=_
   cases Nat.beq b.toNat c.toNat<;>rfl
  rw [e]
  have B:Nat.beq b.toNat c.toNat=(b == c):=by
   rw [kaA,Nat.beq_eq,beq_iff_eq]
   exact UInt8.toNat_inj
  rw [B]
  cases hb:(b == c) with
  | true =>
   refine ⟨_,rfl,fun ν=>?_⟩
   have:Lib.indexByte (b::l) c=0:=by unfold Lib.indexByte;rw [hb];rfl
   rw [this]
   simp [VR]
  | false =>
   simp only [zE]
   obtain ⟨v,I,J⟩:=zgw c l (n+1) k
   refine ⟨v,I,fun ν=>?_⟩
   have Q:=J ν
   have:Lib.indexByte (b::l) c=if Lib.indexByte l c=-1 then -1 else Lib.indexByte l c+1:=by
    conv=>lhs;unfold Lib.indexByte
    rw [hb];simp
   rw [this]
   have F:=Lib.indexByte_ge l c
   by_cases h0:Lib.indexByte l c=-1
   ·rw [if_pos h0] at Q
    rw [if_pos h0]
    exact Q
   ·rw [if_neg h0] at Q
    rw [if_neg h0,if_neg (by omega)]
    rw [show (n:Int)+(Lib.indexByte l c+1)=((n+1:Nat):Int)+Lib.indexByte l c by omega]
    exact Q
theorem zxg (b:Nat):∀ (l:List Nat) (n:Nat) (k:V→A),∃ v,k v=zjH b l n k
 | [],n,k=>⟨_,rfl⟩
 | x::l,n,k=>by
  have e:zjH b (x::l) n k=(match Nat.beq x b with | true=>k (.nat .i64 n) | false=>fN (Nat.succ n) fun n=>zjH b l n k):=by
   show @Bool.rec (fun _=>A) _ _ (Nat.beq x b)=_
   cases Nat.beq x b<;>rfl
  rw [e]
  cases Nat.beq x b with
  | true=>exact ⟨_,rfl⟩
  | false=>simp only [zE];exact zxg b l (n+1) k
theorem zAM {e:Nat} {k:V→S→A} (G:¬(zlq e args s k).isBad):∃ v,k v s=zlq e args s k∧∀ (ν:Val) (p:Array Value),VRs ν args p.toList→∃ y,VR ν v y∧∀ g,zvn e=some g→∀ w,(g p).run P w=.ok y w:=by
 rcases e with _ | _ | e
 ·have L:zlq 0 args s k=zmN args fun x=>k x s:=rfl
  rw [L] at G ⊢
  obtain ⟨x,ea,I⟩:=zo8 G
  subst ea
  refine ⟨x,I,fun ν p E=>?_⟩
  obtain ⟨y,M,J⟩:=E.one
  subst M
  refine ⟨y,J,fun g C w=>?_⟩
  simp only [zvn,Option.some.injEq] at C
  subst C
  rfl
 ·have L:zlq 1 args s k=zlC args fun x y=>@V.rec mA mU eA eC eC eB (fun l=>@V.rec mA mU eA (fun j b=>@Bool.rec (fun _=>A) eA (zjH b l 0 fun v=>k v s) (zB (qO j .u8) (Nat.blt b 256))) eC eB eB eD eF eF eB eC eD eF eD () tE y) eD eF eF eB eC eD eF eD () tE x:=rfl
  rw [L] at G ⊢
  obtain ⟨x,y,ea,I⟩:=zq6 G
  subst ea
  rw [←I] at G ⊢
  cases x with
  | str l =>
   cases y with
   | nat j b =>
    simp only at G ⊢
    cases X:zB (qO j .u8) (Nat.blt b 256) with
    | false=>rw [X] at G;exact absurd trivial G
    | true =>
     obtain ⟨N,d⟩:=zy X
     have N:=(qx _ _).1 N
     have d:b<256:=by simpa [Nat.blt_eq] using d
     subst N
     simp only
     -- B bytes
     have hb:(UInt8.ofNat b).toNat=b:=by simp;omega
     by_cases f:∃ m:List UInt8,l=m.map UInt8.toNat
     ·obtain ⟨m,rfl⟩:=f
      obtain ⟨v,R,U⟩:=zgw (UInt8.ofNat b) m 0 (fun v=>k v s)
      rw [hb] at R
      refine ⟨v,R,fun ν p E=>?_⟩
      obtain ⟨u,z,M,⟨t,o,i⟩,Z⟩:=E.two
      simp only [VR] at Z
      subst M o Z
      have Q:t.data.toList=m:=by
       have W:zP t=zP ⟨m.toArray⟩:=by rw [i];rfl
       have Y:=zpe W
       rw [Y]
      refine ⟨_,U ν,fun g C w=>?_⟩
      simp only [zvn,Option.some.injEq] at C
      subst C
      rw [run_indexByte_string,Lib.firstIdx_eq,Q]
      have F:=Lib.indexByte_ge m (UInt8.ofNat b)
      have H:(Int.ofNat b).toNat.toUInt8=UInt8.ofNat b:=rfl
      rw [H]
      congr 2
      split
      ·assumption
      ·simp
     ·obtain ⟨v,R⟩:=zxg b l 0 (fun v=>k v s)
      refine ⟨v,R,fun ν p E=>?_⟩
      obtain ⟨u,z,M,⟨t,o,i⟩,Z⟩:=E.two
      exact absurd ⟨_,i.symm⟩ f
   | _=>exact absurd trivial G
  | _=>exact absurd trivial G
 ·exact absurd trivial G
theorem zh6 {c:Call} (C:o.op=.call c) (X:c.callee=.value (.func f)) (tmps:Array Value) (w:World):(execOp (ev tmps) o).run P w=(callFunc f ⟨c.args.toList.map (ev tmps)⟩).run P w:=by
 have e:(#[]++c.args.map (ev tmps)++#[]:Array Value)=⟨c.args.toList.map (ev tmps)⟩:=by apply Array.ext';simp
 simp only [execOp,C,resolve,X,ev,Deferred.ofValue,Sem.run_bind,Sem.run_pure,Result.andThen_ok,invoke]
 rw [e]
theorem zrk {pc:PC} (Z:PcOk P pc) {r:R} (N:RS P pc r) {ds:List Nat} {c:Call} (C:o.op=.call c) (X:c.callee=.value (.func f)):OpM P pc r fi ds o:=by
 intro tm le s k G
 have u:z7 o=false:=by simp [z7,C]
 have fin:∀ (H:List V) (v:V) (U:S),zai P f H s v U→(∀ (ν:Val) (tmps:Array Value),yn ν fi.ng→(∀ x∈c.args.toList,OdR ν fi ds tm le tmps x)→VRs ν H (c.args.toList.map (ev tmps))) →
   ∀ n0 w0 ν w tmps df b cs (all:Array Oper) i q l,fi.ng≤P.globals.size→St P n0 w0 ν s w→yn ν P.globals.size→zfS ν fi ds tm le tmps o→Env ν b cs tm df→all[i]?=some o→Region.wanted o (yielded all tmps)=true →
   ∃ W y w',Out P n0 w0 ν s W U w'∧VR W v y∧Steps P (lone (b.fr tmps df (.inRegion all (i::q)::l)) cs w) (lone (b.fr (wB tmps o.dst y) df (.inRegion all q::l)) cs w'):=by
  intro H v U n J n0 w0 ν w tmps df b cs all i q l L Y O B z F m
  exact zrw n Y O (J ν tmps (O.le L) (fun x M=>B x (zew C M))) F m u (fun w=>zh6 C X tmps w)
 cases M:zm3 f pc.ext with
 | succ e =>
  have e:(op pc fi ds o).run r tm le s k=(zc3 fi ds c.args.toList).run tm le fun H=>zlq e H s k:=by simp only [op,C,X,M]
  rw [e] at G ⊢
  obtain ⟨H,I,J⟩:=zay fi ds c.args.toList tm le _ G
  rw [←I] at G ⊢
  obtain ⟨v,Q,K⟩:=zAM (P:=P) G
  refine ⟨v,s,Q,fun n0 w0 ν w tmps df b cs all i q l L Y O B z F m=>?_⟩
  obtain ⟨y,d,t⟩:=K ν ⟨c.args.toList.map (ev tmps)⟩ (J ν tmps (O.le L) (fun x M=>B x (zew C M)))
  obtain ⟨g,j,A⟩:=Z.ext f _ M ⟨c.args.toList.map (ev tmps)⟩ w
  refine ⟨ν,y,w,Out.refl Y,d,.one (zbQ F m (.inr u) (.inl ?_))⟩
  rw [zh6 C X,A,t g j w]
  rfl
 | zero =>
  have e:(op pc fi ds o).run r tm le s k=(zc3 fi ds c.args.toList).run tm le fun H=>zdA r f H s k:=by simp only [op,C,X,zE,M]
  rw [e] at G ⊢
  obtain ⟨H,I,J⟩:=zay fi ds c.args.toList tm le _ G
  rw [←I] at G ⊢
  obtain ⟨v,U,Q,K⟩:=zmS G
  exact ⟨v,U,K,fin H v U (N.call f H s v U Q) J⟩
section moves
variable {b:Base} {tm:Array Value} {df:List Deferred} {k:List Item} {cs:List Frame} {w w':World} {c:Frame}
variable {l:Nat}
theorem zwX (G:b.ro=some l) (h:(Instr.beginRound l).run P w=.ok () w'):step P (lone (b.fr tm df (.beginRound::k)) cs w)=.next (lone (b.fr tm df k) cs w') :=
 step_lone_go (by simp [stepG,stepG.exec,stepG.apply,Base.fr,G,h,Frame.finish])
variable {v:Value}
theorem zu4 (G:b.ro=some l) (F:b.kind=.normal) (h:(Instr.endRound l none).run P w=.ok v w'):step P (lone (b.fr tm df []) (c::cs) w)=.next (lone (c.finish v) cs w') :=
 step_lone_go (by simp [stepG,stepG.exec,Base.fr,G,F,h,doReturn])
theorem zuY (G:b.ro=some l) (F:b.kind=.normal) (h:(Instr.endRound l (some .ret)).run P w=.ok v w'):step P (lone (b.fr tm df (.code .ret::k)) (c::cs) w)=.next (lone (c.finish v) cs w') :=
 step_lone_go (by simp [stepG,stepG.exec,Base.fr,G,F,h,doReturn])
theorem zuR {i:Nat} (G:b.ro=some l) (F:b.kind=.normal) (M:exitTo i k=none) (h:(Instr.endRound l (some (.exit i))).run P w=.ok v w'):step P (lone (b.fr tm df (.code (.exit i)::k)) (c::cs) w)=.next (lone (c.finish v) cs w') :=
 step_lone_go (by simp [stepG,stepG.exec,Base.fr,G,F,h,doReturn,M])
end moves
theorem zbM {w:World} {b:Nat} {l:Loop} (h:w.heap[b]?=some (.loop l)):(Instr.getLoop b).run P w=.ok l w:=by simp [Instr.getLoop,getObj,Sem.run,h]
theorem za7 {w:World} {b:Nat} {l:Loop} (h:w.heap[b]?=some (.loop l)) (o:Obj):(setObj b o).run P w=.ok () { w with heap:=w.heap.setIfInBounds b o }:=by simp [setObj,Sem.run,h]
theorem zga {n0:Nat} {w0 w:World} {ν:Val} {s:S} (Y:St P n0 w0 ν s w) {a:K} {st:Nat} {pend:Option Code} {fi:FI} {tm:T} {ps:List Tmp} {e body:Code} {df:K} (y:Tr.get B.none a s.h=.loop st pend fi tm ps e body df) {b:Nat} (hb:ν.blk a 0=some (b,0)) :
  (∀ v p,ν.blk a v=some p→v=0)∧fi.ng≤P.globals.size∧∃ ls fn tmps d,w.heap[b]?=some (.loop { state:=ls,pending:=pend,fn:=fn,tmps:=tmps,params:=⟨ps⟩,assign:=e,body:=body,defers:=d })∧lst st ls∧FrR ν fi T.get tm tmps∧(∃ f,ν.blk df 0=some (d,f)):=by
 have h:=Y.rows a
 rw [y] at h
 obtain ⟨_,I,J⟩:=h 0 b 0 hb
 exact ⟨fun v p Z=>(h v p.1 p.2 Z).1,I,J⟩
theorem zkq {n0:Nat} {w0 w:World} {ν:Val} {s:S} (Y:St P n0 w0 ν s w) {a:K} {st st':Nat} {pend pend':Option Code} {fi:FI} {tm:T} {ps:List Tmp} {e body:Code} {df:K} (y:Tr.get B.none a s.h=.loop st pend fi tm ps e body df) {b:Nat} (hb:ν.blk a 0=some (b,0))
  {ls ls':LoopState} {fn d:Nat} {tmps:Array Value} (m:w.heap[b]?=some (.loop { state:=ls,pending:=pend,fn:=fn,tmps:=tmps,params:=⟨ps⟩,assign:=e,body:=body,defers:=d })) (f:lst st' ls') :
  St P n0 w0 ν ⟨Tr.set B.none (.loop st' pend' fi tm ps e body df) a s.h,s.nx⟩ { w with heap:=w.heap.setIfInBounds b (.loop { state:=ls',pending:=pend',fn:=fn,tmps:=tmps,params:=⟨ps⟩,assign:=e,body:=body,defers:=d }) }∧zsc ν s ⟨Tr.set B.none (.loop st' pend' fi tm ps e body df) a s.h,s.nx⟩:=by
 obtain ⟨I,J,F,G,tmps0,E,Q,O,g,W⟩:=zga Y y hb
 rw [m] at Q
 simp only [Option.some.injEq,Obj.loop.injEq,Loop.mk.injEq] at Q
 obtain ⟨L,_,M,N,_,_,_,i⟩:=Q
 subst M N i
 refine ⟨zgM Y hb (by rw [y];trivial) (by rw [y];exact fun h=>h) I (fun h=>h) (fun w' X=>?_),zba hb _⟩
 intro v H j A
 have C:=I v _ A
 subst C
 rw [hb] at A
 simp only [Option.some.injEq,Prod.mk.injEq] at A
 rw [←A.1]
 exact ⟨rfl,J,ls',fn,tmps,d,X,f,g,W⟩
theorem zfU {s:S} {l:K} {st:Nat} {pend:Option Code} {c:S→A} (G:¬(zdq s l st pend c).isBad):∃ C g fi tm ps e body df,Tr.get B.none l s.h=.loop C g fi tm ps e body df∧c ⟨Tr.set B.none (.loop st pend fi tm ps e body df) l s.h,s.nx⟩=zdq s l st pend c:=by
 unfold zdq at G ⊢
 rw [qb] at G ⊢
 cases y:Tr.get B.none l s.h with
 | loop C g fi tm ps e body df=>exact ⟨C,g,fi,tm,ps,e,body,df,rfl,by simp only [ym]⟩
 | _=>rw [y] at G;exact absurd trivial G
theorem zvm {s:S} {l:K} {c:S→A} (G:¬(zor s l c).isBad):∃ g fi tm ps e body df,Tr.get B.none l s.h=.loop 0 g fi tm ps e body df∧c ⟨Tr.set B.none (.loop 1 g fi tm ps e body df) l s.h,s.nx⟩=zor s l c:=by
 unfold zor at G ⊢
 rw [qb] at G ⊢
 cases y:Tr.get B.none l s.h with
 | loop C g fi tm ps e body df =>
  rw [y] at G
  cases hz:Nat.beq C 0 with
  | false=>simp only [hz] at G;exact absurd trivial G
  | true =>
   have:=bq hz
   subst this
   exact ⟨g,fi,tm,ps,e,body,df,rfl,by simp only [ym];rfl⟩
 | _=>rw [y] at G;exact absurd trivial G
theorem zib {fi:FI}:∀ {ps:List Tmp} {args:List V} {M:T} {c:T→A},¬(zd8 fi ps args M c).isBad→∃ C,c C=zd8 fi ps args M c∧∀ (ν:Val) (tmps:Array Value) (B:List Value),FrR ν fi T.get M tmps→VRs ν args B →
  ps.length=B.length∧FrR ν fi T.get C ((ps.zip B).foldl (fun (t:Array Value) (p:Tmp × Value)=>t.setIfInBounds p.1 p.2) tmps)
 | [],[],M,c,_=>⟨M,rfl,fun ν tmps B h E=>by simp only [VRs] at E;subst E;exact ⟨rfl,h⟩⟩
 | [],_::_,_,_,G=>absurd trivial G
 | _::_,[],_,_,G=>absurd trivial G
 | p::ps,v::vs,M,c,G=>by
  have e:zd8 fi (p::ps) (v::vs) M c=@Bool.rec (fun _=>A) eA ((puC (qy fi.ns p)).run v M (fun tm=>zd8 fi ps vs tm c)) (zB (zbj (qV fi.ns p)) (Nat.blt p fi.nt)):=rfl
  rw [e] at G ⊢
  cases X:zB (zbj (qV fi.ns p)) (Nat.blt p fi.nt) with
  | false=>rw [X] at G;exact absurd trivial G
  | true =>
   obtain ⟨I,J⟩:=zy X
   have n:qV fi.ns p=false:=by cases h:qV fi.ns p with | false=>rfl | true=>rw [h] at I;cases I
   have O:p<fi.nt:=by simpa [Nat.blt_eq] using J
   simp only [X] at G ⊢
   obtain ⟨_,K,d⟩:=zbn (znt G)
   obtain ⟨a,W,g⟩:=zeC G
   rw [←W] at G ⊢
   rw [d] at g
   obtain ⟨C,j,l⟩:=zib G
   refine ⟨C,j,fun ν tmps B F E=>?_⟩
   obtain ⟨x,r,L,Z,N⟩:=E
   subst L
   have:=l ν (tmps.setIfInBounds p x) r ⟨by simp [F.1],fun t R U=>?_⟩ N
   ·exact ⟨by simp [this.1],by simpa using this.2⟩
   ·rw [zb9 (by rw [F.1];exact O),g]
    by_cases H:t=p
    ·subst H;rw [if_pos rfl,if_pos rfl];exact Z
    ·rw [if_neg H,if_neg (fun e=>H (zgY R n e))]
     exact F.2 t R U
def znl (P:Program):Next→Frame
 | .round l f tmps e L=>Frame.round l f tmps e L .normal
 | .enter f H=>Frame.enter P f H .normal
 | _=>default
def Next.begins:Next→Prop
 | .round ..=>True
 | .enter ..=>True
 | _=>False
def VX (P:Program) (fv:V) (args:List V) (s:S) (v:V) (U:S):Prop:=∀ n0 w0 ν w (y:Value) (p:List Value),St P n0 w0 ν s w→yn ν P.globals.size→VR ν fv y→VRs ν args p →
 ∃ N,Next.begins N∧(∀ C:Sem Deferred→Sem Next,C=(fun D=>do let d ←D;invoke d.target d.args)→(C (Deferred.ofValue y ⟨p⟩)).run P w=.ok N w)∧∀ (c:Frame) (cs:List Frame),∃ W z w',Out P n0 w0 ν s W U w'∧VR W v z∧Steps P (lone (znl P N) (c::cs) w) (lone (c.finish z) cs w')
theorem zwi {l:K} {jump:Option Code} {s:S} {k:V→S→A} (G:¬(zld l jump s k).isBad):∃ C g fi tm ps e body df,Tr.get B.none l s.h=.loop C g fi tm ps e body df∧k (.bool jump.isNone) ⟨Tr.set B.none (.loop (if jump.isNone then 0 else 2) jump fi tm ps e body df) l s.h,s.nx⟩=zld l jump s k:=by
 cases jump with
 | none=>exact zfU G
 | some c=>exact zfU G
theorem znN {n0:Nat} {w0 w:World} {ν:Val} {s:S} (Y:St P n0 w0 ν s w) {a:K} {st:Nat} {pend:Option Code} {fi:FI} {tm:T} {ps:List Tmp} {e body:Code} {df:K} (y:Tr.get B.none a s.h=.loop st pend fi tm ps e body df) {b:Nat} (hb:ν.blk a 0=some (b,0)) (jump:Option Code) :
  ∃ w',(Instr.endRound b jump).run P w=.ok (.bool jump.isNone) w'∧St P n0 w0 ν ⟨Tr.set B.none (.loop (if jump.isNone then 0 else 2) jump fi tm ps e body df) a s.h,s.nx⟩ w'∧zsc ν s ⟨Tr.set B.none (.loop (if jump.isNone then 0 else 2) jump fi tm ps e body df) a s.h,s.nx⟩:=by
 obtain ⟨I,J,ls,fn,tmps,d,Q,O,g,W⟩:=zga Y y hb
 obtain ⟨R,U⟩:=zkq Y y hb (st':=if jump.isNone then 0 else 2) (pend':=jump) (ls':=if jump.isNone then .ready else .done) Q (by cases jump<;>rfl)
 exact ⟨_,by simp [Instr.endRound,zbM Q,za7 Q],R,U⟩
theorem zrd {pc:PC} {r:R} (x:RS P pc r) {l:K} {args:List V} {tm:T} {s:S} {k:V→S→A} (G:¬(zgK r l args tm s k).isBad):∃ v U,k v U=zgK r l args tm s k∧VX P (.ref 3 l) args s v U:=by
 unfold zgK at G ⊢
 rw [qb] at G ⊢
 cases Z:Tr.get B.none l s.h with
 | loop st pend fi bj ps ak body df =>
  rw [Z] at G
  simp only at G ⊢
  cases hz:Nat.beq st 0 with
  | false=>rw [hz] at G;exact absurd trivial G
  | true =>
   have:=bq hz
   subst this
   simp only [hz] at G ⊢
   obtain ⟨aU,I,J⟩:=zib G
   rw [←I] at G ⊢
   obtain ⟨ae,Q,O⟩:=zeC G
   rw [←Q] at G ⊢
   have aD:∀ (ν:Val) (tmps:Array Value),FrR ν fi T.get aU tmps→FrR ν fi T.get ae tmps:=fun ν tmps h=>⟨h.1,fun t z q=>by rw [O,if_neg (by omega)];exact h.2 t z q⟩
   have N:T.get ae 240=.bad:=by rw [O,if_pos rfl]
   -- aA zck, in aA machine
   have zck:∀ n0 w0 ν w (y:Value) (p:List Value),St P n0 w0 ν s w→VR ν (.ref 3 l) y→VRs ν args p→∃ b fn tmps,ν.blk l 0=some (b,0)∧fi.ng≤P.globals.size∧FrR ν fi T.get ae tmps ∧
     (∀ C:Sem Deferred→Sem Next,C=(fun D=>do let d ←D;invoke d.target d.args)→(C (Deferred.ofValue y ⟨p⟩)).run P w=.ok (.round b fn tmps ak body) w):=by
    intro n0 w0 ν w y p Y F E
    obtain ⟨b,hb,e⟩:=F
    subst e
    obtain ⟨z,q,ls,fn,tmps,d,g3,g4,g5,g6⟩:=zga Y Z hb
    obtain ⟨p1,p2⟩:=J ν tmps p g5 E
    refine ⟨b,fn,_,hb,q,aD _ _ p2,fun C hC=>?_⟩
    subst hC
    have hsz:¬(p.length≠ps.length):=by simp [p1]
    simp [Deferred.ofValue,invoke,Instr.yield,zbM g3,p1]
   ·have aE:¬(r.code fi ak ae s).isBad:=by
     intro h
     cases X:r.code fi ak ae s with
     | bad m=>rw [X] at G;exact G trivial
     | _=>rw [X] at h;exact h
    have aF:=x.code fi ak ae s aE
    cases aG:r.code fi ak ae s with
    | nrm aq s1 =>
     rw [aG] at G aF
     simp only at G ⊢
     obtain ⟨p0,aV,aH,aJ,ay,ar,aW,aK,g⟩:=zvm G
     rw [←g] at G ⊢
     generalize aL:(⟨Tr.set B.none (.loop 1 p0 aV aH aJ ay ar aW) l s1.h,s1.nx⟩:S)=W at G ⊢
     have aM:¬(r.code fi body aq W).isBad:=by
      intro h
      cases X:r.code fi body aq W with
      | bad m=>rw [X] at G;exact G trivial
      | _=>rw [X] at h;exact h
     have aX:=x.code fi body aq W aM
     -- up to aA body
     have zhH:∀ n0 w0 ν w (y:Value) (p:List Value) (c:Frame) (cs:List Frame) (b fn:Nat) (tmps:Array Value),fi.ng≤P.globals.size→St P n0 w0 ν s w→yn ν P.globals.size→ν.blk l 0=some (b,0)→FrR ν fi T.get ae tmps →
       ∃ ah w2 aa ai,Out P n0 w0 ν s ah W w2∧jq P n0 w0 fi ah W ⟨fn,.normal,some b⟩ (c::cs) (lone ((⟨fn,.normal,some b⟩:Base).fr aa ai [.code body]) (c::cs) w2) [] (r.code fi body aq W) ∧
        Steps P (lone (Frame.round b fn tmps ak body .normal) (c::cs) w) (lone ((⟨fn,.normal,some b⟩:Base).fr aa ai [.code body]) (c::cs) w2):=by
      intro n0 w0 ν w y p c cs b fn tmps aN Y a hb H
      have aO:Env ν ⟨fn,.normal,some b⟩ (c::cs) ae []:=⟨.inl rfl,by rw [N];rfl,fun t l f=>by rw [N] at f;cases f⟩
      obtain ⟨ax,w1,au,az,o1,f1,L,aY⟩:=aF n0 w0 ν w tmps [] ⟨fn,.normal,some b⟩ (c::cs) [.beginRound,.code body] aN Y a H aO
      have aP:=(o1.le _ _ _ hb).1
      obtain ⟨j,o,ls,aZ,n,d,q3,q4,q5,q6⟩:=zga o1.st aK aP
      obtain ⟨z,q⟩:=zkq o1.st aK aP (st':=1) (pend':=p0) (ls':=.busy) q3 rfl
      rw [aL] at z q
      have ba:ls=.ready:=q4
      subst ba
      have aQ:(Instr.beginRound b).run P w1=.ok () { w1 with heap:=w1.heap.setIfInBounds b (.loop { state:=.busy,pending:=p0,fn:=aZ,tmps:=n,params:=⟨aJ⟩,assign:=ay,body:=ar,defers:=d }) }:=by
       simp [Instr.beginRound,zbM q3,za7 q3]
      have o2:Out P n0 w0 ax s1 ax W _:=Out.write z (by rw [←aL]) q
      refine ⟨ax,_,au,az,o1.trans o2,aX n0 w0 ax _ au az ⟨fn,.normal,some b⟩ (c::cs) [] aN z (a.mono o1.le) f1 L,?_⟩
      exact aY.trans (.one (zwX rfl aQ))
     -- aA ends
     have fin:∀ (jump:Option Code) (al:T) (s3:S),¬(zld l jump s3 k).isBad →
       (∀ n0 w0 ah w2 aa ai fn b c cs,jq P n0 w0 fi ah W ⟨fn,.normal,some b⟩ (c::cs) (lone ((⟨fn,.normal,some b⟩:Base).fr aa ai [.code body]) (c::cs) w2) [] (r.code fi body aq W) →
        ∃ aj w3 m,Out P n0 w0 ah W aj s3 w3∧Steps P (lone ((⟨fn,.normal,some b⟩:Base).fr aa ai [.code body]) (c::cs) w2) m∧∀ w4,(Instr.endRound b jump).run P w3=.ok (.bool jump.isNone) w4→step P m=.next (lone (c.finish (.bool jump.isNone)) cs w4)) →
       ∃ v U,k v U=zld l jump s3 k∧VX P (.ref 3 l) args s v U:=by
      intro jump al s3 aR ad
      obtain ⟨bk,p3,bl,bm,bn,bh,bb,aB,bc,u⟩:=zwi aR
      refine ⟨_,_,u,fun n0 w0 ν w y p Y a F E=>?_⟩
      obtain ⟨b,fn,tmps,hb,aS,H,aT⟩:=zck n0 w0 ν w y p Y F E
      refine ⟨.round b fn tmps ak body,trivial,aT,fun c cs=>?_⟩
      obtain ⟨ah,w2,aa,ai,o2,a2,bd⟩:=zhH n0 w0 ν w y p c cs b fn tmps aS Y a hb H
      obtain ⟨aj,w3,m,o3,an,aC⟩:=ad n0 w0 ah w2 aa ai fn b c cs a2
      have bg:=(o3.le _ _ _ (o2.le _ _ _ hb).1).1
      obtain ⟨w4,z,q,g3⟩:=znN o3.st bc bg jump
      exact ⟨aj,.bool jump.isNone,w4,(o2.trans o3).trans (Out.write q rfl g3),rfl,bd.trans (an.trans (.one (aC w4 z)))⟩
     cases ao:r.code fi body aq W with
     | nrm al s3 =>
      rw [ao] at G
      refine fin none al s3 G (fun n0 w0 ah w2 aa ai fn b c cs ad=>?_)
      rw [ao] at ad
      obtain ⟨aj,w3,av,aB,o3,f3,e3,an⟩:=ad
      exact ⟨aj,w3,_,o3,an,fun w4 aw=>zu4 rfl rfl aw⟩
     | ret al s3 =>
      rw [ao] at G
      refine fin (some .ret) al s3 G (fun n0 w0 ah w2 aa ai fn b c cs ad=>?_)
      rw [ao] at ad
      obtain ⟨aj,w3,av,aB,todo,o3,f3,e3,an⟩:=ad
      exact ⟨aj,w3,_,o3,an,fun w4 aw=>zuY rfl rfl aw⟩
     | ext i al s3 =>
      rw [ao] at G
      refine fin (some (.exit i)) al s3 G (fun n0 w0 ah w2 aa ai fn b c cs ad=>?_)
      rw [ao] at ad
      obtain ⟨aj,w3,av,aB,todo,o3,f3,e3,M,an⟩:=ad
      exact ⟨aj,w3,_,o3,an,fun w4 aw=>zuR rfl rfl (by rw [M];rfl) aw⟩
     | _=>rw [ao] at G;exact absurd trivial G
    | _=>rw [aG] at G;exact absurd trivial G
 | _=>rw [Z] at G;exact absurd trivial G
theorem zq0 {pc:PC} {r:R} (N:RS P pc r) {fv:V} {args:List V} {tm:T} {s:S} {k:V→S→A} (G:¬(jv r fv args tm s k).isBad):∃ v U,k v U=jv r fv args tm s k∧VX P fv args s v U:=by
 cases fv with
 | fn g first cap =>
  cases g with
  | func g =>
   have e:jv r (.fn (.func g) first cap) args tm s k=zdA r g (first++(args++cap)) s k:=by simp only [jv,wr]
   rw [e] at G ⊢
   obtain ⟨v,U,I,J⟩:=zmS G
   refine ⟨v,U,J,fun n0 w0 ν w y p Y O F E=>?_⟩
   obtain ⟨h,m,d,f,i⟩:=F
   subst i
   obtain ⟨j,a⟩:=N.call _ _ _ _ _ I n0 w0 ν w (h++(p++m)) Y O (d.append (E.append f))
   refine ⟨.enter g ⟨h++(p++m)⟩,trivial,fun C n=>?_,fun c cs=>?_⟩
   ·subst n
    have ea:((⟨h⟩:Array Value)++⟨p⟩++⟨m⟩:Array Value)=⟨h++(p++m)⟩:=by apply Array.ext';simp
    simp only [Deferred.ofValue,Sem.run_bind,Sem.run_pure,Result.andThen_ok,invoke]
    rw [ea];exact j
   ·obtain ⟨W,z,w',fr,Q,K,o,Z,M,B,X,fn,q,L⟩:=a .normal (c::cs) (.inl rfl)
    exact ⟨W,z,w',Q,K,o.trans (.one (step_leave_returned ⟨M,B,Z,fn,by rw [X];exact q,L⟩))⟩
  | _=>exact absurd trivial G
 | ref t l =>
  have e:jv r (.ref t l) args tm s k=@Bool.rec (fun _=>A) eA (zgK r l args tm s k) (Nat.beq t 3):=rfl
  rw [e] at G ⊢
  cases H:Nat.beq t 3 with
  | false=>rw [H] at G;exact absurd trivial G
  | true =>
   have:=bq H
   subst this
   rw [H] at G
   exact zrd N G
 | _=>exact absurd trivial G
theorem zAz {pc:PC} {r:R} (n:RS P pc r) {fi:FI} {ds:List Nat} {o:Oper} {c:Call} {x:Operand} (C:o.op=.call c) (X:c.callee=.value x) (M:∀ f,x≠.func f):OpM P pc r fi ds o:=by
 intro tm le s k G
 have u:z7 o=false:=by simp [z7,C]
 have e:(op pc fi ds o).run r tm le s k=(opd fi ds x).run tm le fun fv=>(zc3 fi ds c.args.toList).run tm le fun H=>jv r fv H tm s k:=by
  simp only [op,C,X]
 rw [e] at G ⊢
 obtain ⟨fv,I,J⟩:=qf fi ds x tm le _ G
 rw [←I] at G ⊢
 obtain ⟨H,Q,K⟩:=zay fi ds c.args.toList tm le _ G
 rw [←Q] at G ⊢
 obtain ⟨v,U,g,Z⟩:=zq0 n G
 refine ⟨v,U,g,fun n0 w0 ν w tmps df b cs all i ad kk j Y E B O aa m=>?_⟩
 have ae:x∈o.op.operands.toList:=by simp [C,Op.operands,Call.operands,X]
 obtain ⟨N,d,q,A⟩:=Z n0 w0 ν w _ _ Y E (J ν tmps (E.le j) (B x ae)) (K ν tmps (E.le j) (fun y F=>B y (zew C F)))
 obtain ⟨W,z,w',p,h,g6⟩:=A (b.fr tmps df (.inRegion all (i::ad)::kk)) cs
 rw [zaQ,aa] at g6
 have L:(execOp (ev tmps) o).run P w=.ok N w:=by
  have:=q _ rfl
  rw [←this]
  have ea:(c.args.map (ev tmps):Array Value)=⟨c.args.toList.map (ev tmps)⟩:=by apply Array.ext';simp
  simp only [execOp,C,resolve,X,ea]
 refine ⟨W,z,w',p,h,?_⟩
 cases N with
 | enter f a=>exact .head (zif aa m (.inr u) L) g6
 | round l f t a bd=>exact .head (zqm aa m (.inr u) L) g6
 | _=>exact d.elim
theorem zls {b:Base} {tm:Array Value} {df:List Deferred} {k:List Item} {cs:List Frame} {w:World} {ops:Array Oper} {i:Nat} {rest:List Nat} {o:Oper} (C:ops[i]?=some o) (m:Region.wanted o (yielded ops tm)=true) (G:b.ro=none) (X:ztF b.kind cs)
  (h:(execOp (ev tm) o).run P w=.ok .recover w):step P (lone (b.fr tm df (.inRegion ops (i::rest)::k)) cs w)=.next (lone (b.fr (wB tm o.dst .nilIface) df (.inRegion ops rest::k)) cs w):=by
 have B:=zaQ b tm df ops i rest k .nilIface
 rw [C] at B
 simp only [Option.bind_some] at B
 rw [←B]
 have E:tryRecover (b.fr tm df (.inRegion ops (i::rest)::k)) cs=none:=by
  rcases X with X | ⟨X,c,r,rfl,Y⟩
  ·simp [tryRecover,Base.fr,X]
  ·simp [tryRecover,Base.fr,X,Y]
 have A:(b.fr tm df (.inRegion ops (i::rest)::k)).roundOf=none:=G
 exact step_lone_go (by rw [zhc C m (.inl G)];simp [stepG.apply,h,E,A])
theorem zo5 {pc:PC} {r:R} {fi:FI} {ds:List Nat} {o:Oper} {c:Call} (C:o.op=.call c) (X:c.callee=.builtin .recover):OpM P pc r fi ds o:=by
 intro tm le s k G
 have e:(op pc fi ds o).run r tm le s k=(geC 240).run tm fun v=>zoU v s k:=by simp only [op,C,X]
 rw [e] at G ⊢
 have I:=zd2 G
 rw [←I] at G ⊢
 cases E:T.get tm 240 with
 | ls t l =>
  refine ⟨.nil 4,s,rfl,fun n0 w0 ν w tmps df b cs all i q M j Y O B z F m=>?_⟩
  refine ⟨ν,.nilIface,w,Out.refl Y,rfl,.one (zls F m (z.ro _ _ E) z.calm ?_)⟩
  simp [execOp,C,resolve,X,invoke,builtin]
 | _=>rw [E] at G;exact absurd trivial G
theorem zzx {pc:PC} (Z:PcOk P pc) {fi:FI} {ds:List Nat} {o:Oper} (X:∀ c,o.op≠.call c) (B:∀ c,o.op≠.defer c):OpS P pc fi ds o:=by
 cases C:o.op with
 | move x=>exact (zeY (.inl C)).read.op
 | assign x=>exact (zeY (.inr C)).read.op
 | pick c a b=>exact (zlX C).read.op
 | alloc el=>exact (zh8 Z C).op
 | box el x=>exact (zmp C).op
 | build t ps=>exact (zj7 Z C).read.op
 | buildSlice t n ps=>exact (zb5 Z C).op
 | insert t m k x=>exact zm7 Z (.inr C)
 | load t x=>exact (zmq Z C).op
 | store t x y=>exact zw6 Z C
 | nilCheck x=>exact (zfr C).read.op
 | binOp b t x y q=>exact (zp6 Z C).op
 | unOp u t x=>exact (zlx C).read.op
 | convert a b x=>exact (zoa Z C).op
 | makeFunc f a b=>exact (zft C).read.op
 | typeAssert x H t ok=>exact (ziF Z C).read.op
 | range t x=>exact zyP Z C
 | next x b=>exact zAu C
 | makeMap t r=>exact (zfp Z C).op
 | makeSlice t x y=>exact (zdr Z C).op
 | slice t x a b c=>exact (zk4 Z C).op
 | fieldAddr t x i=>exact (zel Z C).read.op
 | field t x i=>exact (zjI Z C).read.op
 | indexAddr t x i=>exact (zec Z C).read.op
 | index t x i=>exact (zjJ Z C).read.op
 | lookup t x i b=>exact (zit Z C).op
 | mapUpdate t m k x=>exact zm7 Z (.inl C)
 | extract x i=>exact (zgi C).read.op
 | call c=>exact absurd C (X c)
 | defer c=>exact absurd C (B c)
 | _=>exact OpS.bad (m:=0) (by simp only [op,C])
theorem zi3 {pc:PC} (Z:PcOk P pc) {r:R} (N:RS P pc r) {fi:FI} {ds:List Nat} {o:Oper} (u:z7 o=false):OpM P pc r fi ds o:=by
 by_cases A:∃ c,o.op=.call c
 ·obtain ⟨c,C⟩:=A
  cases X:c.callee with
  | value x =>
   cases x with
   | func f=>exact zrk Z N C X
   | _=>exact zAz N C X (by simp)
  | invoke x m=>exact (OpS.bad (m:=0) (by simp only [op,C,X])).m u
  | builtin b =>
   by_cases hb:b=.recover
   ·subst hb;exact zo5 C X
   ·exact (zsJ C X hb (zCg Z b _)).m u
 ·refine (zzx Z (fun c h=>A ⟨c,h⟩) (fun c h=>?_)).m u
  simp [z7,h] at u
theorem zpd {ν:Val} {t:Nat} {l:List V} {tmps:Array Value} {d:Nat} (h:VR ν (.ls t l) (tmps.getD d Go.undef)) (arr:Array Oper) (j:Nat) (G:(arr[j]?).bind (·.dst)=some d):yielded arr tmps j=none:=by
 obtain ⟨c,_,J⟩:=h
 unfold yielded
 rw [G]
 simp only [Option.bind_some]
 simp only [Array.getD_eq_getD_getElem?] at J
 cases u:tmps[d]? with
 | none=>rfl
 | some x =>
  rw [u] at J
  simp only [Option.getD_some] at J
  rcases t with _ | _ | t
  ·rw [J.1]
  ·rw [J]
  ·exact J.elim
theorem zkm {ν:Val} {v:Bool} {tmps:Array Value} {d:Nat} (h:VR ν (.bool v) (tmps.getD d Go.undef)) (arr:Array Oper) (j:Nat) (G:(arr[j]?).bind (·.dst)=some d):yielded arr tmps j=some v:=by
 simp only [VR,Array.getD_eq_getD_getElem?] at h
 unfold yielded
 rw [G]
 simp only [Option.bind_some]
 cases u:tmps[d]? with
 | none=>rw [u] at h;cases h
 | some x=>rw [u] at h;simp only [Option.getD_some] at h;rw [h]
theorem zb7 {fi:FI} {ds:List Nat} {all:Array Oper} {o:Oper} {e g:LoC} {r:R} {tm:T} {le:List V} {s:S} (G:¬((qZ fi ds all.toList o e g).run r tm le s).isBad) :
  ∃ X:Bool,(if X then e.run r tm le s else g.run r tm le s)=(qZ fi ds all.toList o e g).run r tm le s∧∀ (ν:Val) (tmps:Array Value),yn ν fi.ng→(∀ j w d,o.guard=some (j,w)→(all[j]?).bind (·.dst)=some d→OdR ν fi ds tm le tmps (.tmp d))→Region.wanted o (yielded all tmps)=X:=by
 unfold qZ at G ⊢
 cases Q:o.guard with
 | none=>exact ⟨true,rfl,fun ν tmps _ _=>by simp [Region.wanted,Q]⟩
 | some p =>
  obtain ⟨j,want⟩:=p
  rw [Q] at G
  have H:all.toList[j]?=all[j]?:=kam
  simp only [H] at G ⊢
  cases u:(all[j]?).bind (·.dst) with
  | none=>rw [u] at G;exact absurd trivial G
  | some d =>
   rw [u] at G
   simp only at G ⊢
   have key:∀ {K:V→A},¬((opd fi ds (.tmp d)).run tm le K).isBad→∃ v,K v=(opd fi ds (.tmp d)).run tm le K∧∀ (ν:Val) (tmps:Array Value),yn ν fi.ng→(∀ W w x,some (j,want)=some (W,w)→(all[W]?).bind (·.dst)=some x→OdR ν fi ds tm le tmps (.tmp x))→VR ν v (tmps.getD d Go.undef):=by
    intro K G
    obtain ⟨v,I,J⟩:=qf fi ds (.tmp d) tm le K G
    exact ⟨v,I,fun ν tmps O B=>J ν tmps O (B j want d rfl u)⟩
   cases want with
   | true =>
    have L:(match opd fi ds (.tmp d),true with | ⟨f⟩,true=>(⟨fun r tm le s=>f tm le fun v=>zfC v (fun _=>e.run r tm le s) (fun _=>g.run r tm le s)⟩:LoC) | ⟨f⟩,false=>⟨fun r tm le s=>f tm le fun v=>zc9 v (fun _=>e.run r tm le s) (fun _=>g.run r tm le s)⟩).run r tm le s=(opd fi ds (.tmp d)).run tm le fun v=>zfC v (fun _=>e.run r tm le s) (fun _=>g.run r tm le s):=rfl
    rw [L] at G ⊢
    obtain ⟨v,I,J⟩:=key G
    rw [←I] at G
    cases v with
    | bool N =>
     refine ⟨N,by rw [←I];cases N<;>rfl,fun ν tmps O B=>?_⟩
     have:=zkm (J ν tmps O B) all j u
     simp only [Region.wanted,Q,this]
     cases N<;>rfl
    | ls t l =>
     refine ⟨false,by rw [←I];rfl,fun ν tmps O B=>?_⟩
     have:=zpd (J ν tmps O B) all j u
     simp only [Region.wanted,Q,this]
     rfl
    | _=>exact absurd trivial G
   | false =>
    have L:(match opd fi ds (.tmp d),false with | ⟨f⟩,true=>(⟨fun r tm le s=>f tm le fun v=>zfC v (fun _=>e.run r tm le s) (fun _=>g.run r tm le s)⟩:LoC) | ⟨f⟩,false=>⟨fun r tm le s=>f tm le fun v=>zc9 v (fun _=>e.run r tm le s) (fun _=>g.run r tm le s)⟩).run r tm le s=(opd fi ds (.tmp d)).run tm le fun v=>zc9 v (fun _=>e.run r tm le s) (fun _=>g.run r tm le s):=rfl
    rw [L] at G ⊢
    obtain ⟨v,I,J⟩:=key G
    rw [←I] at G
    cases v with
    | bool N =>
     refine ⟨!N,by rw [←I];cases N<;>rfl,fun ν tmps O B=>?_⟩
     have:=zkm (J ν tmps O B) all j u
     simp only [Region.wanted,Q,this]
     cases N<;>rfl
    | ls t l =>
     refine ⟨false,by rw [←I];rfl,fun ν tmps O B=>?_⟩
     have:=zpd (J ν tmps O B) all j u
     simp only [Region.wanted,Q,this]
     rfl
    | _=>exact absurd trivial G
theorem zyr {pc:PC} {r:R} {fi:FI} {ds:List Nat} {o:Oper} (u:z7 o=true) {tm:T} {le:List V} {s:S} {k:V→S→A} (G:¬((op pc fi ds o).run r tm le s k).isBad) :
  ∃ v,k v s=(op pc fi ds o).run r tm le s k∧∀ (ν:Val) (tmps:Array Value),yn ν fi.ng→zfS ν fi ds tm le tmps o→∃ d,DfE ν v d∧∀ w,(execOp (ev tmps) o).run P w=.ok (.defer d) w:=by
 cases C:o.op with
 | defer c =>
  cases X:c.callee with
  | value x =>
   have e:(op pc fi ds o).run r tm le s k=(opd fi ds x).run tm le fun fv=>(zc3 fi ds c.args.toList).run tm le fun H=>zw1 fv H s k:=by simp only [op,C,X]
   rw [e] at G ⊢
   obtain ⟨fv,I,J⟩:=qf fi ds x tm le _ G
   rw [←I] at G ⊢
   obtain ⟨H,Q,K⟩:=zay fi ds c.args.toList tm le _ G
   rw [←Q] at G ⊢
   have F:x∈o.op.operands.toList:=by simp [C,Op.operands,Call.operands,X]
   have L:∀ y∈c.args.toList,y∈o.op.operands.toList:=by
    intro y Y
    simp only [C,Op.operands,Call.operands,X]
    simp;right;simpa using Y
   cases fv with
   | fn f first cap =>
    cases f with
    | func g =>
     refine ⟨_,rfl,fun ν tmps O B=>?_⟩
     obtain ⟨h,m,z,U,i⟩:=J ν tmps O (B x F)
     have E:=K ν tmps O (fun y Y=>B y (L y Y))
     refine ⟨_,⟨h,m,_,z,U,E,rfl⟩,fun w=>?_⟩
     have ea:(c.args.map (ev tmps):Array Value)=⟨c.args.toList.map (ev tmps)⟩:=by apply Array.ext';simp
     simp only [execOp,C,resolve,X,i,Deferred.ofValue,Sem.run_bind,Sem.run_pure,Result.andThen_ok,ea]
     congr 3
     apply Array.ext';simp
    | _=>exact absurd trivial G
   | _=>exact absurd trivial G
  | _ =>
   have e:op pc fi ds o=zO 0:=by simp only [op,C,X]
   rw [e] at G;exact absurd trivial G
 | _=>simp [z7,C] at u
theorem zbk {fi:FI} {o:Oper} {f:OpC} {g:LoC} (u:z7 o=false) (r:R) (tm:T) (le:List V) (s:S):(zj9 fi o f g).run r tm le s=f.run r tm le s fun v s=>(dsC fi o).run v tm le fun tm le=>g.run r tm le s:=by
 unfold zj9
 rw [u]
theorem zbh {fi:FI} {o:Oper} {f:OpC} {g:LoC} (u:z7 o=true) (r:R) (tm:T) (le:List V) (s:S):(zj9 fi o f g).run r tm le s=f.run r tm le s fun v s=>(geC 240).run tm fun l=>(@V.rec mA mU eA eC eC eB eB eD eF eF eB eC
  (fun _ l _=>(puC 240).run (.ls 1 (v::l)) tm (fun tm=>(dsC fi o).run undef tm le fun tm le=>g.run r tm le s)) eF eD () tE l:A):=by
 unfold zj9
 rw [u]
theorem zxl (pc:PC) (fi:FI) (all:List Oper) (o:Oper) (os:List Oper) (ds:List Nat):ops pc fi all (o::os) ds=qZ fi ds all o (zj9 fi o (op pc fi ds o) (ops pc fi all os (push o ds))) (zhQ fi o (ops pc fi all os (push o ds))):=rfl
theorem zcC {fi:FI} {o:Oper} {g:LoC} (r:R) (tm:T) (le:List V) (s:S):(zhQ fi o g).run r tm le s=(dsC fi o).run undef tm le fun tm le=>g.run r tm le s:=rfl
def zEu (P:Program) (fi:FI) (s:S) (tmps:Array Value) (df:List Deferred) (ν:Val) (w:World) (n0:Nat) (w0:World) (b:Base) (cs:List Frame) (kk:List Item) (all:Array Oper) (l:List Nat) (res:A):Prop :=
 jq P n0 w0 fi ν s b cs (lone (b.fr tmps df (.inRegion all l::kk)) cs w) kk res
theorem jq.trans {n0:Nat} {w0:World} {fi:FI} {ν B:Val} {s s1:S} {w1:World} {b:Base} {cs:List Frame} {m a:Machine} {kk:List Item} {res:A} (C:Out P n0 w0 ν s B s1 w1) (t:Steps P m a) (h:jq P n0 w0 fi B s1 b cs a kk res):jq P n0 w0 fi ν s b cs m kk res:=by
 induction res with
 | nrm F U =>
  obtain ⟨W,w',n,L,I,J,Q,K⟩:=h
  exact ⟨W,w',n,L,C.trans I,J,Q,t.trans K⟩
 | ext i F U =>
  obtain ⟨W,w',n,L,todo,I,J,Q,K,d⟩:=h
  exact ⟨W,w',n,L,todo,C.trans I,J,Q,K,t.trans d⟩
 | ret F U =>
  obtain ⟨W,w',n,L,todo,I,J,Q,K⟩:=h
  exact ⟨W,w',n,L,todo,C.trans I,J,Q,t.trans K⟩
 | _=>exact h
theorem jq.steps {n0:Nat} {w0:World} {fi:FI} {ν:Val} {s:S} {b:Base} {cs:List Frame} {m a:Machine} {kk:List Item} {res:A} (C:Steps P m a) (h:jq P n0 w0 fi ν s b cs a kk res):jq P n0 w0 fi ν s b cs m kk res:=by
 induction res with
 | nrm F U =>
  obtain ⟨W,w',n,L,I,J,Q,K⟩:=h
  exact ⟨W,w',n,L,I,J,Q,C.trans K⟩
 | ext i F U =>
  obtain ⟨W,w',n,L,todo,I,J,Q,K,d⟩:=h
  exact ⟨W,w',n,L,todo,I,J,Q,K,C.trans d⟩
 | ret F U =>
  obtain ⟨W,w',n,L,todo,I,J,Q,K⟩:=h
  exact ⟨W,w',n,L,todo,I,J,Q,C.trans K⟩
 | _=>exact h
theorem znK {pc:PC} (Z:PcOk P pc) {r:R} (x:RS P pc r) (fi:FI) (all:Array Oper):∀ (os:List Oper) (i:Nat) (ds:List Nat) (tm:T) (le:List V) (s:S),all.toList.drop i=os→¬((ops pc fi all.toList os ds).run r tm le s).isBad →
  ∀ n0 w0 ν w tmps df b cs kk,fi.ng≤P.globals.size→St P n0 w0 ν s w→yn ν P.globals.size→FrX ν fi ds tm le tmps→Env ν b cs tm df →
   zEu P fi s tmps df ν w n0 w0 b cs kk all (List.range' i os.length) ((ops pc fi all.toList os ds).run r tm le s)
 | [],i,ds,tm,le,s,_,_=>fun n0 w0 ν w tmps df b cs kk L Y E B O=>⟨ν,w,tmps,df,Out.refl Y,B.fr,O,.one zfo⟩
 | o::os,i,ds,tm,le,s,ad,G=>by
  have C:all[i]?=some o:=by
   have:(all.toList.drop i)[0]?=some o:=by rw [ad];rfl
   rw [List.getElem?_drop] at this
   simpa using this
  have aa:all.toList.drop (i+1)=os:=by
   have A:(all.toList.drop i).drop 1=os:=by rw [ad];rfl
   rw [List.drop_drop] at A
   exact A
  have ae:List.range' i (o::os).length=i::List.range' (i+1) os.length:=rfl
  rw [zxl] at G ⊢
  rw [ae]
  obtain ⟨X,hX,h⟩:=zb7 G
  rw [←hX] at G ⊢
  cases X with
  | false =>
   simp only [Bool.false_eq_true,if_false,zcC] at G ⊢
   obtain ⟨H,n,I,J,Q⟩:=zjU G
   rw [←I] at G ⊢
   have g:=znK Z x fi all os (i+1) (push o ds) H n s aa G
   intro n0 w0 ν w tmps df b cs kk L Y E B O
   have F:=h ν tmps (E.le L) (fun j wt d _ _=>B.odr _)
   have W:=g n0 w0 ν w (wB tmps o.dst Go.undef) df b cs kk L Y E (Q ν tmps ds Go.undef B VR.undef) (O.same J)
   refine jq.steps (.one ?_) W
   have:=zfN (P:=P) (b:=b) (tm:=tmps) (df:=df) (k:=kk) (cs:=cs) (w:=w) (ops:=all) (i:=i) (rest:=List.range' (i+1) os.length) (by simp [C,F])
   rw [C] at this
   exact this
  | true =>
   simp only [if_true] at G ⊢
   cases u:z7 o with
   | false =>
    rw [zbk u] at G ⊢
    obtain ⟨v,s1,I,J⟩:=zi3 Z x u tm le s _ G
    rw [←I] at G ⊢
    intro n0 w0 ν w tmps df b cs kk L Y E B O
    have F:=h ν tmps (E.le L) (fun j wt d _ _=>B.odr _)
    obtain ⟨ai,y,q,z,U,e⟩:=J n0 w0 ν w tmps df b cs all i (List.range' (i+1) os.length) kk L Y E (B.ops o) O C F
    obtain ⟨H,n,Q,K,g⟩:=zjU G
    rw [←Q] at G ⊢
    have M:=znK Z x fi all os (i+1) (push o ds) H n s1 aa G
    exact (M n0 w0 ai q (wB tmps o.dst y) df b cs kk L z.st (E.mono z.le) (g ai tmps ds y (B.mono z.le) U) ((O.mono z.le).same K)).trans z e
   | true =>
    rw [zbh u] at G ⊢
    obtain ⟨v,I,J⟩:=zyr (P:=P) u G
    rw [←I] at G ⊢
    have N:=zd2 G
    rw [←N] at G ⊢
    cases f:T.get tm 240 with
    | ls t l =>
     rw [f] at G
     simp only at G ⊢
     obtain ⟨tm0,Q,K⟩:=zeC G
     rw [←Q] at G ⊢
     obtain ⟨H,n,g,W,M⟩:=zjU G
     rw [←g] at G ⊢
     have A:=znK Z x fi all os (i+1) (push o ds) H n s aa G
     intro n0 w0 ν w tmps df b cs kk L Y E B O
     have F:=h ν tmps (E.le L) (fun j wt d _ _=>B.odr _)
     obtain ⟨d,z,U⟩:=J ν tmps (E.le L) (B.ops o)
     have al:FrX ν fi ds tm0 le tmps:=⟨B.sz,fun t m p=>by rw [K,if_neg (by omega)];exact B.a t m p,B.b⟩
     have aj:=O.ro t l f
     have ah:T.get H 240=.ls 1 (v::l):=by rw [W,K,if_pos rfl]
     have ak:=O.df
     rw [f] at ak
     have an:Env ν b cs H (d::df):=⟨O.calm,by rw [ah];exact ⟨d,df,rfl,z,ak⟩,fun _ _ _=>aj⟩
     exact jq.steps (.one (zqn C F aj (U w))) (A n0 w0 ν w (wB tmps o.dst Go.undef) (d::df) b cs kk L Y E (M ν tmps ds Go.undef al VR.undef) an)
    | _=>rw [f] at G;exact absurd trivial G
theorem zAt (a b i:Nat):bit (Nat.lor a b) i=(bit a i || bit b i):=by
 have h:∀ m,bit m i=m.testBit i:=by
  intro m
  unfold bit
  rw [Nat.testBit,Nat.shiftRight_eq_div_pow,Nat.one_and_eq_mod_two]
  have:Nat.mod (Nat.shiftRight m i) 2=m / 2 ^ i % 2:=by
   show (m >>> i) % 2=_
   rw [Nat.shiftRight_eq_div_pow]
  rw [this]
  have J:m / 2 ^ i % 2<2:=Nat.mod_lt _ (by omega)
  rcases Nat.eq_zero_or_pos (m / 2 ^ i % 2) with Q | Q
  ·rw [Q];rfl
  ·have:m / 2 ^ i % 2=1:=by omega
   rw [this];rfl
 rw [h,h,h]
 exact Nat.testBit_or a b i
theorem zAh (a i:Nat):bit (Nat.pow 2 a) i=decide (a=i):=by
 have h:∀ m,bit m i=m.testBit i:=by
  intro m
  unfold bit
  rw [Nat.testBit,Nat.shiftRight_eq_div_pow,Nat.one_and_eq_mod_two]
  have:Nat.mod (Nat.shiftRight m i) 2=m / 2 ^ i % 2:=by
   show (m >>> i) % 2=_
   rw [Nat.shiftRight_eq_div_pow]
  rw [this]
  have J:m / 2 ^ i % 2<2:=Nat.mod_lt _ (by omega)
  rcases Nat.eq_zero_or_pos (m / 2 ^ i % 2) with Q | Q
  ·rw [Q];rfl
  ·have:m / 2 ^ i % 2=1:=by omega
   rw [this];rfl
 rw [h]
 exact Nat.testBit_two_pow
theorem zpC (i:Nat):bit 0 i=false:=by
 have:bit 0 i=Nat.beq (Nat.mod (Nat.shiftRight 0 i) 2) 1:=rfl
 rw [this]
 have J:Nat.shiftRight 0 i=0:=Nat.zero_shiftRight i
 rw [J];rfl
theorem ze3 (ms:List Nat):∀ (l:List Edge) (m i:Nat),bit (ziB ms l m) i=true↔bit m i=true∨∃ e∈l,Region.binds .any e=true∧(e.on=i∨bit (ms.getD e.on 0) i=true)
 | [],m,i=>by simp only [ziB,List.not_mem_nil,false_and,exists_false,or_false]
 | e::l,m,i=>by
  simp only [ziB]
  cases hb:Region.binds .any e with
  | true =>
   simp only [ze3 ms l,zAt,zAh,Bool.or_eq_true,decide_eq_true_eq,kaj,exists_eq_or_imp,hb,true_and]
   constructor
   ·rintro ((h | h | h) | h)
    ·exact .inl h
    ·exact .inr (.inl (.inl h))
    ·exact .inr (.inl (.inr h))
    ·exact .inr (.inr h)
   ·rintro (h | (h | h) | h)
    ·exact .inl (.inl h)
    ·exact .inl (.inr (.inl h))
    ·exact .inl (.inr (.inr h))
    ·exact .inr h
  | false =>
   simp only [ze3 ms l,kaj,exists_eq_or_imp,hb,Bool.false_eq_true,false_and,false_or]
theorem zdb:∀ (l:List Oper) (ms:List Nat) (i:Nat),i<ms.length→(ya l ms).getD i 0=ms.getD i 0
 | [],_,_,_=>rfl
 | o::l,ms,i,h=>by
  rw [ya,zdb l _ i (by simp;omega)]
  simp [List.getD,kar h]
theorem zlN:∀ (l:List Oper) (ms:List Nat) (k:Nat) (o:Oper),l[k]?=some o →
  (∀ j,bit ((ya l ms).getD (ms.length+k) 0) j=true→∃ e∈o.after.toList,Region.binds .any e=true∧(e.on=j∨bit ((ya l ms).getD e.on 0) j=true)) ∧
  (∀ e∈o.after.toList,Region.binds .any e=true→bit ((ya l ms).getD (ms.length+k) 0) e.on=true)
 | [],_,k,o,h=>by simp at h
 | o::l,ms,0,i,h=>by
  simp only [List.getElem?_cons_zero,Option.some.injEq] at h
  subst h
  have Y:(ya (o::l) ms).getD (ms.length+0) 0=ziB ms o.after.toList 0:=by
   rw [ya,zdb l _ _ (by simp)]
   simp [List.getD]
  refine ⟨fun j G=>?_,fun e z hb=>?_⟩
  ·rw [Y,ze3] at G
   rcases G with G | ⟨e,z,hb,G⟩
   ·rw [zpC] at G;cases G
   ·refine ⟨e,z,hb,?_⟩
    rcases G with G | G
    ·exact .inl G
    ·right
     have O:e.on<ms.length:=by
      rcases kaK e.on ms.length with h | h
      ·exact h
      ·have:ms.getD e.on 0=0:=by simp [List.getD,kal h]
       rw [this,zpC] at G;cases G
     rw [ya,zdb l _ _ (by simp;omega)]
     simp only [List.getD,kar O]
     exact G
  ·rw [Y,ze3]
   exact .inr ⟨e,z,hb,.inl rfl⟩
 | o::l,ms,k+1,i,h=>by
  have:=zlN l (ms++[ziB ms o.after.toList 0]) k i (by simpa using h)
  simp only [kae,List.length_singleton] at this
  rw [show ms.length+1+k=ms.length+(k+1) by omega] at this
  exact this
theorem zdY:∀ (n:Nat) (l:List Nat) (i:Nat),i∈zhH n l↔i<n∨i∈l
 | 0,l,i=>by simp [zhH]
 | n+1,l,i=>by
  rw [zhH,zdY n]
  simp only [kaj,Nat.lt_succ_iff_lt_or_eq,or_assoc]
theorem zl6:∀ (l:List Oper),zyn (l.filterMap (·.dst))=true→∀ (i j:Nat) (d:Nat),(l[i]?).bind (·.dst)=some d→(l[j]?).bind (·.dst)=some d→i=j
 | [],_,i,j,d,h,_=>by simp at h
 | o::l,h,i,j,d,hi,G=>by
  have mem:∀ (l:List Oper) (k d:Nat),(l[k]?).bind (·.dst)=some d→d∈l.filterMap (·.dst):=by
   intro l k d h
   cases F:l[k]? with
   | none=>rw [F] at h;cases h
   | some o=>rw [F] at h;exact List.mem_filterMap.2 ⟨o,kav F,h⟩
  have tail:zyn (l.filterMap (·.dst))=true∧∀ x,o.dst=some x→x ∉ l.filterMap (·.dst):=by
   cases C:o.dst with
   | none=>rw [List.filterMap_cons,C] at h;exact ⟨h,fun x u=>by cases u⟩
   | some E =>
    rw [List.filterMap_cons,C] at h
    simp only [zyn] at h
    cases X:(l.filterMap (·.dst)).contains E with
    | true=>rw [X] at h;cases h
    | false =>
     rw [X] at h
     refine ⟨h,fun x u=>?_⟩
     simp only [Option.some.injEq] at u
     subst u
     intro Y
     have:=List.elem_eq_true_of_mem Y
     rw [List.contains,this] at X;cases X
  cases i with
  | zero=>cases j with
   | zero=>rfl
   | succ j =>
    simp only [List.getElem?_cons_zero,Option.bind_some,List.getElem?_cons_succ] at hi G
    exact absurd (mem l j d G) (tail.2 d hi)
  | succ i=>cases j with
   | zero =>
    simp only [List.getElem?_cons_zero,Option.bind_some,List.getElem?_cons_succ] at hi G
    exact absurd (mem l i d hi) (tail.2 d G)
   | succ j =>
    simp only [List.getElem?_cons_succ] at hi G
    rw [zl6 l tail.1 i j d hi G]
theorem zvR {pc:PC} (Z:PcOk P pc) {fi:FI} {ds:List Nat} {o:Oper} (h:zT o=0):jn P pc fi ds o:=by
 cases C:o.op with
 | move x=>exact zeY (.inl C)
 | assign x=>exact zeY (.inr C)
 | pick c a b=>exact zlX C
 | build t ps=>exact zj7 Z C
 | nilCheck x=>exact zfr C
 | binOp b t x y q =>
  refine zqS Z C fun hb=>?_
  simp only [zT,C] at h
  rcases hb with rfl | rfl<;>simp only at h<;>split at h<;>first | (rename_i X;rw [X];rfl) | (cases h;done)
 | unOp u t x=>exact zlx C
 | makeFunc f a b=>exact zft C
 | fieldAddr t x i=>exact zel Z C
 | field t x i=>exact zjI Z C
 | indexAddr t x i=>exact zec Z C
 | index t x i=>exact zjJ Z C
 | extract x i=>exact zgi C
 | call c =>
  simp only [zT,C] at h
  split at h<;>simp at h
 | _=>simp [zT,C] at h
theorem zse {pc:PC} (Z:PcOk P pc) {fi:FI} {ds:List Nat} {o:Oper} (h:zT o=1):qE P pc fi ds o:=by
 cases C:o.op with
 | alloc el=>exact zh8 Z C
 | box el x=>exact zmp C
 | buildSlice t n ps=>exact zb5 Z C
 | makeMap t r=>exact zfp Z C
 | makeSlice t x y=>exact zdr Z C
 | call c =>
  simp only [zT,C] at h
  split at h<;>simp at h
 | binOp b t x y q =>
  simp only [zT,C] at h
  split at h<;>first | (cases h;done) | (split at h<;>cases h)
 | _=>simp [zT,C] at h
theorem zms {pc:PC} (Z:PcOk P pc) {fi:FI} {ds:List Nat} {o:Oper} (h:zT o=2):wi P pc fi ds o:=by
 cases C:o.op with
 | load t x=>exact zmq Z C
 | slice t x a b c=>exact zk4 Z C
 | lookup t x i b=>exact zit Z C
 | binOp b t x y q=>exact zp6 Z C
 | call c =>
  simp only [zT,C] at h
  split at h
  ·rename_i X;exact zaE C X (by simp) (zxr Z _)
  ·rename_i X;exact zaE C X (by simp) (zwl Z _)
  ·rename_i X;exact zaE C X (by simp) (zyI _)
  ·rename_i X;exact zaE C X (by simp) (zwW _)
  ·simp at h
 | _=>simp [zT,C] at h
theorem zz0 (o:Oper):zT o=0∨zT o=1∨zT o=2∨zT o=3:=by
 unfold zT
 split<;>first
  | (simp;done)
  | (split<;>simp;done)
  | (split<;>first | (simp;done) | (split<;>simp;done))
structure DE where
 i:Nat
 v:V
 key:Option K
def ye (all:Array Oper) (j:Nat):Option Nat:=(all[j]?).bind (·.dst)
def kd (all:Array Oper) (i:Nat):Nat:=(all.toList.map zT).getD i 3
theorem zzb {all:Array Oper} {i:Nat} {o:Oper} (h:all[i]?=some o):kd all i=zT o:=by
 unfold kd
 simp [List.getD,h]
def yX (all:Array Oper) (i j:Nat):Bool:=bit ((ya all.toList []).getD i 0) j
structure Acfg (all:Array Oper) (fi:FI) (tm0:T) (D:List DE) (ds:List Nat) (tm:T) (le:List V):Prop where
 a1:∀ t k,idx t ds 0=some k→∃ e∈D,ye all e.i=some t∧le.getD k .bad=e.v
 a2:∀ t,qV fi.ns t=false→yl fi.ns t<240→(∀ e∈D,ye all e.i≠some t)→T.get tm (yl fi.ns t)=T.get tm0 (yl fi.ns t)
 a2':∀ e∈D,∀ t,ye all e.i=some t→qV fi.ns t=false→yl fi.ns t<240→T.get tm (yl fi.ns t)=e.v
 a3:∀ e∈D,∀ t,ye all e.i=some t→(idx t ds 0).isSome=true
 a4:T.get tm 240=T.get tm0 240
def Rdy (all:Array Oper) (fi:FI) (tm0:T) (D:List DE) (ν:Val) (tmps:Array Value) (i:Nat):Prop:=∀ o,all[i]?=some o→∀ t∈y9 all.toList o,
 (∀ e∈D,ye all e.i=some t→yX all i e.i=true→VR ν e.v (tmps.getD t Go.undef)) ∧
 ((∀ j,ye all j=some t→yX all i j=false)→qV fi.ns t=false→yl fi.ns t<240→VR ν (T.get tm0 (yl fi.ns t)) (tmps.getD t Go.undef))
theorem Rdy.mono {all:Array Oper} {fi:FI} {tm0:T} {D A:List DE} {ν:Val} {tmps:Array Value} {i:Nat} (O:∀ e∈D,e∈A) (h:Rdy all fi tm0 A ν tmps i):Rdy all fi tm0 D ν tmps i :=
 fun o C t H=>⟨fun e z=>(h o C t H).1 e (O e z),(h o C t H).2⟩
theorem zng {all:Array Oper} {fi:FI} {tm0:T} {D:List DE} {ds:List Nat} {tm:T} {le:List V} (X:Acfg all fi tm0 D ds tm le) {i:Nat} {o:Oper} (C:all[i]?=some o)
  (I:∀ e∈D,∀ t,ye all e.i=some t→t∈y9 all.toList o→yX all i e.i=true) (J:∀ j,j<all.size→yX all i j=true→∃ e∈D,e.i=j) {ν:Val} {tmps:Array Value} (N:Rdy all fi tm0 D ν tmps i) :
  ∀ t∈y9 all.toList o,SlR ν fi T.get ds tm le tmps t:=by
 intro t H
 obtain ⟨Y,K⟩:=N o C t H
 refine ⟨fun R U g=>?_,fun k F=>?_⟩
 ·have A:∀ e∈D,ye all e.i≠some t:=fun e z h=>by have:=X.a3 e z t h;rw [g] at this;cases this
  rw [X.a2 t R U A]
  refine K (fun j G=>?_) R U
  cases Z:yX all i j with
  | false=>rfl
  | true =>
   have O:j<all.size:=by
    unfold ye at G
    cases M:all[j]? with
    | none=>rw [M] at G;cases G
    | some x=>exact (kat.1 M).1
   obtain ⟨e,z,rfl⟩:=J j O Z
   exact absurd G (A e z)
 ·obtain ⟨e,z,L,l⟩:=X.a1 t k F
  rw [l]
  exact Y e z L (I e z t L H)
theorem zvT {l:List Oper} {o:Oper} {t:Nat} (h:Operand.tmp t∈o.op.operands.toList):t∈y9 l o:=by
 unfold y9 zs4
 exact kaq.2 (.inl (List.mem_filterMap.2 ⟨_,h,rfl⟩))
theorem zkf {all:Array Oper} {fi:FI} {ds:List Nat} {tm:T} {le:List V} {o:Oper} {ν:Val} {tmps:Array Value} (h:∀ t∈y9 all.toList o,SlR ν fi T.get ds tm le tmps t):zfS ν fi ds tm le tmps o:=by
 intro x M
 cases x with
 | tmp t=>exact h t (zvT M)
 | _=>trivial
theorem za3 {all:Array Oper} {fi:FI} {ds:List Nat} {tm:T} {le:List V} {o:Oper} {ν:Val} {tmps:Array Value} (h:∀ t∈y9 all.toList o,SlR ν fi T.get ds tm le tmps t) :
  ∀ j w d,o.guard=some (j,w)→(all[j]?).bind (·.dst)=some d→OdR ν fi ds tm le tmps (.tmp d):=by
 intro j w d Q u
 refine h d ?_
 unfold y9
 rw [Q]
 have:all.toList[j]?=all[j]?:=kam
 simp only [this,u]
 simp
def zvx (all:Array Oper):List DE→Prop
 | []=>True
 | x::E=>(∀ j,j<all.size→yX all x.i j=true→∃ e∈E,e.i=j)∧zvx all E
theorem zvx.top {all:Array Oper}:∀ {D:List DE},zvx all D→∀ e∈D,∀ j,j<all.size→yX all e.i j=true→∃ f∈D,f.i=j
 | [],_,e,z,_,_,_=>by cases z
 | x::E,h,e,z,j,G,Z=>by
  rcases kaj.1 z with I | I
  ·subst I
   obtain ⟨f,p,J⟩:=h.1 j G Z
   exact ⟨f,kaC _ p,J⟩
  ·obtain ⟨f,p,J⟩:=zvx.top h.2 e I j G Z
   exact ⟨f,kaC _ p,J⟩
section
variable (P)
def zC2 (all:Array Oper) (fi:FI) (tm0:T) (D:List DE) (e:DE) (o:Oper):Prop:=∀ ν tmps,yn ν fi.ng→Rdy all fi tm0 D ν tmps e.i→∃ y,VR ν e.v y∧∀ w,(execOp (ev tmps) o).run P w=.ok (.value y) w
def zw7 (all:Array Oper) (fi:FI) (tm0:T) (D:List DE) (s:S) (e:DE) (o:Oper):Prop:=∀ ν w tmps,zq1 P ν s w→yn ν fi.ng→Rdy all fi tm0 D ν tmps e.i→∃ y,VR ν e.v y∧(execOp (ev tmps) o).run P w=.ok (.value y) w
def zzq (all:Array Oper) (fi:FI) (tm0:T) (D:List DE) (a:K) (b:B) (e:DE) (o:Oper):Prop:=∀ n0 w0 ν tmps H w,St P n0 w0 ν H w→yn ν fi.ng→Rdy all fi tm0 D ν tmps e.i→(∀ u,ν.blk a u=none)→a.toNat<H.nx.toNat→(Tr.get B.none a H.h=b∨Tr.get B.none a H.h=.none) →
 ∃ W y w',ν.le W∧St P n0 w0 W H w'∧(∀ r,r≠a→∀ u,W.blk r u=ν.blk r u)∧VR W e.v y∧(execOp (ev tmps) o).run P w=.ok (.value y) w'
def zqz (all:Array Oper) (fi:FI) (tm0:T) (D:List DE) (stale:List Nat) (s:S) (ν:Val) (e:DE):Prop:=∃ X o,all[e.i]?=some o ∧
 (∀ W tmps,yn W fi.ng→Rdy all fi tm0 D W tmps e.i→Region.wanted o (yielded all tmps)=X)∧(X=false→e.v=undef) ∧
 (X=true→zC2 P all fi tm0 D e o∨(e.i∈stale∧kd all e.i=2)∨(kd all e.i=2∧zw7 P all fi tm0 D s e o)∨∃ a b,e.key=some a∧zzq P all fi tm0 D a b e o∧(∀ u,ν.blk a u=none)∧a.toNat<s.nx.toNat∧(Tr.get B.none a s.h=b∨Tr.get B.none a s.h=.none))
structure KeysOk (D:List DE) (m:Nat) (s:S):Prop where
 lt:∀ e∈D,∀ k,e.key=some k→m≤k.toNat∧k.toNat<s.nx.toNat
 ne:∀ e∈D,∀ e'∈D,e.i≠e'.i→∀ k,e.key=some k→e'.key≠some k
structure Inv (all:Array Oper) (fi:FI) (tm0:T) (tmps0:Array Value) (n0:Nat) (w0:World) (ν0:Val) (s0:S) (D:List DE) (ds:List Nat) (tm:T) (le:List V) (s:S) (stale:List Nat) (S:Nat→Prop) (ν:Val) (w:World) (tmps:Array Value):Prop where
 out:Out P n0 w0 ν0 s0 ν s w
 glob:yn ν P.globals.size
 ng:fi.ng≤P.globals.size
 cfg:Acfg all fi tm0 D ds tm le
 nd:(D.map (·.i)).Nodup
 lt:∀ e∈D,e.i<all.size
 topL:zvx all D
 keys:KeysOk D s0.nx.toNat s
 szt:tmps.size=fi.nt
 dlt:∀ e∈D,∀ t,ye all e.i=some t→t<fi.nt
 c1:∀ e∈D,S e.i→∀ t,ye all e.i=some t→VR ν e.v (tmps.getD t Go.undef)
 c2:∀ t,(∀ j,S j→ye all j≠some t)→tmps.getD t Go.undef=tmps0.getD t Go.undef
 fr0:∀ t,qV fi.ns t=false→yl fi.ns t<240→VR ν (T.get tm0 (yl fi.ns t)) (tmps0.getD t Go.undef)
 c3:∀ i,S i→∀ j,yX all i j=true→S j
 c4:∀ i,S i→∃ e∈D,e.i=i
 eff:∀ e∈D,kd all e.i=3→S e.i
 pend:∀ e∈D,¬S e.i→zqz P all fi tm0 D stale s ν e
end
theorem Inv.top {all:Array Oper} {fi:FI} {tm0:T} {tmps0:Array Value} {n0:Nat} {w0:World} {ν0:Val} {s0:S} {D:List DE} {ds:List Nat} {tm:T} {le:List V} {s:S} {stale:List Nat} {S:Nat→Prop} {ν:Val} {w:World} {tmps:Array Value}
  (q:Inv P all fi tm0 tmps0 n0 w0 ν0 s0 D ds tm le s stale S ν w tmps):∀ e∈D,∀ j,j<all.size→yX all e.i j=true→∃ f∈D,f.i=j:=q.topL.top
theorem zBx {D:List DE} (Y:(D.map (·.i)).Nodup) {e f:DE} (z:e∈D) (p:f∈D) (h:e.i=f.i):e=f:=by
 induction D with
 | nil=>cases z
 | cons d D X =>
  simp only [List.map_cons,List.nodup_cons] at Y
  rcases kaj.1 z with I | I
  ·rcases kaj.1 p with J | J
   ·rw [I,J]
   ·subst I
    exact absurd (by rw [h];exact kau.2 ⟨f,J,rfl⟩) Y.1
  ·rcases kaj.1 p with J | J
   ·subst J
    exact absurd (by rw [←h];exact kau.2 ⟨e,I,rfl⟩) Y.1
   ·exact X Y.2 I J
structure Tidy (all:Array Oper):Prop where
 uniq:∀ i j d,ye all i=some d→ye all j=some d→i=j
 pair:∀ i j,i<all.size→j<all.size→∀ o t,all[i]?=some o→ye all j=some t→t∈y9 all.toList o→j=i∨yX all i j=true∨yX all j i=true
theorem zA1 {all:Array Oper} (h:zCS (ya all.toList []) all.toList=true):Tidy all:=by
 unfold zCS at h
 rw [kaf] at h
 obtain ⟨I,J⟩:=h
 refine ⟨fun i j d hi G=>?_,fun i j hi G o t C u H=>?_⟩
 ·unfold ye at hi G
  refine zl6 all.toList I i j d ?_ ?_
  ·rw [kam];exact hi
  ·rw [kam];exact G
 ·rw [kao] at J
  have Q:=J i ((zdY _ _ _).2 (.inl (by simpa using hi)))
  rw [kao] at Q
  have K:=Q j ((zdY _ _ _).2 (.inl (by simpa using G)))
  unfold zBE at K
  rw [kam,kam,C] at K
  unfold ye at u
  cases Z:all[j]? with
  | none=>rw [Z] at u;cases u
  | some p =>
   rw [Z] at u K
   simp only [Option.bind_some] at u
   simp only [u,Bool.or_eq_true] at K
   rcases K with ((K | K) | K) | K
   ·exact .inl (bq K)
   ·exact .inr (.inl K)
   ·exact .inr (.inr K)
   ·have:(y9 all.toList o).contains t=true:=List.elem_eq_true_of_mem H
    rw [this] at K;cases K
theorem zxQ {all:Array Oper} (H:Tidy all) {fi:FI} {tm0:T} {tmps0:Array Value} {n0:Nat} {w0:World} {ν0:Val} {s0:S} {D:List DE} {ds:List Nat} {tm:T} {le:List V} {s:S} {stale:List Nat} {S:Nat→Prop} {ν:Val} {w:World} {tmps:Array Value}
  (q:Inv P all fi tm0 tmps0 n0 w0 ν0 s0 D ds tm le s stale S ν w tmps) {i:Nat} (hi:i<all.size) (n:¬S i) (N:∀ j,yX all i j=true→S j):Rdy all fi tm0 D ν tmps i:=by
 intro o C t X
 refine ⟨fun e z u Z=>q.c1 e z (N _ Z) t u,fun A R U=>?_⟩
 have:tmps.getD t Go.undef=tmps0.getD t Go.undef:=by
  refine q.c2 t fun j G u=>?_
  obtain ⟨e,z,B⟩:=q.c4 j G
  have O:j<all.size:=by rw [←B];exact q.lt e z
  rcases H.pair i j hi O o t C u X with h | h | h
  ·subst h;exact n G
  ·rw [A j u] at h;cases h
  ·exact n (q.c3 j G i h)
 rw [this]
 exact q.fr0 t R U
theorem zeV {all:Array Oper} (I:Tidy all) {fi:FI} {o:Oper} {i:Nat} (C:all[i]?=some o) {v:V} {tm:T} {le:List V} {c:T→List V→A} (G:¬((dsC fi o).run v tm le c).isBad):∃ F f,c F f=(dsC fi o).run v tm le c∧(∀ d,o.dst=some d→d<fi.nt) ∧
  ∀ (tm0:T) (D:List DE) (ds:List Nat) (key:Option K),Acfg all fi tm0 D ds tm le→(∀ e∈D,e.i≠i)→Acfg all fi tm0 (⟨i,v,key⟩::D) (push o ds) F f:=by
 have a:ye all i=o.dst:=by unfold ye;rw [C];rfl
 unfold dsC at G ⊢
 cases E:o.dst with
 | none =>
  rw [E] at G a
  refine ⟨tm,le,rfl,fun d h=>(by cases h),fun tm0 D ds key h Z=>?_⟩
  simp only [push,E]
  refine ⟨fun t k H=>?_,fun t R U X=>h.a2 t R U (fun e z=>X e (by simp [z])),fun e z t R U X=>?_,fun e z t g=>?_,h.a4⟩
  ·obtain ⟨e,z,q⟩:=h.a1 t k H;exact ⟨e,by simp [z],q⟩
  ·rcases kaj.1 z with L | L
   ·subst L;rw [a] at R;cases R
   ·exact h.a2' e L t R U X
  ·rcases kaj.1 z with L | L
   ·subst L;rw [a] at g;cases g
   ·exact h.a3 e L t g
 | some d =>
  rw [E] at G a
  cases O:Nat.blt d fi.nt with
  | false=>simp only [O] at G;exact absurd trivial G
  | true =>
   have W:d<fi.nt:=by simpa [Nat.blt_eq] using O
   have gen:∀ (F:T),T.get F 240=T.get tm 240→(∀ t,qV fi.ns t=false→yl fi.ns t<240→T.get F (yl fi.ns t)=if t=d then v else T.get tm (yl fi.ns t)) →
     ∀ (tm0:T) (D:List DE) (ds:List Nat) (key:Option K),Acfg all fi tm0 D ds tm le→(∀ e∈D,e.i≠i)→Acfg all fi tm0 (⟨i,v,key⟩::D) ((d+1)::ds) F (v::le):=by
    intro F N qk tm0 D ds key h Z
    have Y:∀ e∈D,ye all e.i≠some d:=fun e z y=>Z e z (I.uniq _ _ d y a)
    refine ⟨fun t k H=>?_,fun t R U X=>?_,fun e z t R U X=>?_,fun e z t g=>?_,by rw [N];exact h.a4⟩
    ·rw [zkZ] at H
     by_cases r:t=d
     ·rw [if_pos r] at H
      simp only [Option.some.injEq] at H
      subst H
      exact ⟨⟨i,v,key⟩,by simp,by rw [r];exact a,rfl⟩
     ·rw [if_neg r] at H
      cases M:idx t ds 0 with
      | none=>rw [M] at H;cases H
      | some j =>
       rw [M] at H
       simp only [Option.map_some,Option.some.injEq] at H
       subst H
       obtain ⟨e,z,m,p⟩:=h.a1 t j M
       exact ⟨e,by simp [z],m,p⟩
    ·have r:t≠d:=fun e=>X ⟨i,v,key⟩ (by simp) (by rw [e];exact a)
     rw [qk t R U,if_neg r]
     exact h.a2 t R U (fun e z=>X e (by simp [z]))
    ·rw [qk t U X]
     rcases kaj.1 z with L | L
     ·subst L
      rw [a] at R
      simp only [Option.some.injEq] at R
      rw [if_pos R.symm]
     ·rw [if_neg (fun l=>Y e L (by rw [←l];exact R))]
      exact h.a2' e L t R U X
    ·rw [zkZ]
     by_cases r:t=d
     ·rw [if_pos r];rfl
     ·rw [if_neg r]
      rcases kaj.1 z with L | L
      ·subst L
       rw [a] at g
       simp only [Option.some.injEq] at g
       exact absurd g.symm r
      ·have:=h.a3 e L t g
       cases M:idx t ds 0 with
       | none=>rw [M] at this;cases this
       | some k=>rfl
   cases n:qV fi.ns d with
   | true =>
    simp only [O,n] at G ⊢
    refine ⟨tm,v::le,rfl,fun x h=>(by cases h;exact W),fun tm0 D ds key h Z=>?_⟩
    simp only [push,E]
    exact gen tm rfl (fun t R U=>by rw [if_neg];intro e;subst e;rw [n] at R;cases R) tm0 D ds key h Z
   | false =>
    simp only [O,n] at G ⊢
    obtain ⟨_,J,Q⟩:=zbn (znt G)
    obtain ⟨F,B,u⟩:=zeC G
    rw [Q] at u
    refine ⟨F,v::le,B,fun x h=>(by cases h;exact W),fun tm0 D ds key h Z=>?_⟩
    simp only [push,E]
    refine gen F (by rw [u,if_neg (by omega)]) (fun t R U=>?_) tm0 D ds key h Z
    rw [u]
    by_cases r:t=d
    ·subst r;rw [if_pos rfl,if_pos rfl]
    ·rw [if_neg r,if_neg (fun e=>r (zgY R n e))]
theorem zqz.mono {all:Array Oper} {fi:FI} {tm0:T} {D:List DE} {stale:List Nat} {s:S} {ν W:Val} {e:DE} (F:∀ k,e.key=some k→(∀ u,ν.blk k u=none)→∀ u,W.blk k u=none) (h:zqz P all fi tm0 D stale s ν e):zqz P all fi tm0 D stale s W e:=by
 obtain ⟨X,o,I,J,Q,K⟩:=h
 refine ⟨X,o,I,J,Q,fun Z=>?_⟩
 rcases K Z with h | h | h | ⟨a,b,R,U,g,E⟩
 ·exact .inl h
 ·exact .inr (.inl h)
 ·exact .inr (.inr (.inl h))
 ·exact .inr (.inr (.inr ⟨a,b,R,U,F a R g,E⟩))
section
variable {all:Array Oper} {fi:FI} {tm0:T} {tmps0:Array Value} {n0:Nat} {w0:World} {ν0:Val} {s0:S} {D:List DE} {ds:List Nat} {tm:T} {le:List V} {s:S} {stale:List Nat} {Sx:Nat→Prop} {ν:Val} {w:World} {tmps:Array Value}
theorem zj2 (H:Tidy all) (q:Inv P all fi tm0 tmps0 n0 w0 ν0 s0 D ds tm le s stale Sx ν w tmps) {e:DE} (z:e∈D) {o:Oper} (C:all[e.i]?=some o) (N:∀ j,yX all e.i j=true→Sx j) {W:Val} {w':World} (g:ν.le W) (L:Out P n0 w0 ν0 s0 W s w') {y:Value} (Y:VR W e.v y)
  (I:∀ f∈D,f.i≠e.i→∀ k,f.key=some k→(∀ u,ν.blk k u=none)→∀ u,W.blk k u=none) :
  Inv P all fi tm0 tmps0 n0 w0 ν0 s0 D ds tm le s stale (fun j=>Sx j∨j=e.i) W w' (wB tmps o.dst y):=by
 have a:ye all e.i=o.dst:=by unfold ye;rw [C];rfl
 have qk:∀ t,(wB tmps o.dst y).getD t Go.undef=if o.dst=some t then y else tmps.getD t Go.undef:=by
  intro t
  cases B:o.dst with
  | none=>simp [wB]
  | some d =>
   have O:=q.dlt e z d (by rw [a,B])
   simp only [wB]
   rw [zb9 (by rw [q.szt];exact O)]
   by_cases h:t=d
   ·subst h;simp
   ·rw [if_neg h,if_neg];intro M;simp only [Option.some.injEq] at M;exact h M.symm
 refine ⟨L,q.glob.mono g,q.ng,q.cfg,q.nd,q.lt,q.topL,q.keys,?_,q.dlt,fun f p n t B=>?_,fun t A=>?_,fun t R U=>(q.fr0 t R U).mono' g,fun i n j G=>?_,fun i n=>?_,fun f p F=>.inl (q.eff f p F),fun f p n=>?_⟩
 ·cases B:o.dst<;>simp [wB,q.szt]
 ·rw [qk]
  by_cases E:f.i=e.i
  ·have:=zBx q.nd p z E
   subst this
   rw [a] at B
   rw [if_pos B];exact Y
  ·rw [if_neg (fun h=>E (H.uniq _ _ t B (by rw [a];exact h)))]
   rcases n with n | n
   ·exact (q.c1 f p n t B).mono' g
   ·exact absurd n E
 ·rw [qk,if_neg (fun h=>A e.i (.inr rfl) (by rw [a];exact h))]
  exact q.c2 t (fun j G=>A j (.inl G))
 ·rcases n with n | n
  ·exact .inl (q.c3 i n j G)
  ·subst n;exact .inl (N j G)
 ·rcases n with n | n
  ·exact q.c4 i n
  ·exact ⟨e,z,n.symm⟩
 ·have E:f.i≠e.i:=fun h=>n (.inr h)
  exact (q.pend f p (fun h=>n (.inl h))).mono (I f p E)
theorem zvM (H:Tidy all) (ae:∀ (i:Nat) (o:Oper),all[i]?=some o→z7 o=false) (q:Inv P all fi tm0 tmps0 n0 w0 ν0 s0 D ds tm le s [] Sx ν w tmps) {e:DE} (z:e∈D) (l:¬Sx e.i) (N:∀ j,yX all e.i j=true→Sx j) :
  ∃ W w' n,Inv P all fi tm0 tmps0 n0 w0 ν0 s0 D ds tm le s [] (fun j=>Sx j∨j=e.i) W w' n∧∀ (b:Base) cs df kk rest,step P (lone (b.fr tmps df (.inRegion all (e.i::rest)::kk)) cs w)=.next (lone (b.fr n df (.inRegion all rest::kk)) cs w'):=by
 have ad:=zxQ H q (q.lt e z) l N
 obtain ⟨X,o,C,m,ah,ai⟩:=q.pend e z l
 have E:=q.glob.le q.ng
 have aa:=m ν tmps E ad
 cases X with
 | false =>
  refine ⟨ν,w,_,zj2 H q z C N ν.le_refl q.out (y:=Go.undef) (by rw [ah rfl];exact VR.undef) (fun _ _ _ _ _ h=>h),fun b cs df kk rest=>?_⟩
  have:=zfN (P:=P) (b:=b) (tm:=tmps) (df:=df) (k:=kk) (cs:=cs) (w:=w) (ops:=all) (i:=e.i) (rest:=rest) (by simp [C,aa])
  rw [C] at this
  exact this
 | true =>
  have fin:∀ y,VR ν e.v y→(execOp (ev tmps) o).run P w=.ok (.value y) w→∃ W w' n,Inv P all fi tm0 tmps0 n0 w0 ν0 s0 D ds tm le s [] (fun j=>Sx j∨j=e.i) W w' n∧∀ (b:Base) cs df kk rest,step P (lone (b.fr tmps df (.inRegion all (e.i::rest)::kk)) cs w)=.next (lone (b.fr n df (.inRegion all rest::kk)) cs w'):=by
   intro y Y G
   exact ⟨ν,w,_,zj2 H q z C N ν.le_refl q.out Y (fun _ _ _ _ _ h=>h),fun b cs df kk rest=>zbQ C aa (.inr (ae _ _ C)) (.inl G)⟩
  rcases ai rfl with h | h | h | ⟨a,bb,R,U,g,p,t⟩
  ·obtain ⟨y,I,J⟩:=h ν tmps E ad
   exact fin y I (J w)
  ·exact absurd h.1 (by simp)
  ·obtain ⟨y,I,J⟩:=h.2 ν w tmps ⟨q.out.st.rows,q.out.st.sep⟩ E ad
   exact fin y I J
  ·obtain ⟨W,y,w',I,J,Q,K,d⟩:=U n0 w0 ν tmps s w q.out.st E ad g p t
   have L:Out P n0 w0 ν0 s0 W s w':=by
    refine ⟨Val.le_trans q.out.le I,J,q.out.nx,fun r x O=>?_⟩
    obtain ⟨B,f⟩:=q.out.keep r x O
    have Z:r≠a:=by
     intro M;subst M
     have:=(q.keys.lt e z r R).1
     omega
    exact ⟨fun u=>by rw [Q r Z u];exact B u,f⟩
   exact ⟨W,w',_,zj2 H q z C N I L K (fun e' aj ak k F A u=>by
    rw [Q k ?_ u]
    ·exact A u
    ·intro M;subst M;exact q.keys.ne e z e' aj (fun h=>ak h.symm) k R F),fun b cs df kk rest=>zbQ C aa (.inr (ae _ _ C)) (.inl d)⟩
end
end Go.Ev
