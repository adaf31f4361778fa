/- The evaluator is right on pure operations and on reads. No statement of the seat stands here. No condition. By an AI agent. -/
import Derived.Test.YthdlmdoppfigoaaGreatDoorEvB
import Derived.MapKept
import Derived.Laws.BytesString
import Derived.Lib.Builder
import Derived.Lib.UnsafeStr
namespace Go.Ev
open Go.RowKit
variable {P:Program}
def jn (P:Program) (pc:PC) (fi:FI) (ds:List Nat) (o:Oper):Prop:=∀ r N le s k,¬((op pc fi ds o).run r N le s k).isBad →
 ∃ v,k v s=(op pc fi ds o).run r N le s k∧∀ L D,yn L fi.ng→zfS L fi ds N le D o→∃ y,VR L v y∧∀ w,(execOp (ev D) o).run P w=.ok (.value y) w
def Sep (ν:Val) (s:S):Prop:=∀ a v b q r F f,ν.blk a v=some (b,q)→ν.blk r F=some (b,f)→(Tr.get B.none a s.h).live→(Tr.get B.none r s.h).live→a=r
def zq1 (P:Program) (ν:Val) (s:S) (w:World):Prop:=zbt P ν s w∧Sep ν s
def wi (P:Program) (pc:PC) (fi:FI) (ds:List Nat) (o:Oper):Prop:=∀ r N le s k,¬((op pc fi ds o).run r N le s k).isBad →
 ∃ v,k v s=(op pc fi ds o).run r N le s k∧∀ L w D,zq1 P L s w→yn L fi.ng→zfS L fi ds N le D o→∃ y,VR L v y∧(execOp (ev D) o).run P w=.ok (.value y) w
variable {fi:FI} {o:Oper}
theorem jn.read {pc:PC} {ds:List Nat} (h:jn P pc fi ds o):wi P pc fi ds o:=fun r N le s k G=>by
 obtain ⟨v,I,J⟩:=h r N le s k G
 exact ⟨v,I,fun L w D _ O B=>by obtain ⟨y,Q,K⟩:=J L D O B;exact ⟨y,Q,K w⟩⟩
theorem zbX (fi:FI) (ds:List Nat) (x:Operand) (h:V→S→(V→S→A)→A) (r:R) (tm:T) (le:List V) (s:S) (k:V→S→A) :
  (un fi ds x h).run r tm le s k=(opd fi ds x).run tm le fun v=>h v s k:=rfl
theorem zfx (fi:FI) (ds:List Nat) (x y:Operand) (h:V→V→S→(V→S→A)→A) (r:R) (tm:T) (le:List V) (s:S) (k:V→S→A) :
  (bi fi ds x y h).run r tm le s k=(opd fi ds x).run tm le fun v=>(opd fi ds y).run tm le fun u=>h v u s k:=rfl
variable {x:Operand}
theorem zbx {pc:PC} {ds:List Nat} {X:V→(V→A)→A} (e:op pc fi ds o=un fi ds x (fun v s k=>X v fun z=>k z s)) (Y:x∈o.op.operands.toList)
  (Z:∀ u c,¬(X u c).isBad→∃ z,c z=X u c∧∀ (ν:Val) (tmps:Array Value),VR ν u (ev tmps x)→∃ T,VR ν z T∧∀ w,(execOp (ev tmps) o).run P w=.ok (.value T) w):jn P pc fi ds o:=by
 intro r N le s k G
 rw [e,zbX] at G ⊢
 obtain ⟨u,I,J⟩:=qf fi ds x N le _ G
 rw [←I] at G ⊢
 obtain ⟨z,Q,K⟩:=Z u _ G
 exact ⟨z,Q,fun ν tmps O B=>K ν tmps (J ν tmps O (B x Y))⟩
variable {y:Operand}
theorem zja {pc:PC} {ds:List Nat} {X:V→V→(V→A)→A} (e:op pc fi ds o=bi fi ds x y (fun v u s k=>X v u fun z=>k z s)) (Y:x∈o.op.operands.toList) (R:y∈o.op.operands.toList)
  (Z:∀ u v c,¬(X u v c).isBad→∃ z,c z=X u v c∧∀ (ν:Val) (tmps:Array Value),VR ν u (ev tmps x)→VR ν v (ev tmps y)→∃ T,VR ν z T∧∀ w,(execOp (ev tmps) o).run P w=.ok (.value T) w):jn P pc fi ds o:=by
 intro r N le s k G
 rw [e,zfx] at G ⊢
 obtain ⟨u,I,J⟩:=qf fi ds x N le _ G
 rw [←I] at G ⊢
 obtain ⟨v,Q,K⟩:=qf fi ds y N le _ G
 rw [←Q] at G ⊢
 obtain ⟨z,d,W⟩:=Z u v _ G
 exact ⟨z,d,fun ν tmps O B=>W ν tmps (J ν tmps O (B x Y)) (K ν tmps O (B y R))⟩
theorem zn9 {pc:PC} {ds:List Nat} {X:V→S→(V→A)→A} (e:op pc fi ds o=un fi ds x (fun v s k=>X v s fun z=>k z s)) (Y:x∈o.op.operands.toList)
  (Z:∀ u s c,¬(X u s c).isBad→∃ z,c z=X u s c∧∀ (ν:Val) (w:World) (tmps:Array Value),zbt P ν s w→VR ν u (ev tmps x)→∃ T,VR ν z T∧(execOp (ev tmps) o).run P w=.ok (.value T) w):wi P pc fi ds o:=by
 intro r N le s k G
 rw [e,zbX] at G ⊢
 obtain ⟨u,I,J⟩:=qf fi ds x N le _ G
 rw [←I] at G ⊢
 obtain ⟨z,Q,K⟩:=Z u _ _ G
 exact ⟨z,Q,fun ν w tmps m O B=>K ν w tmps m.1 (J ν tmps O (B x Y))⟩
theorem zAB {pc:PC} {ds:List Nat} {X:V→V→S→(V→A)→A} (e:op pc fi ds o=bi fi ds x y (fun v u s k=>X v u s fun z=>k z s)) (Y:x∈o.op.operands.toList) (R:y∈o.op.operands.toList)
  (Z:∀ u v s c,¬(X u v s c).isBad→∃ z,c z=X u v s c∧∀ (ν:Val) (w:World) (tmps:Array Value),zbt P ν s w→VR ν u (ev tmps x)→VR ν v (ev tmps y)→∃ T,VR ν z T∧(execOp (ev tmps) o).run P w=.ok (.value T) w):wi P pc fi ds o:=by
 intro r N le s k G
 rw [e,zfx] at G ⊢
 obtain ⟨u,I,J⟩:=qf fi ds x N le _ G
 rw [←I] at G ⊢
 obtain ⟨v,Q,K⟩:=qf fi ds y N le _ G
 rw [←Q] at G ⊢
 obtain ⟨z,d,W⟩:=Z u v _ _ G
 exact ⟨z,d,fun ν w tmps m O B=>W ν w tmps m.1 (J ν tmps O (B x Y)) (K ν tmps O (B y R))⟩
theorem zxW {pc:PC} {ds:List Nat} {X:V→V→S→(V→A)→A} (e:op pc fi ds o=bi fi ds x y (fun v u s k=>X v u s fun z=>k z s)) (Y:x∈o.op.operands.toList) (R:y∈o.op.operands.toList)
  (Z:∀ u v s c,¬(X u v s c).isBad→∃ z,c z=X u v s c∧∀ (ν:Val) (w:World) (tmps:Array Value),zq1 P ν s w→VR ν u (ev tmps x)→VR ν v (ev tmps y)→∃ T,VR ν z T∧(execOp (ev tmps) o).run P w=.ok (.value T) w):wi P pc fi ds o:=by
 intro r N le s k G
 rw [e,zfx] at G ⊢
 obtain ⟨u,I,J⟩:=qf fi ds x N le _ G
 rw [←I] at G ⊢
 obtain ⟨v,Q,K⟩:=qf fi ds y N le _ G
 rw [←Q] at G ⊢
 obtain ⟨z,d,W⟩:=Z u v _ _ G
 exact ⟨z,d,fun ν w tmps m O B=>W ν w tmps m (J ν tmps O (B x Y)) (K ν tmps O (B y R))⟩
variable {m:Nat}
theorem zX {pc:PC} {ds:List Nat} (h:op pc fi ds o=zO m):jn P pc fi ds o:=fun r N le s k G=>by rw [h] at G;exact absurd trivial G
theorem zeY {pc:PC} {ds:List Nat} (C:o.op=.move x∨o.op=.assign x):jn P pc fi ds o:=by
 refine zbx (x:=x) (X:=fun v c=>c v) (by rcases C with C | C<;>simp only [op,C]) (by rcases C with C | C<;>simp [C,Op.operands]) (fun u c _=>⟨u,rfl,fun L D hu=>⟨_,hu,fun w=>?_⟩⟩)
 rcases C with C | C<;>simp [execOp,C]
theorem zlX {pc:PC} {ds:List Nat} {c a b:Operand} (C:o.op=.pick c a b):jn P pc fi ds o:=by
 intro r N le s k G
 have e:(op pc fi ds o).run r N le s k=(opd fi ds c).run N le fun v=>zt0 v (fun _=>(opd fi ds a).run N le (fun v=>k v s)) (fun _=>(opd fi ds b).run N le (fun v=>k v s)):=by simp only [op,C]
 rw [e] at G ⊢
 obtain ⟨v,I,J⟩:=qf fi ds c N le _ G
 rw [←I] at G ⊢
 cases v with
 | bool t =>
  cases t with
  | false =>
   obtain ⟨u,Q,K⟩:=qf fi ds b N le _ G
   refine ⟨u,Q,fun L D O B=>⟨_,K L D O (B _ (by simp [C,Op.operands])),fun w=>?_⟩⟩
   have:=J L D O (B _ (by simp [C,Op.operands]))
   simp only [VR] at this
   simp [execOp,C,this,asBool]
  | true =>
   obtain ⟨u,Q,K⟩:=qf fi ds a N le _ G
   refine ⟨u,Q,fun L D O B=>⟨_,K L D O (B _ (by simp [C,Op.operands])),fun w=>?_⟩⟩
   have:=J L D O (B _ (by simp [C,Op.operands]))
   simp only [VR] at this
   simp [execOp,C,this,asBool]
 | _=>exact absurd trivial G
theorem zay (fi:FI) (ds:List Nat):∀ (l:List Operand) (tm:T) (le:List V) (c:List V→A),¬((zc3 fi ds l).run tm le c).isBad →
  ∃ v,c v=(zc3 fi ds l).run tm le c∧∀ (ν:Val) (tmps:Array Value),yn ν fi.ng→(∀ x∈l,OdR ν fi ds tm le tmps x)→VRs ν v (l.map (ev tmps))
 | [],_,_,c,_=>⟨[],rfl,fun _ _ _ _=>rfl⟩
 | x::l,tm,le,c,G=>by
  have e:(zc3 fi ds (x::l)).run tm le c=(opd fi ds x).run tm le fun v=>(zc3 fi ds l).run tm le fun l=>c (v::l):=rfl
  rw [e] at G ⊢
  obtain ⟨u,I,J⟩:=qf fi ds x tm le _ G
  rw [←I] at G ⊢
  obtain ⟨v,Q,K⟩:=zay fi ds l tm le _ G
  exact ⟨u::v,Q,fun ν tmps O B=>⟨_,_,rfl,J ν tmps O (B x (by simp)),K ν tmps O (fun y Y=>B y (by simp [Y]))⟩⟩
theorem zft {pc:PC} {ds:List Nat} {fn:Fn} {a b:Array Operand} (C:o.op=.makeFunc fn a b):jn P pc fi ds o:=by
 intro r N le s k G
 have e:(op pc fi ds o).run r N le s k=(zc3 fi ds a.toList).run N le fun u=>(zc3 fi ds b.toList).run N le fun v=>k (.fn fn u v) s:=by simp only [op,C]
 rw [e] at G ⊢
 obtain ⟨u,I,J⟩:=zay fi ds a.toList N le _ G
 rw [←I] at G ⊢
 obtain ⟨v,Q,K⟩:=zay fi ds b.toList N le _ G
 refine ⟨_,Q,fun L D O B=>?_⟩
 refine ⟨.func fn (a.map (ev D)) (b.map (ev D)),⟨_,_,J L D O (fun x M=>B x (by simp [C,Op.operands];exact .inl (by simpa using M))),K L D O (fun x M=>B x (by simp [C,Op.operands];exact .inr (by simpa using M))),?_⟩,fun w=>?_⟩
 ·congr 1<;>(apply Array.ext';simp)
 ·simp [execOp,C,Instr.makeFunc]
variable {t:TypeId}
theorem zlx {pc:PC} {ds:List Nat} {u:UnOp} (C:o.op=.unOp u t x):jn P pc fi ds o:=by
 refine zbx (x:=x) (X:=xUn u) (by simp only [op,C]) (by simp [C,Op.operands]) (fun v c G=>?_)
 cases u with
 | not =>
  cases v with
  | bool b =>
   refine ⟨.bool (!b),by simp only [xUn,za1,j6],fun L D hu=>⟨_,rfl,fun w=>?_⟩⟩
   simp only [VR] at hu
   simp [execOp,C,hu,Op.unary]
  | _=>exact absurd trivial G
 | _=>exact absurd trivial G
variable {d:TypeDesc}
theorem zC (h:P.underlying t=some d) (w:World):(underlying t).run P w=.ok d w:=by simp [underlying,h]
variable {i:TypeInfo}
theorem zbp (h:P.info? t=some i) (w:World):(typeInfo t).run P w=.ok i w:=by simp [typeInfo,h]
theorem qN (h:P.info? t=some i) (w:World):(sizeOf t).run P w=.ok i.size w:=by simp [sizeOf,zbp h]
def zlt:TypeDesc→Bool | .struct _=>true | .array _ _=>true | _=>false
theorem zso (h:P.underlying t=some d) (w:World):(isAgg t).run P w=.ok (zlt d) w:=by
 unfold isAgg;cases d<;>simp [zC h,zlt]
variable {β:Type}
theorem PC.sz_or (pc:PC) (t:Nat) (d:β) (k:Nat→β):pc.sz t d k=d∨∃ i,pc.info t=some i∧pc.sz t d k=k i.size:=by
 unfold PC.sz
 cases hi:pc.info t with
 | none=>exact .inl rfl
 | some i=>exact .inr ⟨i,rfl,by simp only [zE]⟩
theorem PC.by_or (pc:PC) (t:Nat) (d:β) (k:Nat→β):pc.by t d k=d∨∃ i,pc.info t=some i∧pc.by t d k=k i.bytes:=by
 unfold PC.by
 cases hi:pc.info t with
 | none=>exact .inl rfl
 | some i=>exact .inr ⟨i,rfl,by simp only [zE]⟩
theorem PC.ag_or (pc:PC) (t:Nat) (d:β) (k:Bool→β):pc.ag t d k=d∨∃ u,pc.und t=some u∧pc.ag t d k=k (zlt u):=by
 unfold PC.ag
 cases hi:pc.und t with
 | none=>exact .inl rfl
 | some i=>exact .inr ⟨i,rfl,by cases i<;>rfl⟩
theorem zbd (b:Bool) (d k:β):chk b d k=d∨(b=true∧chk b d k=k):=by cases b<;>simp [chk]
theorem ziL (l:List V):zk5 l=l.length:=yy l id
variable {v:V} {ν:Val}
theorem zyj {x:Value} (h:VR ν v x) (I:v≠.bad) (J:∀ t l,v≠.ls t l):x.oneCell'=true:=by
 cases v with
 | bad=>exact absurd rfl I
 | ls t l=>exact absurd rfl (J t l)
 | nat k n=>simp only [VR] at h;subst h;rfl
 | neg k n=>simp only [VR] at h;subst h;rfl
 | bool b=>simp only [VR] at h;subst h;rfl
 | str l=>obtain ⟨s,rfl,_⟩:=h;rfl
 | ptr a v o=>obtain ⟨b,q,_,rfl⟩:=h;rfl
 | sl a v o len cap=>obtain ⟨b,q,_,rfl,_⟩:=h;rfl
 | so a v o len e=>obtain ⟨b,q,cap,_,rfl,_⟩:=h;rfl
 | nil t =>
  rcases t with _ | _ | _ | _ | _ | t<;>simp only [VR] at h
  all_goals (subst h;rfl)
 | ref t a =>
  rcases t with _ | _ | _ | _ | t
  ·obtain ⟨b,_,rfl⟩:=h;rfl
  ·obtain ⟨_,_,rfl⟩:=VR.ref1 h;rfl
  ·exact h.elim
  ·obtain ⟨b,_,rfl⟩:=h;rfl
  ·exact h.elim
 | fn f a b=>obtain ⟨c,d,_,_,rfl⟩:=h;rfl
 | ifc t v=>obtain ⟨y,_,rfl⟩:=h;rfl
theorem zhE {x:Value} (h:x.oneCell'=true):x.cells=#[x]:=by cases x<;>first | rfl | cases h
theorem PC.zero_ok {pc:PC} (Z:PcOk P pc) {t:Nat} (h:pc.zero t≠.bad):∃ z,∀ w,(zeroValue t).run P w=.ok z w∧∀ ν,VR ν (pc.zero t) z:=by
 unfold PC.zero at *
 cases hi:pc.info t with
 | none=>rw [hi] at h;exact absurd rfl h
 | some i =>
  rw [hi] at h
  simp only at h ⊢
  cases hz:i.zero with
  | none=>rw [hz] at h;exact absurd rfl h
  | some v =>
   rw [hz] at h
   exact ⟨v,fun w=>⟨by simp [zeroValue,zbp (Z.info t i hi),hz],fun ν=>zqB ν v h⟩⟩
theorem PC.zc_or {pc:PC} (Z:PcOk P pc) (t:Nat) (d:β) (k:List V→β):pc.zc t d k=d∨∃ zc,pc.zc t d k=k zc∧∃ z:Value,(∀ w,(zeroValue t).run P w=.ok z w)∧(∀ ν,VRs ν zc z.cells.toList)∧(∀ y∈z.cells.toList,y.oneCell'=true):=by
 unfold PC.zc
 cases hz:pc.zero t with
 | bad=>exact .inl rfl
 | ls u l =>
  rcases u with _ | u
  ·right
   obtain ⟨z,I⟩:=PC.zero_ok Z (t:=t) (by rw [hz];simp)
   refine ⟨l,rfl,z,fun w=>(I w).1,fun ν=>?_,?_⟩
   ·have:=(I default).2 ν
    rw [hz] at this
    obtain ⟨c,J,rfl,Q⟩:=this
    simpa [Value.cells] using J
   ·have:=(I default).2 ⟨fun _ _=>none,fun _ _=>0,fun _=>0⟩
    rw [hz] at this
    obtain ⟨c,J,rfl,Q⟩:=this
    simpa [Value.cells] using Q
  ·exact .inl rfl
 | _ =>
  right
  obtain ⟨z,I⟩:=PC.zero_ok Z (t:=t) (by rw [hz];simp)
  rw [hz] at I
  have A:z.oneCell'=true:=zyj ((I default).2 ⟨fun _ _=>none,fun _ _=>0,fun _=>0⟩) (by simp) (by simp)
  refine ⟨_,rfl,z,fun w=>(I w).1,fun ν=>?_,?_⟩
  ·rw [zhE A];exact ⟨z,[],rfl,(I default).2 ν,rfl⟩
  ·rw [zhE A];intro y Y;simp at Y;subst Y;exact A
theorem zfr {pc:PC} {ds:List Nat} (C:o.op=.nilCheck x):jn P pc fi ds o:=by
 refine zbx (x:=x) (X:=yf) (by simp only [op,C]) (by simp [C,Op.operands]) (fun v c G=>?_)
 have key:∀ (L:Val) (D:Array Value),VR L v (ev D x)→(ev D x≠.pointer none∧ev D x≠.nilIface∧ev D x≠.nilFunc∧∀ f a b,ev D x=.func f a b→∀ n,f≠.method n)→∃ T,VR L v T∧∀ w,(execOp (ev D) o).run P w=.ok (.value T) w:=by
  intro L D E ⟨I,J,Q,K⟩
  refine ⟨_,E,fun w=>?_⟩
  simp only [execOp,C]
  generalize ev D x=y at *
  cases y<;>first
   | (rename_i f a b;cases f<;>first | rfl | exact absurd rfl (K _ _ _ rfl _))
   | (rename_i a;cases a<;>first | rfl | exact absurd rfl I)
   | rfl
   | exact absurd rfl J
   | exact absurd rfl Q
 cases v with
 | bad=>exact absurd trivial G
 | nil t=>exact absurd trivial G
 | fn f a b =>
  cases f with
  | func f =>
   refine ⟨_,rfl,fun L D E=>key L D E ?_⟩
   obtain ⟨c,d,_,_,e⟩:=E
   rw [e]
   refine ⟨by simp,by simp,by simp,fun f a b h n=>by simp at h;rw [←h.1];simp⟩
  | _=>exact absurd trivial G
 | ref t a =>
  unfold yf at G
  simp only at G
  cases H:Nat.beq t 3 with
  | true=>rw [H] at G;exact absurd trivial G
  | false =>
   refine ⟨.ref t a,by simp only [yf,H],fun L D E=>key L D E ?_⟩
   rcases t with _ | _ | _ | _ | t
   ·obtain ⟨b,_,e⟩:=E;rw [e];simp
   ·obtain ⟨_,_,e⟩:=VR.ref1 E;rw [e];simp
   ·exact E.elim
   ·simp at H
   ·exact E.elim
 | nat k n=>exact ⟨_,rfl,fun L D E=>key L D E (by simp only [VR] at E;rw [E];simp)⟩
 | neg k n=>exact ⟨_,rfl,fun L D E=>key L D E (by simp only [VR] at E;rw [E];simp)⟩
 | bool b=>exact ⟨_,rfl,fun L D E=>key L D E (by simp only [VR] at E;rw [E];simp)⟩
 | str l=>exact ⟨_,rfl,fun L D E=>key L D E (by obtain ⟨s,e,_⟩:=E;rw [e];simp)⟩
 | ptr a v o=>exact ⟨_,rfl,fun L D E=>key L D E (by obtain ⟨b,q,_,e⟩:=E;rw [e];simp)⟩
 | sl a v o len cap=>exact ⟨_,rfl,fun L D E=>key L D E (by obtain ⟨b,q,_,e,_⟩:=E;rw [e];simp)⟩
 | so a v o len e=>exact ⟨_,rfl,fun L D E=>key L D E (by obtain ⟨b,q,cap,_,e,_⟩:=E;rw [e];simp)⟩
 | ls t l=>exact ⟨_,rfl,fun L D E=>key L D E (by
   obtain ⟨c,_,e⟩:=E
   rcases t with _ | _ | t
   ·rw [e.1];simp
   ·rw [e];simp
   ·exact e.elim)⟩
 | ifc t v=>exact ⟨_,rfl,fun L D E=>key L D E (by obtain ⟨y,_,e⟩:=E;rw [e];simp)⟩
variable {l:List V}
theorem ztG {o:Nat} {c:V→A} (G:¬(zvU o l c (.bad m)).isBad):∃ x,l[o]?=some x∧c x=zvU o l c (.bad m):=by
 induction o generalizing l with
 | zero=>cases l with
  | nil=>exact absurd trivial G
  | cons x l=>exact ⟨x,rfl,rfl⟩
 | succ o X=>cases l with
  | nil=>exact absurd trivial G
  | cons x l =>
   have e:zvU (o+1) (x::l) c (.bad m)=zvU o l c (.bad m):=rfl
   rw [e] at G ⊢
   simpa using X G
theorem zgi {pc:PC} {ds:List Nat} {i:Nat} (C:o.op=.extract x i):jn P pc fi ds o:=by
 refine zbx (x:=x) (X:=zz i) (by simp only [op,C,zE]) (by simp [C,Op.operands]) (fun v c G=>?_)
 cases v with
 | ls t l =>
  unfold zz at G ⊢
  simp only at G ⊢
  cases H:Nat.beq t 1 with
  | false=>rw [H] at G;exact absurd trivial G
  | true =>
   have F:t=1:=kac H
   subst F
   obtain ⟨z,I,J⟩:=ztG G
   refine ⟨z,J,fun L D E=>?_⟩
   obtain ⟨m,Q,K⟩:=E
   obtain ⟨y,d,W⟩:=Q.get i z I
   refine ⟨y,W,fun w=>?_⟩
   have K:ev D x=.tuple ⟨m⟩:=K
   simp [execOp,C,K,Instr.extract,d]
 | _=>exact absurd trivial G
variable {c:List Value}
theorem VRs.drop (h:VRs ν l c) (n:Nat):VRs ν (l.drop n) (c.drop n):=by
 refine VRs.of_get (by simp [h.length]) fun i x hi=>?_
 rw [List.getElem?_drop] at hi ⊢
 exact h.get _ _ hi
theorem VRs.take (h:VRs ν l c) (n:Nat):VRs ν (l.take n) (c.take n):=by
 refine VRs.of_get (by simp [h.length]) fun i x hi=>?_
 rw [List.getElem?_take] at hi ⊢
 split at hi
 ·rename_i O;rw [if_pos O];exact h.get _ _ hi
 ·cases hi
variable {ag:Bool} {off sz:Nat}
theorem ztX {c:V→A} (G:¬(zkD ag off sz v c).isBad):∃ z,c z=zkD ag off sz v c∧∀ (ν:Val) (a:Value),VR ν v a→∃ cs,a=.agg cs∧∀ t i u,P.info? t=some i→i.size=sz→P.underlying t=some u→zlt u=ag→∃ T,VR ν z T∧∀ w,(part t cs off).run P w=.ok T w:=by
 cases v with
 | ls t l =>
  unfold zkD at G ⊢
  simp only at G ⊢
  cases H:Nat.beq t 0 with
  | false=>rw [H] at G;exact absurd trivial G
  | true =>
   have F:t=0:=kac H
   subst F
   simp only [H] at G ⊢
   cases ag with
   | true =>
    refine ⟨_,by simp only [jY,zgX];rfl,fun ν a E=>?_⟩
    obtain ⟨m,Q,K,d⟩:=E
    refine ⟨⟨m⟩,K,fun t i u hi C hu X=>⟨.agg (Array.extract ⟨m⟩ off (off+sz)),⟨(m.drop off).take sz,(Q.drop off).take sz,?_,fun y Y=>d y (List.mem_of_mem_drop (List.mem_of_mem_take Y))⟩,fun w=>?_⟩⟩
    ·congr 1
     apply Array.ext'
     simp [List.extract_eq_take_drop]
    ·simp [part,zso hu,X,qN hi,C]
   | false =>
    obtain ⟨z,I,J⟩:=ztG G
    refine ⟨z,J,fun ν a E=>?_⟩
    obtain ⟨m,Q,K,d⟩:=E
    obtain ⟨y,W,g⟩:=Q.get off z I
    refine ⟨⟨m⟩,K,fun t i u hi C hu X=>⟨y,g,fun w=>?_⟩⟩
    simp [part,zso hu,X,W]
 | _=>exact absurd trivial G
theorem zjI {pc:PC} (Z:PcOk P pc) {ds:List Nat} {i:Nat} (C:o.op=.field t x i):jn P pc fi ds o:=by
 have e:op pc fi ds o=op pc fi ds o:=rfl
 conv at e=>rhs;simp only [op,C]
 cases hu:pc.und t with
 | none=>rw [hu] at e;exact zX e
 | some d =>
  rw [hu] at e
  cases d with
  | struct A =>
   simp only at e
   cases B:A[i]? with
   | none=>rw [B] at e;exact zX e
   | some U =>
    rw [B] at e
    simp only [zE] at e
    rcases PC.ag_or pc U.type (zO 0) _ with h | ⟨u,f,h⟩
    ·exact zX (e.trans h)
    ·rw [h] at e
     rcases PC.sz_or pc U.type (zO 0) _ with h | ⟨j,r,h⟩
     ·exact zX (e.trans h)
     ·rw [h] at e
      refine zbx e (by simp [C,Op.operands]) (fun v c G=>?_)
      obtain ⟨z,I,J⟩:=ztX (P:=P) G
      refine ⟨z,I,fun L D E=>?_⟩
      obtain ⟨M,Q,K⟩:=J L _ E
      obtain ⟨T,g,W⟩:=K _ j u (Z.info _ _ r) rfl (Z.und f) rfl
      refine ⟨T,g,fun w=>?_⟩
      simp [execOp,C,Instr.field,zC (Z.und hu),B,Q,asAgg,W]
  | _=>exact zX e
theorem zjJ {pc:PC} (Z:PcOk P pc) {ds:List Nat} (C:o.op=.index t x y):jn P pc fi ds o:=by
 have e:op pc fi ds o=op pc fi ds o:=rfl
 conv at e=>rhs;simp only [op,C]
 cases hu:pc.und t with
 | none=>rw [hu] at e;exact zX e
 | some d =>
  rw [hu] at e
  cases d with
  | array n el =>
   simp only [zE] at e
   rcases PC.ag_or pc el (zO 0) _ with h | ⟨u,f,h⟩
   ·exact zX (e.trans h)
   ·rw [h] at e
    rcases PC.sz_or pc el (zO 0) _ with h | ⟨j,r,h⟩
    ·exact zX (e.trans h)
    ·rw [h] at e
     refine zja e (by simp [C,Op.operands]) (by simp [C,Op.operands]) (fun v B c G=>?_)
     cases B with
     | nat k m =>
      unfold zi9 at G ⊢
      simp only at G ⊢
      cases Y:Nat.blt m n with
      | false=>rw [Y] at G;exact absurd trivial G
      | true =>
       have R:m<n:=by simpa [Nat.blt_eq] using Y
       simp only [Y] at G ⊢
       obtain ⟨z,I,J⟩:=ztX (P:=P) G
       refine ⟨z,I,fun L D E F=>?_⟩
       obtain ⟨M,Q,K⟩:=J L _ E
       obtain ⟨T,g,W⟩:=K _ j u (Z.info _ _ r) rfl (Z.und f) rfl
       refine ⟨T,g,fun w=>?_⟩
       simp only [VR] at F
       have W:∀ w,(part el M (m*j.size)).run P w=.ok T w:=W
       simp [execOp,C,Instr.index,zC (Z.und hu),F,Q,asIntOf,R,qN (Z.info _ _ r),W]
     | _=>exact absurd trivial G
  | string =>
   refine zja e (by simp [C,Op.operands]) (by simp [C,Op.operands]) (fun v B c G=>?_)
   cases B with
   | nat k m =>
    cases v with
    | str l =>
     unfold zD at G ⊢
     simp only at G ⊢
     have key:∀ (m:Nat) (l:List Nat) (c:Nat→A),¬(zoT m l c eA).isBad→∃ z,l[m]?=some z∧c z=zoT m l c eA:=by
      intro m
      induction m with
      | zero=>intro l c G;cases l with
       | nil=>exact absurd trivial G
       | cons x l=>exact ⟨x,rfl,rfl⟩
      | succ m X=>intro l c G;cases l with
       | nil=>exact absurd trivial G
       | cons x l =>
        have e:zoT (m+1) (x::l) c eA=zoT m l c eA:=rfl
        rw [e] at G ⊢
        simpa using X l c G
     obtain ⟨z,I,J⟩:=key _ _ _ G
     refine ⟨.nat .u8 z,J,fun L D E F=>⟨.int .u8 (Int.ofNat z),rfl,fun w=>?_⟩⟩
     simp only [VR] at F
     obtain ⟨s,Q,K⟩:=E
     have g:s[m]?=some (UInt8.ofNat z)∧z<256:=by
      rw [←K] at I
      unfold zP at I
      rw [kaD] at I
      cases U:s.data.toList[m]? with
      | none=>rw [U] at I;cases I
      | some b =>
       rw [U] at I
       simp only [Option.map_some,Option.some.injEq] at I
       subst I
       refine ⟨?_,b.toNat_lt⟩
       have O:m<s.data.size:=by
        have:=(kaE.1 U).1;simpa using this
       have N:m<s.size:=O
       rw [getElem?_pos s m N]
       have:=(kaE.1 U).2
       have H:s[m]=b:=by rw [←this];rfl
       rw [H];simp
     have W:(0:Int)≤(m:Int):=Int.natCast_nonneg m
     have S:(UInt8.ofNat z).toNat=z:=by simp;omega
     simp [execOp,C,Instr.index,zC (Z.und hu),F,Q,asIntOf,g.1,W]
     omega
    | _=>exact absurd trivial G
   | _=>exact absurd trivial G
  | _=>exact zX e
theorem PC.size_of {pc:PC} {t:Nat} (h:pc.info t=some i):pc.size t=i.size:=by simp [PC.size,h]
theorem jx (b x n:Nat):(⟨b,x,none⟩:Addr).add n=⟨b,x+n,none⟩:=by unfold Addr.add;split<;>simp_all
theorem zel {pc:PC} (Z:PcOk P pc) {ds:List Nat} {i:Nat} (C:o.op=.fieldAddr t x i):jn P pc fi ds o:=by
 have e:op pc fi ds o=op pc fi ds o:=rfl
 conv at e=>rhs;simp only [op,C]
 cases hu:pc.und t with
 | none=>rw [hu] at e;exact zX e
 | some d =>
  rw [hu] at e
  cases d with
  | struct A =>
   simp only at e
   cases B:A[i]? with
   | none=>rw [B] at e;exact zX e
   | some U =>
    rw [B] at e
    simp only at e
    rcases PC.sz_or pc U.type (zO 0) _ with h | ⟨j,r,h⟩
    ·exact zX (e.trans h)
    ·rw [h] at e
     rcases zbd (!(Nat.beq j.size 0)) (zO 0) _ with h | ⟨hz,h⟩
     ·exact zX (e.trans h)
     ·rw [h] at e
      simp only [zE] at e
      have T:j.size≠0:=fun k=>by rw [k] at hz;cases hz
      refine zbx e (by simp [C,Op.operands]) (fun v c G=>?_)
      cases v with
      | ptr a v p =>
       refine ⟨_,by simp only [zb,zE];rfl,fun L D E=>?_⟩
       obtain ⟨b,q,I,J⟩:=E
       refine ⟨.pointer (some ⟨b,q+(p+U.offset),none⟩),⟨b,q,I,rfl⟩,fun w=>?_⟩
       simp [execOp,C,Instr.fieldAt,zC (Z.und hu),B,J,Instr.sureAddr,fieldPlace,qN (Z.info _ _ r),T,jx,kaI]
      | _=>exact absurd trivial G
  | _=>exact zX e
theorem zec {pc:PC} (Z:PcOk P pc) {ds:List Nat} (C:o.op=.indexAddr t x y):jn P pc fi ds o:=by
 have e:op pc fi ds o=op pc fi ds o:=rfl
 conv at e=>rhs;simp only [op,C]
 cases hu:pc.und t with
 | none=>rw [hu] at e;exact zX e
 | some d =>
  rw [hu] at e
  cases d with
  | slice el =>
   simp only at e
   rcases PC.sz_or pc el (zO 0) _ with h | ⟨j,r,h⟩
   ·exact zX (e.trans h)
   ·rw [h] at e
    refine zja e (by simp [C,Op.operands]) (by simp [C,Op.operands]) (fun v U c G=>?_)
    have key:∀ (a:K) (B i len k m:Nat) (l:IntKind) (v:V),U=.nat l m→(∀ L z,VR L v z→∃ b q cap,L.blk a B=some (b,q)∧z=.slice (some ⟨b,q+i,none⟩) len cap) →
      ze j.size v U c=(@Bool.rec (fun _=>A) eA (fN (Nat.add i (Nat.mul m j.size)) (fun o=>c (.ptr a B o))) (Nat.blt m len))→¬(ze j.size v U c).isBad →
      ∃ z,c z=ze j.size v U c∧∀ (L:Val) (D:Array Value),VR L v (ev D x)→VR L U (ev D y)→∃ T,VR L z T∧∀ w,(execOp (ev D) o).run P w=.ok (.value T) w:=by
     intro a B i len k m l v F E M G
     rw [M] at G ⊢
     cases Y:Nat.blt m len with
     | false=>rw [Y] at G;exact absurd trivial G
     | true =>
      have R:m<len:=by simpa [Nat.blt_eq] using Y
      refine ⟨_,by simp only [zE];rfl,fun L D I J=>?_⟩
      obtain ⟨b,q,cap,Q,O⟩:=E L _ I
      rw [F] at J
      simp only [VR] at J
      refine ⟨.pointer (some ⟨b,q+(i+m*j.size),none⟩),⟨b,q,Q,rfl⟩,fun w=>?_⟩
      simp [execOp,C,Instr.indexAt,zC (Z.und hu),J,O,asIntOf,R,qN (Z.info _ _ r),jx,kaI]
    cases U with
    | nat l m =>
     cases v with
     | sl a B i len cap=>exact key a B i len 0 m l _ rfl (fun L z h=>by obtain ⟨b,q,I,J,Q⟩:=h;exact ⟨b,q,cap,I,J⟩) rfl G
     | so a B i len S=>exact key a B i len 0 m l _ rfl (fun L z h=>by obtain ⟨b,q,cap,I,J,Q⟩:=h;exact ⟨b,q,cap,I,J⟩) rfl G
     | _=>exact absurd trivial G
    | _=>exact absurd trivial G
  | array n el =>
   simp only [zE] at e
   rcases PC.sz_or pc el (zO 0) _ with h | ⟨j,r,h⟩
   ·exact zX (e.trans h)
   ·rw [h] at e
    refine zja e (by simp [C,Op.operands]) (by simp [C,Op.operands]) (fun v U c G=>?_)
    cases U with
    | nat l m =>
     cases v with
     | ptr a B p =>
      unfold zcw at G ⊢
      simp only at G ⊢
      cases Y:Nat.blt m n with
      | false=>rw [Y] at G;exact absurd trivial G
      | true =>
       have R:m<n:=by simpa [Nat.blt_eq] using Y
       refine ⟨_,by simp only [zE];rfl,fun L D I J=>?_⟩
       obtain ⟨b,q,Q,O⟩:=I
       simp only [VR] at J
       refine ⟨.pointer (some ⟨b,q+(p+m*j.size),none⟩),⟨b,q,Q,rfl⟩,fun w=>?_⟩
       simp [execOp,C,Instr.indexAt,zC (Z.und hu),J,O,Instr.sureAddr,asIntOf,R,qN (Z.info _ _ r),jx,kaI]
     | _=>exact absurd trivial G
    | _=>exact absurd trivial G
  | _=>exact zX e
theorem zht {c:List V→A} (G:¬(zg sz v c).isBad):∃ xs,c xs=zg sz v c∧xs.length=sz∧∀ (ν:Val) (x:Value),VR ν v x→VRs ν xs x.cells.toList∧∀ y∈x.cells.toList,y.oneCell'=true:=by
 have one:v≠.bad→(∀ t l,v≠.ls t l)→zg sz v c=@Bool.rec (fun _=>A) eA (c [v]) (Nat.beq sz 1)→∃ xs,c xs=zg sz v c∧xs.length=sz∧∀ (ν:Val) (x:Value),VR ν v x→VRs ν xs x.cells.toList∧∀ y∈x.cells.toList,y.oneCell'=true:=by
  intro I J e
  rw [e] at G ⊢
  cases C:Nat.beq sz 1 with
  | false=>rw [C] at G;exact absurd trivial G
  | true =>
   refine ⟨[v],rfl,(kac C).symm,fun ν x M=>?_⟩
   have Q:=zyj M I J
   rw [zhE Q]
   exact ⟨⟨x,[],rfl,M,rfl⟩,fun y Y=>by simp at Y;subst Y;exact Q⟩
 cases v with
 | bad=>exact absurd trivial G
 | ls t l =>
  unfold zg at G ⊢
  simp only at G ⊢
  cases H:Nat.beq t 0 with
  | false=>rw [H] at G;exact absurd trivial G
  | true =>
   have F:t=0:=kac H
   subst F
   simp only [H,yy] at G ⊢
   cases o:Nat.beq l.length sz with
   | false=>rw [o] at G;exact absurd trivial G
   | true =>
    refine ⟨l,rfl,kac o,fun ν x M=>?_⟩
    obtain ⟨m,Q,K,d⟩:=M
    rw [K]
    exact ⟨Q,d⟩
 | _=>exact one (by simp) (by simp) rfl
theorem zl5 (off:Nat):∀ (l:List Value) (j:Nat) (cells:Array Value),off+j+l.length≤cells.size →
  ((l.zipIdx j).foldl (fun cs (p:Value × Nat)=>cs.setIfInBounds (off+p.2) p.1) cells).size=cells.size ∧
  ∀ i,((l.zipIdx j).foldl (fun cs (p:Value × Nat)=>cs.setIfInBounds (off+p.2) p.1) cells)[i]?=if off+j≤i∧i<off+j+l.length then l[i - (off+j)]? else cells[i]?
 | [],j,cells,_=>by simp;omega
 | v::l,j,cells,h=>by
  simp only [List.zipIdx_cons,List.foldl_cons,kay] at h ⊢
  obtain ⟨I,J⟩:=zl5 off l (j+1) (cells.setIfInBounds (off+j) v) (by simp;omega)
  refine ⟨by rw [I];simp,fun i=>?_⟩
  rw [J]
  have hsz:off+j<cells.size:=by omega
  by_cases hi:off+j=i
  ·subst hi
   rw [if_neg (by omega),if_pos (by omega)]
   simp [hsz]
  ·by_cases Q:off+(j+1)≤i∧i<off+(j+1)+l.length
   ·rw [if_pos Q,if_pos (by omega),show i - (off+j)=(i - (off+(j+1)))+1 by omega];simp
   ·rw [if_neg Q,if_neg (by omega),Array.getElem?_setIfInBounds_ne hi]
theorem zzn {xs cs:List V} {x:Array Value} {cells:Array Value} (I:VRs ν xs x.toList) (J:VRs ν cs cells.toList) (f:off+xs.length≤cs.length)
  (A:∀ y∈x.toList,y.oneCell'=true) (B:∀ y∈cells.toList,y.oneCell'=true) :
  VRs ν (upd xs off cs) (x.zipIdx.foldl (fun cs (p:Value × Nat)=>cs.setIfInBounds (off+p.2) p.1) cells).toList∧∀ y∈(x.zipIdx.foldl (fun cs (p:Value × Nat)=>cs.setIfInBounds (off+p.2) p.1) cells).toList,y.oneCell'=true:=by
 have e:x.zipIdx.foldl (fun cs (p:Value × Nat)=>cs.setIfInBounds (off+p.2) p.1) cells=(x.toList.zipIdx 0).foldl (fun cs (p:Value × Nat)=>cs.setIfInBounds (off+p.2) p.1) cells:=by
  rw [←Array.foldl_toList];simp
 have g:=I.length
 have G:=J.length
 obtain ⟨R,U⟩:=zl5 off x.toList 0 cells (by simp at g G ⊢;omega)
 rw [e]
 generalize (x.toList.zipIdx 0).foldl (fun cs (p:Value × Nat)=>cs.setIfInBounds (off+p.2) p.1) cells=q at *
 simp only [Nat.add_zero] at U
 constructor
 ·refine VRs.of_get ?_ fun i v hi=>?_
  ·rw [zdn _ _ _ f];simp at G ⊢;omega
  ·rw [zgN _ _ _ f] at hi
   have:=U i
   rw [g] at this
   simp only [kam]
   rw [this]
   by_cases Q:off≤i∧i<off+xs.length
   ·rw [if_pos Q] at hi ⊢
    exact I.get _ _ hi
   ·rw [if_neg Q] at hi ⊢
    simpa using J.get _ _ hi
 ·intro y Y
  obtain ⟨i,hi⟩:=List.getElem?_of_mem Y
  simp only [kam] at hi
  rw [U] at hi
  split at hi
  ·exact A y (kav hi)
  ·exact B y (by rw [←kam] at hi;exact kav hi)
theorem zr7 {fi:FI} {ds:List Nat} {n:Nat} {qy:Nat→Option (Nat × Nat)}:∀ (l:List (Nat × Operand)) (tm:T) (le:List V) (cs:List V) (c:List V→A),cs.length=n→¬((paC fi ds n qy l).run tm le cs c).isBad →
  ∃ out,c out=(paC fi ds n qy l).run tm le cs c∧out.length=n∧∀ (ν:Val) (tmps:Array Value) (cells:Array Value),yn ν fi.ng→(∀ p∈l,OdR ν fi ds tm le tmps p.2)→VRs ν cs cells.toList→(∀ y∈cells.toList,y.oneCell'=true) →
   ∃ cells',Instr.fill qy cells (l.map fun p=>(p.1,ev tmps p.2))=some cells'∧VRs ν out cells'.toList∧∀ y∈cells'.toList,y.oneCell'=true
 | [],tm,le,cs,c,o,_=>⟨cs,rfl,o,fun ν tmps cells _ _ I J=>⟨cells,rfl,I,J⟩⟩
 | (i,x)::l,tm,le,cs,c,o,G=>by
  cases D:qy i with
  | none =>
   have e:(paC fi ds n qy ((i,x)::l)).run tm le cs c=.bad 0:=by simp only [paC,D]
   rw [e] at G;exact absurd trivial G
  | some p =>
   obtain ⟨off,sz⟩:=p
   cases hb:Nat.ble (off+sz) n with
   | false =>
    have e:(paC fi ds n qy ((i,x)::l)).run tm le cs c=.bad 0:=by simp only [paC,D,hb,chk]
    rw [e] at G;exact absurd trivial G
   | true =>
    have e:(paC fi ds n qy ((i,x)::l)).run tm le cs c=(opd fi ds x).run tm le fun v=>zg sz v fun xs=>(paC fi ds n qy l).run tm le (upd xs off cs) c:=by
     simp only [paC,D,hb,chk,zE,zeU]
    rw [e] at G ⊢
    have M:off+sz≤n:=kax.mp hb
    obtain ⟨u,I,J⟩:=qf fi ds x tm le _ G
    rw [←I] at G ⊢
    obtain ⟨xs,Q,K,d⟩:=zht G
    rw [←Q] at G ⊢
    obtain ⟨out,W,S,j⟩:=zr7 l tm le (upd xs off cs) c (by rw [zdn _ _ _ (by omega)];exact o) G
    refine ⟨out,W,S,fun ν tmps cells O B X C=>?_⟩
    obtain ⟨R,U⟩:=d ν _ (J ν tmps O (B (i,x) (by simp)))
    have g:=R.length
    have E:=X.length
    obtain ⟨F,Y⟩:=zzn (off:=off) R X (by omega) U C
    obtain ⟨cells',h,a,q⟩:=j ν tmps _ O (fun p Z=>B p (by simp [Z])) F Y
    refine ⟨cells',?_,a,q⟩
    simp only [List.map_cons,Instr.fill,D]
    simp only [Array.length_toList] at g E
    rw [if_neg]
    ·exact h
    ·simp;omega
theorem zio {pc:PC} (Z:PcOk P pc) (w:World):∀ (A:List Field),zgS pc A=true →
  (A.mapM fun f=>Prod.mk f.offset <$> sizeOf f.type).run P w=.ok (A.map fun f=>(f.offset,pc.size f.type)) w
 | [],_=>by simp
 | f::A,h=>by
  simp only [zgS] at h
  cases hi:pc.info f.type with
  | none=>simp [hi] at h
  | some i =>
   rw [hi] at h
   simp [List.mapM_cons,qN (Z.info _ _ hi),zio Z w A h,PC.size_of hi]
theorem zj7 {pc:PC} (Z:PcOk P pc) {ds:List Nat} {parts:Array (Nat × Operand)} (C:o.op=.build t parts):jn P pc fi ds o:=by
 have e:op pc fi ds o=op pc fi ds o:=rfl
 conv at e=>rhs;simp only [op,C]
 have fin:∀ (zc:List V) (z:Value) (qy:Nat→Option (Nat × Nat)),(∀ w,(zeroValue t).run P w=.ok z w)→(∀ L,VRs L zc z.cells.toList)→(∀ y∈z.cells.toList,y.oneCell'=true) →
   (∀ D cells' w,Instr.fill qy z.cells (parts.toList.map fun p=>(p.1,ev D p.2))=some cells'→(execOp (ev D) o).run P w=.ok (.value (.agg cells')) w) →
   op pc fi ds o=(match paC fi ds (zk5 zc) qy parts.toList with | ⟨f⟩=>⟨fun _ N le s k=>f N le zc fun l=>k (.ls 0 l) s⟩)→jn P pc fi ds o:=by
  intro zc z qy I J Q K e r N le s k G
  have M:(op pc fi ds o).run r N le s k=(paC fi ds (zk5 zc) qy parts.toList).run N le zc fun l=>k (.ls 0 l) s:=by rw [e]
  rw [M] at G ⊢
  obtain ⟨out,R,U,g⟩:=zr7 _ N le zc _ (ziL zc).symm G
  refine ⟨_,R,fun L D O B=>?_⟩
  obtain ⟨cells',S,F,Y⟩:=g L D z.cells O (fun p Z=>B p.2 (by simp [C,Op.operands];exact ⟨p.1,by simpa using Z⟩)) (J L) Q
  exact ⟨.agg cells',⟨cells'.toList,F,rfl,Y⟩,fun w=>K D cells' w S⟩
 cases hu:pc.und t with
 | none=>rw [hu] at e;exact zX e
 | some d =>
  rw [hu] at e
  cases d with
  | struct A =>
   simp only at e
   rcases zbd (zgS pc A.toList) (zO 0) _ with h | ⟨H,h⟩
   ·exact zX (e.trans h)
   ·rw [h] at e
    rcases PC.zc_or Z t (zO 0) _ with h | ⟨zc,h,z,hz,q,T⟩
    ·exact zX (e.trans h)
    ·rw [h] at e
     refine fin zc z _ hz q T (fun D cells' w X=>?_) e
     have u:Instr.fill (fun x=>((A.toList.map fun f=>(f.offset,pc.size f.type))[x]?)) z.cells (parts.toList.map fun p=>(p.1,ev D p.2))=some cells':=by
      rw [←X];congr 1;funext i;simp
     simp only [execOp,C]
     have hb:(Instr.build t (parts.map fun p=>(p.1,ev D p.2))).run P w=.ok (.agg cells') w:=by
      simp only [kaD,kam] at u
      simp [Instr.build,zC (Z.und hu),hz,Array.mapM_eq_mapM_toList,zio Z w _ H,u]
     simp [hb]
  | array n el =>
   simp only at e
   rcases PC.sz_or pc el (zO 0) _ with h | ⟨j,E,h⟩
   ·exact zX (e.trans h)
   ·rw [h] at e
    rcases PC.zc_or Z t (zO 0) _ with h | ⟨zc,h,z,hz,q,T⟩
    ·exact zX (e.trans h)
    ·rw [h] at e
     refine fin zc z _ hz q T (fun D cells' w X=>?_) e
     simp only [execOp,C]
     have hb:(Instr.build t (parts.map fun p=>(p.1,ev D p.2))).run P w=.ok (.agg cells') w:=by
      simp [Instr.build,zC (Z.und hu),hz,qN (Z.info _ _ E),X]
     simp [hb]
  | _=>exact zX e
variable {j:IntKind} {dst src:TypeId}
theorem zos {pc:PC} (Z:PcOk P pc) {ds:List Nat} {i:IntKind} (C:o.op=.convert src dst x) (I:pc.und src=some (.int i)) (J:pc.und dst=some (.int j)):jn P pc fi ds o:=by
 refine zbx (x:=x) (X:=zW j) (by simp only [op,C,I,J,zwb]) (by simp [C,Op.operands]) (fun v c G=>?_)
 cases v with
 | nat k n =>
  refine ⟨_,by simp only [zW,jh];rfl,fun L D E=>⟨_,zds L _ _,fun w=>?_⟩⟩
  simp only [VR] at E
  simp [execOp,C,E,convert,zC (Z.und I),zC (Z.und J),Conv.intToInt]
 | neg k n =>
  refine ⟨_,by simp only [zW,yN];rfl,fun L D E=>⟨_,zds L _ _,fun w=>?_⟩⟩
  simp only [VR] at E
  simp [execOp,C,E,convert,zC (Z.und I),zC (Z.und J),Conv.intToInt,toI]
 | _=>exact absurd trivial G
theorem ztI (q:EK) (c:EK→β):fK q c=c q:=by
 obtain ⟨k,qs⟩:=q
 show fN k (fun k=>c ⟨k,qs⟩)=_
 rw [zE]
theorem ztj (b:Bool) (c:Bool→β):cB b c=c b:=by cases b<;>rfl
theorem zl3 {op:BinOp} (B:op=.shl∨op=.shr) (k j:IntKind) (a:Int) (n:Nat) (t:TypeId) (e i:Operand) (w:World) :
  ((do eqGuard op t e i (.int k a) (.int j (.ofNat n));binOp op t (.int k a) (.int j (.ofNat n))):Sem Value).run P w =
   .ok (if op=.shl then .int k (k.wrap (a*2 ^ (min n k.bits))) else .int k (a.fdiv (2 ^ (min n k.bits)))) w:=by
 have h0:¬(Int.ofNat n<0):=by have:=Int.natCast_nonneg n;simp only [Int.ofNat_eq_natCast];omega
 rcases B with rfl | rfl
 ·simp only [eqGuard,binOp,Op.shift,h0,if_false];rfl
 ·simp only [eqGuard,binOp,Op.shift,h0,if_false];rfl
variable {k:IntKind} {n:Nat}
theorem ztv {op:BinOp} (B:op=.shl∨op=.shr) {x:V} {c:V→A} :
  ∃ v,c v=zxE op k x n c∧∀ ν,VR ν v (if op=.shl then .int k (k.wrap (toI x*2 ^ (min n k.bits))) else .int k ((toI x).fdiv (2 ^ (min n k.bits)))):=by
 rcases B with rfl | rfl
 ·refine ⟨_,by simp only [zxE,zE,yN];rfl,fun ν=>?_⟩
  have e:Int.mul (toI x) (Int.ofNat (Nat.pow 2 (min n k.bits)))=toI x*2 ^ (min n k.bits):=by
   show toI x*((2 ^ (min n k.bits):Nat):Int)=_
   rw [Int.natCast_pow];rfl
  rw [if_pos rfl,e];exact zds ν _ _
 ·refine ⟨_,by simp only [zxE,zE,zru];rfl,fun ν=>?_⟩
  have e:(Int.ofNat (Nat.pow 2 (min n k.bits)))=(2:Int) ^ (min n k.bits):=by
   show ((2 ^ (min n k.bits):Nat):Int)=_
   rw [Int.natCast_pow];rfl
  rw [if_neg (by decide),e];exact zds ν _ _
theorem zlV {op:BinOp} (B:op=.shl∨op=.shr) {x y:V} {c:V→A} (G:¬(wb op x y c).isBad) :
  ∃ v,c v=wb op x y c∧∀ {ν:Val} {a b:Value},VR ν x a→VR ν y b→∃ z,VR ν v z∧∀ t e i w,((do eqGuard op t e i a b;binOp op t a b):Sem Value).run P w=.ok z w:=by
 cases y with
 | nat j n =>
  cases x with
  | nat k m =>
   obtain ⟨v,I,J⟩:=ztv (op:=op) B (k:=k) (x:=.nat k m) (n:=n) (c:=c)
   refine ⟨v,I,fun {ν a b} U hb=>⟨_,J ν,fun t e i w=>?_⟩⟩
   simp only [VR] at U hb
   rw [U,hb];exact zl3 B k j _ n t e i w
  | neg k m =>
   obtain ⟨v,I,J⟩:=ztv (op:=op) B (k:=k) (x:=.neg k m) (n:=n) (c:=c)
   refine ⟨v,I,fun {ν a b} U hb=>⟨_,J ν,fun t e i w=>?_⟩⟩
   simp only [VR] at U hb
   rw [U,hb];exact zl3 B k j _ n t e i w
  | _=>exact absurd trivial G
 | _=>exact absurd trivial G
variable {q:TypeId}
theorem zqS {pc:PC} (Z:PcOk P pc) {ds:List Nat} {b:BinOp} (C:o.op=.binOp b t x y q) (F:b=.eql∨b=.neq→(isC x || isC y || !(Nat.beq (pc.eqKind t).k 1))=true):jn P pc fi ds o:=by
 intro r N le s k G
 have fin:∀ (X:V→V→(V→A)→A) (S:Bool),(S=true→isC x=true∨isC y=true)→op pc fi ds o=bi fi ds x y (fun u v s k=>X u v fun z=>k z s) →
   (∀ u v c,¬(X u v c).isBad→∃ z,c z=X u v c∧∀ {L:Val} {a W:Value},VR L u a→VR L v W→∃ T,VR L z T∧∀ Y f w,(S=true→isC Y=true∨isC f=true)→((do eqGuard b t Y f a W;binOp b t a W):Sem Value).run P w=.ok T w) →
   ∃ v,k v s=(op pc fi ds o).run r N le s k∧∀ L D,yn L fi.ng→zfS L fi ds N le D o→∃ y,VR L v y∧∀ w,(execOp (ev D) o).run P w=.ok (.value y) w:=by
  intro X S g e n
  rw [e,zfx] at G ⊢
  obtain ⟨u,I,J⟩:=qf fi ds x N le _ G
  rw [←I] at G ⊢
  obtain ⟨v,Q,K⟩:=qf fi ds y N le _ G
  rw [←Q] at G ⊢
  obtain ⟨z,d,H⟩:=n u v _ G
  refine ⟨z,d,fun L D O B=>?_⟩
  obtain ⟨T,M,j⟩:=H (J L D O (B _ (by simp [C,Op.operands]))) (K L D O (B _ (by simp [C,Op.operands])))
  refine ⟨T,M,fun w=>?_⟩
  have:=j x y w g
  simp only [execOp,C]
  rw [Sem.run_bind,this];rfl
 by_cases I:b=.shl
 ·subst I
  exact fin (wb .shl) false (by simp) (by simp only [op,C]) (fun u v c G=>by
   obtain ⟨z,R,U⟩:=zlV (P:=P) (.inl rfl) G
   exact ⟨z,R,fun {L a W} l m=>by obtain ⟨T,i,E⟩:=U l m;exact ⟨T,i,fun Y f w _=>E t Y f w⟩⟩)
 ·by_cases J:b=.shr
  ·subst J
   exact fin (wb .shr) false (by simp) (by simp only [op,C]) (fun u v c G=>by
    obtain ⟨z,R,U⟩:=zlV (P:=P) (.inr rfl) G
    exact ⟨z,R,fun {L a W} l m=>by obtain ⟨T,i,E⟩:=U l m;exact ⟨T,i,fun Y f w _=>E t Y f w⟩⟩)
  ·by_cases Q:b=.eql∨b=.neq
   ·refine fin (zw (pc.eqKind t) (isC x || isC y) b) (isC x || isC y) (by simp) ?_ (fun u v c G=>?_)
    ·have p:=F Q
     rcases Q with rfl | rfl<;>simp only [op,C,ztI,ztj,p]
    ·obtain ⟨z,R,U⟩:=znC (P:=P) Z (t:=t) ⟨I,J⟩ (fun _=>rfl) G
     exact ⟨z,R,fun {L a W} l m=>U l m⟩
   ·refine fin (zw ⟨9,[]⟩ false b) false (by simp) ?_ (fun u v c G=>?_)
    ·cases b<;>first | (simp only [op,C];done) | exact absurd rfl I | exact absurd rfl J | exact absurd (.inl rfl) Q | exact absurd (.inr rfl) Q
    ·obtain ⟨z,R,U⟩:=znC (P:=P) Z (t:=t) ⟨I,J⟩ (fun h=>absurd h Q) G
     exact ⟨z,R,fun {L a W} l m=>U l m⟩
theorem zoQ {b:B} (h:zvg b=true):∃ l n el D W,b=.row l n el D W 0 0∧n≠0:=by
 cases b with
 | row l n el D W f1 f2 =>
  have e:zvg (.row l n el D W f1 f2)=(match Nat.beq n 0 with | true=>false | false=>Nat.beq f1 0 && Nat.beq f2 0):=rfl
  rw [e] at h
  cases o:Nat.beq n 0 with
  | true=>rw [o] at h;cases h
  | false =>
   rw [o] at h
   simp only [kaf] at h
   obtain rfl:=kac h.1
   obtain rfl:=kac h.2
   exact ⟨l,n,el,D,W,rfl,fun k=>by rw [k] at o;cases o⟩
 | _=>cases h
variable {c:Array Value} {b:Nat} {E:Nat × Nat} {e el:TypeId} {w:World}
theorem zCz (h:P.underlying t=some (.pointer e)) (C:P.info? e=some i) (hz:i.size≠0) {b':Nat} (hb:b≠b') (o p:Nat) {z:Array Value} {O:TypeId} {V:Nat × Nat}
  (I:w.heap[b]?=some (.cells c el E)) (J:w.heap[b']?=some (.cells z O V)) (f1:E.1=E.2) (f2:V.1=V.2):(Op.equal t (.pointer (some ⟨b,o,none⟩)) (.pointer (some ⟨b',p,none⟩))).run P w=.ok false w:=by
 have R:=zyL I f1
 have U:=zyL J f2
 refine zK t _ _ w _ fun d=>?_
 simp [Op.equalIn,run_underlying h,sizeOf,typeInfo,C,hz,sameAddr,hb,R,U,noView,viewAt,World.shape?,mayBeOne,stringish,I,J]
variable {s:S}
theorem zuU {pc:PC} (Z:PcOk P pc) (F:(pc.eqKind t).k=1) {neg:Bool} {x y:V} {c:V→A} (G:¬(zdc (pc.eqKind t) neg x y s c).isBad) :
  ∃ v,c v=zdc (pc.eqKind t) neg x y s c∧∀ {ν:Val} {a b:Value} {w:World},zq1 P ν s w→VR ν x a→VR ν y b→∃ z,VR ν v z∧∀ xo yo,((do eqGuard (if neg then .neq else .eql) t xo yo a b;binOp (if neg then .neq else .eql) t a b):Sem Value).run P w=.ok z w:=by
 have other:∀ {r:A},r=zw (pc.eqKind t) false (if neg then .neq else .eql) x y c→¬r.isBad→∃ v,c v=r∧∀ {ν:Val} {a b:Value} {w:World},zq1 P ν s w→VR ν x a→VR ν y b→∃ z,VR ν v z∧∀ xo yo,((do eqGuard (if neg then .neq else .eql) t xo yo a b;binOp (if neg then .neq else .eql) t a b):Sem Value).run P w=.ok z w:=by
  intro r N G
  subst N
  obtain ⟨v,I,J⟩:=znC (P:=P) Z (t:=t) (q:=pc.eqKind t) (op:=if neg then .neq else .eql) (by cases neg<;>simp) (fun _=>rfl) G
  refine ⟨v,I,fun {ν a b w} _ l hb=>?_⟩
  obtain ⟨z,Q,O⟩:=J l hb
  exact ⟨z,Q,fun xo yo=>O xo yo w (fun h=>by cases h)⟩
 have nm:(match neg with | true=>BinOp.neq | false=>.eql)=(if neg then .neq else .eql):=by cases neg<;>rfl
 unfold zdc at G ⊢
 split at G
 ·rename_i ka v o kb u p
  cases hb:K.beq ka kb with
  | true =>
   rw [hb] at G
   exact other (by cases neg<;>rfl) G
  | false =>
   rw [hb] at G
   simp only [qb] at G ⊢
   cases f:zvg (Tr.get B.none ka s.h) && zvg (Tr.get B.none kb s.h) with
   | false=>rw [f] at G;exact absurd trivial G
   | true =>
    refine ⟨.bool neg,rfl,fun {ν a b w} m l M=>⟨.bool neg,rfl,fun xo yo=>?_⟩⟩
    obtain ⟨D,aa,R,rfl⟩:=l
    obtain ⟨W,ad,U,rfl⟩:=M
    rw [kaf] at f
    obtain ⟨g,n1,aj,ak,al,Y,z1⟩:=zoQ f.1
    obtain ⟨l2,n2,an,ao,aq,H,z2⟩:=zoQ f.2
    have L:D≠W:=by
     rintro rfl
     have:=m.2 _ _ _ _ _ _ _ R U (by rw [Y];trivial) (by rw [H];trivial)
     rw [(K.beq_iff _ _).2 this] at hb
     cases hb
    have j:=m.1 ka
    have E:=m.1 kb
    rw [Y] at j
    rw [H] at E
    obtain ⟨c1,ae,m1,-,m2,-⟩:=RowR.at_ j v D aa R
    obtain ⟨c2,ah,m3,-,m4,-⟩:=RowR.at_ E u W ad U
    have f1:ae.1=ae.2:=by
     rcases m2 with h | h | h<;>omega
    have f2:ah.1=ah.2:=by
     rcases m4 with h | h | h<;>omega
    unfold PC.eqKind at F
    cases hu:pc.und t with
    | none=>rw [hu] at F;cases F
    | some d =>
     rw [hu] at F
     have C:=Z.und hu
     cases d with
     | pointer e =>
      simp only at F
      cases hz:Nat.beq (pc.size e) 0 with
      | true=>rw [hz] at F;cases F
      | false =>
       have T:pc.size e≠0:=fun k=>by rw [k] at hz;cases hz
       obtain ⟨i,hi,ai⟩:=PC.size_ne Z T
       have n:=zCz (P:=P) (w:=w) C hi (by rw [ai];exact T) L (aa+o) (ad+p) m1 m3 f1 f2
       have X:zuD P t false (.pointer (some ⟨D,aa+o,none⟩)) (.pointer (some ⟨W,ad+p,none⟩)):=jf (fun e=>by cases e) (fun _ _ e=>by cases e)
       rw [Sem.run_bind,X _ _ _ _ (fun h=>by cases h)]
       cases neg<;>simp [binOp,n]
     | _ =>
      first
      | (cases F;done)
      | (simp only at F;split at F<;>cases F)
 ·exact other (by cases neg<;>rfl) G
theorem zp6 {pc:PC} (Z:PcOk P pc) {ds:List Nat} {b:BinOp} (C:o.op=.binOp b t x y q):wi P pc fi ds o:=by
 by_cases F:b=.eql∨b=.neq→(isC x || isC y || !(Nat.beq (pc.eqKind t).k 1))=true
 ·exact (zqS Z C F).read
 ·have hb:b=.eql∨b=.neq:=Classical.byContradiction fun h=>F fun J=>absurd J h
  have g:(isC x || isC y || !(Nat.beq (pc.eqKind t).k 1))=false:=by
   cases g:(isC x || isC y || !(Nat.beq (pc.eqKind t).k 1)) with
   | false=>rfl
   | true=>exact absurd (fun _=>g) F
  have I:(pc.eqKind t).k=1:=by
   cases h:Nat.beq (pc.eqKind t).k 1 with
   | true=>exact kac h
   | false=>rw [h] at g;simp at g
  obtain ⟨neg,B⟩:∃ neg:Bool,b=if neg then .neq else .eql:=by
   rcases hb with rfl | rfl
   ·exact ⟨false,rfl⟩
   ·exact ⟨true,rfl⟩
  refine zxW (X:=zdc (pc.eqKind t) neg) (x:=x) (y:=y) ?_ (by simp [C,Op.operands]) (by simp [C,Op.operands]) (fun u v s c G=>?_)
  ·subst B
   cases neg<;>simp only [op,C,ztI,ztj,g,Bool.false_eq_true,if_false,if_true]
  ·obtain ⟨z,R,U⟩:=zuU Z I G
   refine ⟨z,R,fun L w D m M Y=>?_⟩
   obtain ⟨T,i,E⟩:=U m M Y
   refine ⟨T,i,?_⟩
   have:=E x y
   rw [←B] at this
   simp only [execOp,C]
   rw [Sem.run_bind,this];rfl
theorem zoN {p:V} {k:V→S→A} (G:¬(zd ag sz p s k).isBad):∃ z,k z s=zd ag sz p s k∧∀ (ν:Val) (w:World) (x:Value),zbt P ν s w→VR ν p x →
  ∃ a,x=.pointer (some a)∧∀ t u,P.underlying t=some u→zlt u=ag→(ag=true→(P.info? t).map (·.size)=some sz)→∃ T,VR ν z T∧(loadVar t a).run P w=.ok T w:=by
 cases p with
 | ptr a v o =>
  cases ag with
  | true =>
   have e:zd true sz (.ptr a v o) s k=zM s a v o sz (fun l=>k (.ls 0 l) s):=rfl
   rw [e] at G ⊢
   obtain ⟨l,I,J⟩:=je (P:=P) G
   refine ⟨_,I,fun ν w x m M=>?_⟩
   obtain ⟨b,q,Q,K⟩:=M
   obtain ⟨Z,d,W,g,R⟩:=J m b q Q
   refine ⟨_,K,fun t u hu X hi=>⟨.agg Z.toArray,⟨Z,g,rfl,R⟩,?_⟩⟩
   exact run_loadVar_mid w b (q+o) t Z u W hu (by cases u<;>simp [zlt] at X<;>rfl) (by rw [d];exact hi rfl)
  | false =>
   have e:zd false sz (.ptr a v o) s k=zbb s a v o (fun x=>k x s):=rfl
   rw [e] at G ⊢
   obtain ⟨l,I,J⟩:=zpr (P:=P) G
   refine ⟨_,I,fun ν w x m M=>?_⟩
   obtain ⟨b,q,Q,K⟩:=M
   obtain ⟨y,d,W,g⟩:=J m b q Q
   refine ⟨_,K,fun t u hu X hi=>⟨y,W,?_⟩⟩
   simp [loadVar,zso hu,X,d]
 | _=>exact absurd trivial G
theorem qh {pc:PC} {ds:List Nat} (h:op pc fi ds o=zO m):wi P pc fi ds o:=(zX h).read
theorem zmq {pc:PC} (Z:PcOk P pc) {ds:List Nat} (C:o.op=.load t x):wi P pc fi ds o:=by
 have e:op pc fi ds o=op pc fi ds o:=rfl
 conv at e=>rhs;simp only [op,C]
 have fin:∀ (u:TypeDesc) (ag:Bool) (sz:Nat),P.underlying t=some u→zlt u=ag→(ag=true→(P.info? t).map (·.size)=some sz)→op pc fi ds o=un fi ds x (fun p s k=>zd ag sz p s k)→wi P pc fi ds o:=by
  intro u ag sz hu X hi e r N le s k G
  rw [e,zbX] at G ⊢
  obtain ⟨v,I,J⟩:=qf fi ds x N le _ G
  rw [←I] at G ⊢
  obtain ⟨z,Q,K⟩:=zoN (P:=P) G
  refine ⟨z,Q,fun L w D m O B=>?_⟩
  obtain ⟨a,d,W⟩:=K L w _ m.1 (J L D O (B x (by simp [C,Op.operands])))
  obtain ⟨T,g,R⟩:=W t u hu X hi
  exact ⟨T,g,by simp [execOp,C,d,Instr.loadAt,Instr.sureAddr,R]⟩
 rcases PC.ag_or pc t (zO 0) _ with h | ⟨u,hu,h⟩
 ·exact qh (e.trans h)
 ·rw [h] at e
  cases X:zlt u with
  | true =>
   rw [X] at e
   simp only at e
   rcases PC.sz_or pc t (zO 0) _ with h | ⟨i,hi,h⟩
   ·exact qh (e.trans h)
   ·rw [h] at e
    exact fin u true i.size (Z.und hu) X (fun _=>by rw [Z.info _ _ hi];rfl) e
  | false =>
   rw [X] at e
   exact fin u false 1 (Z.und hu) X (fun h=>by cases h) e
theorem qW {x:Option V} {d:Nat} {c:Nat→A} (G:¬(qw x d c).isBad):∃ n,c n=qw x d c∧((x=none∧n=d)∨∃ k,x=some (.nat k n)):=by
 cases x with
 | none=>exact ⟨d,rfl,.inl ⟨rfl,rfl⟩⟩
 | some v=>cases v with
  | nat k n=>exact ⟨n,rfl,.inr ⟨k,rfl⟩⟩
  | _=>exact absurd trivial G
def zal (x:Option Value) (d n:Nat):Prop:=(x=none∧n=d)∨∃ k,x=some (.int k (Int.ofNat n))
def OpR (ν:Val) (x:Option V) (y:Option Value):Prop:=(x=none∧y=none)∨∃ v z,x=some v∧y=some z∧VR ν v z
theorem zal.of {x:Option V} {y:Option Value} {d:Nat} (h:(x=none∧n=d)∨∃ k,x=some (.nat k n)) (N:OpR ν x y):zal y d n:=by
 rcases h with ⟨rfl,rfl⟩ | ⟨k,rfl⟩
 ·rcases N with ⟨_,rfl⟩ | ⟨v,z,h,_⟩
  ·exact .inl ⟨rfl,rfl⟩
  ·cases h
 ·rcases N with ⟨h,_⟩ | ⟨v,z,I,J,Q⟩
  ·cases h
  ·simp only [Option.some.injEq] at I
   subst I
   simp only [VR] at Q
   exact .inr ⟨k,by rw [J,Q]⟩
theorem zut {y:Nat} (h:n≤y) (code:BoundsCode) (w:World):(Instr.sliceBound (.int k (n:Int)) y code).run P w=.ok n w:=by
 simp [Instr.sliceBound,asIntOf,h]
variable {cap len:Nat}
theorem ja {sl:Bool} {l h:Nat} {lo hi F:Option Value} (f:zal lo 0 l) (y:zal hi len h) (Y:zal F cap m) (I:l≤h) (J:h≤m) (Q:m≤cap) (K:F.isSome=true→hi.isSome=true) (w:World) :
  (Instr.sliceBounds sl len cap lo hi F).run P w=.ok (l,h,m) w:=by
 rcases f with ⟨rfl,rfl⟩ | ⟨A,rfl⟩<;>rcases y with ⟨rfl,rfl⟩ | ⟨B,rfl⟩<;>rcases Y with ⟨rfl,rfl⟩ | ⟨C,rfl⟩ <;>
  first
   | (simp at K;done)
   | simp [Instr.sliceBounds,zut,I,J,Q]
theorem znW (fi:FI) (ds:List Nat) (x:Option Operand) (tm:T) (le:List V) (c:List V→A) (G:¬((znA fi ds x).run tm le c).isBad) :
  ∃ l,c l=(znA fi ds x).run tm le c∧∀ (ν:Val) (tmps:Array Value),yn ν fi.ng→(∀ y,x=some y→OdR ν fi ds tm le tmps y)→OpR ν (ziG l) (x.map (ev tmps)):=by
 cases x with
 | none=>exact ⟨[],rfl,fun ν tmps _ _=>.inl ⟨rfl,rfl⟩⟩
 | some x =>
  have e:(znA fi ds (some x)).run tm le c=(opd fi ds x).run tm le fun v=>c [v]:=rfl
  rw [e] at G ⊢
  obtain ⟨v,I,J⟩:=qf fi ds x tm le _ G
  exact ⟨[v],I,fun ν tmps O B=>.inr ⟨v,_,rfl,rfl,J ν tmps O (B x rfl)⟩⟩
theorem zy {a b:Bool} (h:zB a b=true):a=true∧b=true:=by cases a<;>cases b<;>simp_all [zB]
theorem zmm {a:K} {v o:Nat} {lo hi F:Option V} {c:V→A} (G:¬(jm sz a v o len cap lo hi F c).isBad) :
  ∃ l h m,((lo=none∧l=0)∨∃ k,lo=some (.nat k l))∧((hi=none∧h=len)∨∃ k,hi=some (.nat k h))∧((F=none∧m=cap)∨∃ k,F=some (.nat k m))∧l≤h∧h≤m∧m≤cap ∧
   c (.sl a v (if m=l then o else o+l*sz) (h - l) (m - l))=jm sz a v o len cap lo hi F c:=by
 unfold jm at G ⊢
 obtain ⟨l,I,J⟩:=qW G
 rw [←I] at G ⊢
 obtain ⟨h,Q,O⟩:=qW G
 rw [←Q] at G ⊢
 obtain ⟨m,d,W⟩:=qW G
 rw [←d] at G ⊢
 cases X:zB (Nat.ble l h) (zB (Nat.ble h m) (Nat.ble m cap)) with
 | false=>simp only [X] at G;exact absurd trivial G
 | true =>
  obtain ⟨R,U⟩:=zy X
  obtain ⟨U,g⟩:=zy U
  refine ⟨l,h,m,J,O,W,kax.mp R,kax.mp U,kax.mp g,?_⟩
  simp only [zE]
  congr 2
  cases hb:Nat.beq m l with
  | true=>rw [if_pos (kac hb)]
  | false=>rw [if_neg (fun e=>by subst e;simp at hb)];rfl
theorem y8 {a:K} {c:B→A}:qk s a c=c (Tr.get B.none a s.h):=qb s a c
theorem zeF {x l:Nat}:(if m=l then (some ⟨b,x,none⟩:Option Addr) else (some ⟨b,x,none⟩:Option Addr).map (·.add (l*sz)))=some ⟨b,if m=l then x else x+l*sz,none⟩:=by
 split<;>simp [jx]
theorem zvS {el:Nat} {x:V} {lo hi mx:Option V} {c:V→A} (G:¬(qu el sz x lo hi mx s c).isBad) :
  ∃ z,c z=qu el sz x lo hi mx s c∧∀ (ν:Val) (w:World) (y:Value) (ah ae aa:Option Value),zbt P ν s w→VR ν x y →
   OpR ν lo ah→OpR ν hi ae→OpR ν mx aa →
   (aa.isSome=true→ae.isSome=true)→∀ t i,P.underlying t=some (.slice el)→P.info? el=some i→i.size=sz→∃ z',VR ν z z'∧(Instr.slice t y ah ae aa).run P w=.ok z' w:=by
 cases x with
 | nil t =>
  unfold qu at G ⊢
  simp only at G ⊢
  obtain ⟨l,I,J⟩:=qW G
  rw [←I] at G ⊢
  obtain ⟨h,Q,K⟩:=qW G
  rw [←Q] at G ⊢
  obtain ⟨m,d,W⟩:=qW G
  rw [←d] at G ⊢
  cases X:zB (Nat.beq t 1) (zB (Nat.beq l 0) (zB (Nat.beq h 0) (Nat.beq m 0))) with
  | false=>simp only [X] at G;exact absurd trivial G
  | true =>
   obtain ⟨R,U⟩:=zy X
   obtain ⟨U,g⟩:=zy U
   obtain ⟨g,g4⟩:=zy g
   have T:=kac R
   have D:=kac U
   have N:=kac g
   have e4:=kac g4
   subst T D N e4
   refine ⟨.nil 1,by simp only,fun ν w y ah ae aa _ Y j p q3 q4 t i H hi hs=>⟨.slice none 0 0,rfl,?_⟩⟩
   simp only [VR] at Y
   subst Y
   have hb:=ja (P:=P) (sl:=true) (len:=0) (cap:=0) (zal.of J j) (zal.of K p) (zal.of W q3) (kad _) (kad _) (kad _) q4 w
   simp [Instr.slice,zC H,hb,qN hi]
 | sl a v o len cap =>
  have e:qu el sz (.sl a v o len cap) lo hi mx s c=jm sz a v o len cap lo hi mx c:=rfl
  rw [e] at G ⊢
  obtain ⟨l,h,m,I,J,Q,K,d,W,r⟩:=zmm G
  refine ⟨_,r,fun ν w y ah ae aa _ Y j p q3 q4 t i H hi hs=>?_⟩
  obtain ⟨b,O,R,U,g⟩:=Y
  refine ⟨_,⟨b,O,R,rfl,by omega⟩,?_⟩
  have hb:=ja (P:=P) (sl:=true) (len:=len) (cap:=cap) (zal.of I j) (zal.of J p) (zal.of Q q3) K d W q4 w
  subst U
  simp only [Instr.slice,Sem.run_bind,zC H,Result.andThen_ok,hb,qN hi,hs,Sem.run_pure,zeF]
  congr 3
  split<;>simp [kaI]
 | so a v o len e0 =>
  unfold qu at G ⊢
  simp only [y8] at G ⊢
  generalize Z:Tr.get B.none a s.h=B' at G ⊢
  cases B' with
  | row l0 n au gr f f1 f2 =>
   simp only [] at G ⊢
   cases ak:Nat.beq el au with
   | false=>rw [ak] at G;exact absurd trivial G
   | true =>
    have aq:=kac ak
    subst aq
    simp only [ak,zE] at G ⊢
    generalize ai:(Bool.rec len ((n.sub o).div sz) (zB gr (Nat.beq v n)):Nat)=sure at G ⊢
    -- az aA al capacity is av
    have aj:∀ (ν:Val) (w:World) (b O cap:Nat) (i:TypeInfo),zbt P ν s w→ν.blk a v=some (b,O)→len≤cap→ν.cap a v=e0+cap→o=e0*ν.sz a→P.info? el=some i→i.size=sz→sure≤cap∧ν.sz a=sz:=by
     intro ν w b O cap i F hb M ar C hi hs
     have L:=F a
     rw [Z] at L
     obtain ⟨cc,fz,R,U,g,g4,g5⟩:=L.at_ v b O hb
     have hsz:ν.sz a=sz:=by rw [U,Program.cellsOf,hi];exact hs
     refine ⟨?_,hsz⟩
     cases E:zB gr (Nat.beq v n) with
     | false=>rw [E] at ai;rw [←ai];exact M
     | true =>
      rw [E] at ai
      obtain ⟨u,k2⟩:=zy E
      have k3:=kac k2
      obtain ⟨_,k4⟩:=g4 u
      rw [hsz,ar,k3] at k4
      have ai:(n - o) / sz=sure:=ai
      rw [←ai]
      rcases Nat.eq_zero_or_pos sz with hz | hz
      ·rw [hz];simp
      ·rw [Nat.div_le_iff_le_mul_add_pred hz]
       rw [C,hsz]
       have:(e0+cap)*sz=e0*sz+cap*sz:=Nat.add_mul _ _ _
       rw [Nat.mul_comm sz cap]
       omega
    obtain ⟨l,I,J⟩:=qW G
    rw [←I] at G ⊢
    obtain ⟨h,Q,K⟩:=qW G
    rw [←Q] at G ⊢
    cases mx with
    | none =>
     simp only at G ⊢
     cases X:zB (Nat.ble l h) (Nat.ble h sure) with
     | false=>rw [X] at G;exact absurd trivial G
     | true =>
      obtain ⟨R,U⟩:=zy X
      have R:=kax.mp R
      have U:=kax.mp U
      simp only [X] at G ⊢
      have core:∀ (ν:Val) (w:World) (y:Value) (ah ae aa:Option Value),zbt P ν s w→VR ν (.so a v o len e0) y →
        OpR ν lo ah→OpR ν hi ae→OpR ν none aa →
        ∀ t i,P.underlying t=some (.slice el)→P.info? el=some i→i.size=sz→∃ b O cap,ν.blk a v=some (b,O)∧h≤cap∧len≤cap∧ν.cap a v=e0+cap∧o=e0*ν.sz a∧ν.sz a=sz ∧
         (Instr.slice t y ah ae aa).run P w=.ok (.slice (some ⟨b,if cap=l then O+o else O+o+l*sz,none⟩) (h - l) (cap - l)) w:=by
       intro ν w y ah ae aa F Y j p q3 t i H hi hs
       obtain ⟨b,O,cap,u,k2,k3,k4,k5⟩:=Y
       obtain ⟨k6,k7⟩:=aj ν w b O cap i F u k3 k4 k5 hi hs
       rcases q3 with ⟨_,rfl⟩ | ⟨_,_,q,_⟩
       ·refine ⟨b,O,cap,u,by omega,k3,k4,k5,k7,?_⟩
        subst k2
        have hb:=ja (P:=P) (sl:=true) (len:=len) (cap:=cap) (zal.of J j) (zal.of K p) (.inl ⟨rfl,rfl⟩) R (by omega) (kad _) (by simp) w
        simp only [Instr.slice,Sem.run_bind,zC H,Result.andThen_ok,hb,qN hi,hs,Sem.run_pure,zeF]
       ·cases q
      cases an:Nat.beq l h with
      | true =>
       have ao:=kac an
       simp only [an] at G ⊢
       cases aw:Nat.beq l 0 with
       | true =>
        have ax:=kac aw
        refine ⟨_,rfl,fun ν w y ah ae aa F Y j p q3 q4 t i H hi hs=>?_⟩
        obtain ⟨b,O,cap,u,k2,k3,k4,k5,k6,k7⟩:=core ν w y ah ae aa F Y j p q3 t i H hi hs
        refine ⟨_,?_,k7⟩
        subst ax
        refine ⟨b,O,cap,u,?_,by omega,k4,k5⟩
        rw [←ao]
        simp
       | false =>
        refine ⟨_,rfl,fun ν w y ah ae aa F Y j p q3 q4 t i H hi hs=>?_⟩
        obtain ⟨b,O,cap,u,k2,k3,k4,k5,k6,k7⟩:=core ν w y ah ae aa F Y j p q3 t i H hi hs
        refine ⟨_,?_,k7⟩
        have T:(e0+cap)*sz=e0*sz+cap*sz:=Nat.add_mul _ _ _
        have D:(cap - l)*sz=cap*sz - l*sz:=Nat.sub_mul _ _ _
        have N:l*sz≤cap*sz:=kag _ (by omega)
        refine .inr ⟨v,b,O,if cap=l then O+o else O+o+l*sz,cap - l,u,by rw [ao];simp,by split<;>omega,?_⟩
        rw [k6,k4,T,D,k5,k6]
        split
        ·rename_i h;subst h;omega
        ·omega
      | false =>
       have ao:l≠h:=fun e=>by subst e;simp at an
       refine ⟨_,rfl,fun ν w y ah ae aa F Y j p q3 q4 t i H hi hs=>?_⟩
       obtain ⟨b,O,cap,u,k2,k3,k4,k5,k6,k7⟩:=core ν w y ah ae aa F Y j p q3 t i H hi hs
       refine ⟨_,?_,k7⟩
       refine ⟨b,O,cap - l,u,?_,by show h - l≤cap - l;omega,by show ν.cap a v=e0+l+(cap - l);omega,?_⟩
       ·rw [if_neg (by omega)]
        show _=Value.slice (some ⟨b,O+(o+l*sz),none⟩) (h - l) (cap - l)
        rw [kaI]
       ·show o+l*sz=(e0+l)*ν.sz a
        rw [k6,Nat.add_mul,k5,k6]
    | some mv =>
     simp only at G ⊢
     obtain ⟨m,d,W⟩:=qW G
     rw [←d] at G ⊢
     cases X:zB (Nat.ble l h) (zB (Nat.ble h m) (Nat.ble m sure)) with
     | false=>simp only [X] at G;exact absurd trivial G
     | true =>
      obtain ⟨R,U⟩:=zy X
      obtain ⟨U,g⟩:=zy U
      have R:=kax.mp R
      have U:=kax.mp U
      have g:=kax.mp g
      refine ⟨.sl a v (if m=l then o else o+l*sz) (h - l) (m - l),?_,fun ν w y ah ae aa F Y j p q3 q4 t i H hi hs=>?_⟩
      ·simp only
       congr 2
       cases hb:Nat.beq m l with
       | true=>rw [if_pos (kac hb)]
       | false=>rw [if_neg (fun e=>by subst e;simp at hb)];rfl
      ·obtain ⟨b,O,cap,u,k2,k3,k4,k5⟩:=Y
       obtain ⟨k6,k7⟩:=aj ν w b O cap i F u k3 k4 k5 hi hs
       refine ⟨_,⟨b,O,u,rfl,by omega⟩,?_⟩
       have ay:zal aa cap m:=by
        rcases W with ⟨h,_⟩ | ⟨k,h⟩
        ·cases h
        ·exact zal.of (.inr ⟨k,h⟩) q3
       have hb:=ja (P:=P) (sl:=true) (len:=len) (cap:=cap) (zal.of J j) (zal.of K p) ay R U (by omega) q4 w
       subst k2
       simp only [Instr.slice,Sem.run_bind,zC H,Result.andThen_ok,hb,qN hi,hs,Sem.run_pure,zeF]
       congr 3
       split<;>simp [kaI]
  | _=>exact absurd trivial G
 | ref t a =>
  unfold qu at G ⊢
  simp only at G ⊢
  obtain ⟨l,I,J⟩:=qW G
  rw [←I] at G ⊢
  obtain ⟨h,Q,K⟩:=qW G
  rw [←Q] at G ⊢
  cases mx with
  | some m=>exact absurd trivial G
  | none =>
   simp only at G ⊢
   cases X:zB (Nat.beq t 1) (zB (Nat.beq l 0) (Nat.beq h 0)) with
   | false=>rw [X] at G;exact absurd trivial G
   | true =>
    obtain ⟨R,U⟩:=zy X
    obtain ⟨U,g⟩:=zy U
    have T:=kac R
    have D:=kac U
    have N:=kac g
    subst T D N
    refine ⟨.ref 1 a,by simp only,fun ν w y ah ae aa _ Y j p q3 q4 t i H hi hs=>⟨y,Y,?_⟩⟩
    rcases Y with ⟨ad,k2⟩ | ⟨v,b,O,off,cap,u,k2,k3,k4⟩
    ·subst k2
     rcases q3 with ⟨_,rfl⟩ | ⟨_,_,q,_⟩
     ·have hb:=ja (P:=P) (sl:=true) (len:=0) (cap:=0) (zal.of J j) (zal.of K p) (.inl ⟨rfl,rfl⟩) (kad _) (Nat.zero_le _) (kad _) (by simp) w
      simp only [Instr.slice,Sem.run_bind,zC H,Result.andThen_ok,hb,qN hi,hs,Sem.run_pure]
      simp
     ·cases q
    subst k2
    rcases q3 with ⟨_,rfl⟩ | ⟨_,_,q,_⟩
    ·have hb:=ja (P:=P) (sl:=true) (len:=0) (cap:=cap) (zal.of J j) (zal.of K p) (.inl ⟨rfl,rfl⟩) (kad _) (Nat.zero_le _) (kad _) (by simp) w
     simp only [Instr.slice,Sem.run_bind,zC H,Result.andThen_ok,hb,qN hi,hs,Sem.run_pure,zeF]
     simp
    ·cases q
 | _=>exact absurd trivial G
theorem zd6 (s:ByteArray) (a b:Nat):zP (s.extract a b)=((zP s).drop a).take (b - a):=by
 unfold zP
 have:(s.extract a b).data.toList=(s.data.toList.drop a).take (b - a):=by
  rw [ByteArray.data_extract];simp [List.extract_eq_take_drop]
 rw [this,List.map_take,List.map_drop]
theorem zrH {x:V} {lo hi:Option V} {c:V→A} (G:¬(qa x lo hi c).isBad):∃ z,c z=qa x lo hi c∧∀ (ν:Val) (y:Value) (C N:Option Value),VR ν x y→OpR ν lo C→OpR ν hi N →
  ∀ t,P.underlying t=some .string→∃ B,VR ν z B∧∀ w,(Instr.slice t y C N none).run P w=.ok B w:=by
 cases x with
 | str W =>
  unfold qa at G ⊢
  simp only [yy] at G ⊢
  obtain ⟨l,I,J⟩:=qW G
  rw [←I] at G ⊢
  obtain ⟨h,Q,K⟩:=qW G
  rw [←Q] at G ⊢
  cases X:zB (Nat.ble l h) (Nat.ble h W.length) with
  | false=>simp only [X] at G;exact absurd trivial G
  | true =>
   obtain ⟨R,U⟩:=zy X
   have R:=kax.mp R
   have U:=kax.mp U
   refine ⟨_,by simp only [jY,zgX];rfl,fun ν y C N Y j d t H=>?_⟩
   obtain ⟨s,T,D⟩:=Y
   subst T
   refine ⟨.string (s.extract l h),⟨_,rfl,by rw [zd6,D];rfl⟩,fun w=>?_⟩
   have hsz:W.length=s.size:=by rw [←D,qz]
   rw [hsz] at K U
   have hb:=ja (P:=P) (sl:=false) (len:=s.size) (cap:=s.size) (zal.of J j) (zal.of K d) (.inl ⟨rfl,rfl⟩) R U (kad _) (by simp) w
   simp [Instr.slice,zC H,hb]
 | _=>exact absurd trivial G
theorem zk4 {pc:PC} (Z:PcOk P pc) {ds:List Nat} {lo hi mx:Option Operand} (C:o.op=.slice t x lo hi mx):wi P pc fi ds o:=by
 have e:op pc fi ds o=op pc fi ds o:=rfl
 conv at e=>rhs;simp only [op,C]
 rcases zbd (zv8 hi mx) (zO 0) _ with h | ⟨ae,h⟩
 ·exact qh (e.trans h)
 rw [h] at e
 have aa:∀ ρ:Operand→Value,(mx.map ρ).isSome=true→(hi.map ρ).isSome=true:=by
  intro ρ;cases mx<;>cases hi<;>simp_all [zv8]
 have mem:∀ {L:Val} {D:Array Value} {N:T} {le:List V},zfS L fi ds N le D o→OdR L fi ds N le D x∧(∀ y,lo=some y→OdR L fi ds N le D y)∧(∀ y,hi=some y→OdR L fi ds N le D y)∧(∀ y,mx=some y→OdR L fi ds N le D y):=by
  intro L D N le F
  refine ⟨F x (by simp [C,Op.operands]),fun y Y=>F y (by simp [C,Op.operands,Y]),fun y Y=>F y (by simp [C,Op.operands,Y]),fun y Y=>F y (by simp [C,Op.operands,Y])⟩
 have fin:∀ (X:V→Option V→Option V→Option V→S→(V→A)→A),
   (∀ r N le s k,(op pc fi ds o).run r N le s k=(opd fi ds x).run N le fun x=>(znA fi ds lo).run N le fun l=>(znA fi ds hi).run N le fun h=>(znA fi ds mx).run N le fun m=>X x (ziG l) (ziG h) (ziG m) s fun v=>k v s) →
   (∀ u l h m s c,¬(X u l h m s c).isBad→∃ z,c z=X u l h m s c∧∀ (L:Val) (w:World) (D:Array Value),zbt P L s w→VR L u (ev D x)→OpR L l (lo.map (ev D))→OpR L h (hi.map (ev D))→OpR L m (mx.map (ev D)) →
    ∃ z',VR L z z'∧(execOp (ev D) o).run P w=.ok (.value z') w)→wi P pc fi ds o:=by
  intro X e hX r N le s k G
  rw [e] at G ⊢
  obtain ⟨u,I,J⟩:=qf fi ds x N le _ G
  rw [←I] at G ⊢
  obtain ⟨l,Q,K⟩:=znW fi ds lo N le _ G
  rw [←Q] at G ⊢
  obtain ⟨h,g,W⟩:=znW fi ds hi N le _ G
  rw [←g] at G ⊢
  obtain ⟨m,i,h8⟩:=znW fi ds mx N le _ G
  rw [←i] at G ⊢
  obtain ⟨z,h9,ad⟩:=hX _ _ _ _ _ _ G
  refine ⟨z,h9,fun L w D H O F=>?_⟩
  obtain ⟨m1,m2,m3,m4⟩:=mem F
  exact ad L w D H.1 (J L D O m1) (K L D O m2) (W L D O m3) (h8 L D O m4)
 cases hu:pc.und t with
 | none=>rw [hu] at e;exact qh e
 | some d =>
  rw [hu] at e
  cases d with
  | slice el =>
   simp only at e
   rcases PC.sz_or pc el (zO 0) _ with h | ⟨j,E,h⟩
   ·exact qh (e.trans h)
   ·rw [h] at e
    simp only [zE] at e
    refine fin (fun x l h m s c=>qu el j.size x l h m s c) (fun r N le s k=>by rw [e]) (fun u l h m s c G=>?_)
    obtain ⟨z,I,J⟩:=zvS (P:=P) G
    refine ⟨z,I,fun L w D H M f hh hm=>?_⟩
    obtain ⟨z',Q,K⟩:=J L w _ _ _ _ H M f hh hm (aa _) t j (Z.und hu) (Z.info _ _ E) rfl
    refine ⟨z',Q,?_⟩
    simp [execOp,C,Instr.sliceAt,zC (Z.und hu),K]
  | string =>
   simp only at e
   cases mx with
   | some m=>exact qh e
   | none =>
    refine fin (fun x l h m s c=>qa x l h c) (fun r N le s k=>by rw [e];rfl) (fun u l h m s c G=>?_)
    obtain ⟨z,I,J⟩:=zrH (P:=P) G
    refine ⟨z,I,fun L w D H M f hh hm=>?_⟩
    obtain ⟨z',Q,K⟩:=J L _ _ _ M f hh t (Z.und hu)
    refine ⟨z',Q,?_⟩
    simp [execOp,C,Instr.sliceAt,zC (Z.und hu),K]
  | array n el =>
   simp only [zE] at e
   rcases PC.sz_or pc el (zO 0) _ with h | ⟨j,E,h⟩
   ·exact qh (e.trans h)
   ·rw [h] at e
    refine fin (fun x l h m s c=>ze8 j.size n x l h m c) (fun r N le s k=>by rw [e]) (fun u l h m s c G=>?_)
    cases u with
    | ptr a v p =>
     have B:ze8 j.size n (.ptr a v p) l h m c=jm j.size a v p n n l h m c:=rfl
     rw [B] at G ⊢
     obtain ⟨l',h',m',I,J,Q,K,g,W,i⟩:=zmm G
     refine ⟨_,i,fun L w D H M f hh hm=>?_⟩
     obtain ⟨b,q,R,U⟩:=M
     have hb:=ja (P:=P) (sl:=false) (len:=n) (cap:=n) (zal.of I f) (zal.of J hh) (zal.of Q hm) K g W (aa _) w
     refine ⟨.slice (some ⟨b,q+(if m'=l' then p else p+l'*j.size),none⟩) (h' - l') (m' - l'),⟨b,q,R,rfl,by omega⟩,?_⟩
     simp only [execOp,C,Instr.sliceAt,Sem.run_bind,zC (Z.und hu),Result.andThen_ok,U,Instr.sureAddr,Sem.run_pure,hb,qN (Z.info _ _ E)]
     congr 4
     split<;>simp [jx,kaI]
    | _=>exact absurd trivial G
  | _=>exact qh e
theorem zmw {c:List Nat→A} (G:¬(jW l c).isBad):∃ bs:List Nat,c bs=jW l c∧(∀ b∈bs,b<256)∧l=bs.map fun b=>V.nat .u8 b:=by
 induction l generalizing c with
 | nil=>exact ⟨[],rfl,by simp,rfl⟩
 | cons x l D =>
  cases x with
  | nat k n =>
   have e:jW (.nat k n::l) c=@Bool.rec (fun _=>A) eA (jW l fun l=>c (n::l)) (zB (qO k .u8) (Nat.blt n 256)):=rfl
   rw [e] at G ⊢
   cases X:zB (qO k .u8) (Nat.blt n 256) with
   | false=>rw [X] at G;exact absurd trivial G
   | true =>
    rw [X] at G
    obtain ⟨R,U⟩:=zy X
    have R:=(qx _ _).1 R
    have U:n<256:=by simpa [Nat.blt_eq] using U
    obtain ⟨bs,I,J,Q⟩:=D G
    subst R
    exact ⟨n::bs,I,fun b hb=>(by
     rcases kaj.1 hb with h | h
     ·rw [h];exact U
     ·exact J b h),by rw [Q];rfl⟩
  | _=>exact absurd trivial G
theorem zhA {ν:Val}:∀ {bs:List Nat} {cs:List Value},VRs ν (bs.map fun b=>V.nat .u8 b) cs→cs=bs.map fun b=>Value.int .u8 (Int.ofNat b)
 | [],_,h=>h
 | b::bs,_,⟨x,r,e,I,J⟩=>by
  subst e
  simp only [VR] at I
  rw [I,zhA J];rfl
theorem ziw:∀ (bs:List Nat) (s:ByteArray),(∀ b∈bs,b<256)→zP (bs.foldl (fun s b=>s.push (UInt8.ofNat b)) s)=zP s++bs
 | [],s,_=>by simp
 | b::bs,s,h=>by
  simp only [List.foldl_cons]
  rw [ziw bs _ (fun x M=>h x (by simp [M]))]
  have:zP (s.push (UInt8.ofNat b))=zP s++[b]:=by
   unfold zP
   have:(s.push (UInt8.ofNat b)).data.toList=s.data.toList++[UInt8.ofNat b]:=by simp [ByteArray.push]
   rw [this,kaN]
   have:=h b (by simp)
   simp;omega
  rw [this];simp
theorem zvc {x:V} {c:V→A} (G:¬(jJ x s c).isBad):∃ z,c z=jJ x s c∧∀ (ν:Val) (w:World) (y:Value),zbt P ν s w→VR ν x y →
  ∃ a l cp,y=.slice a l cp∧∃ T,VR ν z T∧(Conv.bytesToString y).run P w=.ok T w:=by
 have emp:zP ByteArray.empty=[]:=rfl
 have mem:∀ (a:K) (v o len:Nat),¬(zM s a v o len (fun l=>jW l fun b=>c (.str b))).isBad→∃ z,c z=zM s a v o len (fun l=>jW l fun b=>c (.str b))∧∀ (ν:Val) (w:World) (b q cap:Nat),zbt P ν s w→ν.blk a v=some (b,q) →
   ∃ T,VR ν z T∧(Conv.bytesToString (.slice (some ⟨b,q+o,none⟩) len cap)).run P w=.ok T w:=by
  intro a v o len G
  obtain ⟨l,I,J⟩:=je (P:=P) G
  rw [←I] at G ⊢
  obtain ⟨bs,Q,O,d⟩:=zmw G
  refine ⟨_,Q,fun ν w b q cap m hb=>?_⟩
  obtain ⟨Z,R,U,g,p⟩:=J m b q hb
  rw [d] at g
  have F:=zhA g
  have f:(loadCells ⟨b,q+o,none⟩ len).run P w=.ok ((bs.map fun b=>(Int.ofNat b)).map (Value.int .u8)).toArray w:=by
   have:=run_loadCells_list (P:=P) (w:=w) ⟨b,q+o,none⟩ Z (fun j v E=>by rw [jx];exact U j v E)
   rw [R] at this
   rw [this,F]
   simp
  rw [run_bytesToString w _ len cap _ f]
  refine ⟨_,⟨_,rfl,?_⟩,rfl⟩
  rw [List.foldl_map]
  have:=ziw bs ByteArray.empty O
  rw [emp] at this
  simpa using this
 cases x with
 | nil t =>
  unfold jJ at G ⊢
  simp only at G ⊢
  cases H:Nat.beq t 1 with
  | false=>rw [H] at G;exact absurd trivial G
  | true =>
   have:=kac H
   subst this
   refine ⟨.str [],by simp only,fun ν w y _ Y=>?_⟩
   simp only [VR] at Y
   subst Y
   exact ⟨none,0,0,rfl,.string .empty,⟨_,rfl,rfl⟩,rfl⟩
 | ref t a =>
  unfold jJ at G ⊢
  simp only at G ⊢
  cases H:Nat.beq t 1 with
  | false=>rw [H] at G;exact absurd trivial G
  | true =>
   have:=kac H
   subst this
   refine ⟨.str [],by simp only,fun ν w y _ Y=>?_⟩
   obtain ⟨_,cap,rfl⟩:=VR.ref1 Y
   refine ⟨_,0,cap,rfl,.string .empty,⟨_,rfl,rfl⟩,?_⟩
   simp [Conv.bytesToString,loadCells,loadCellsFrom]
 | sl a v o len cap =>
  have e:jJ (.sl a v o len cap) s c=zM s a v o len (fun l=>jW l fun b=>c (.str b)):=rfl
  rw [e] at G ⊢
  obtain ⟨z,I,J⟩:=mem a v o len G
  refine ⟨z,I,fun ν w y m Y=>?_⟩
  obtain ⟨b,q,R,U,_⟩:=Y
  subst U
  exact ⟨_,_,_,rfl,J ν w b q cap m R⟩
 | so a v o len D =>
  have e:jJ (.so a v o len D) s c=zM s a v o len (fun l=>jW l fun b=>c (.str b)):=rfl
  rw [e] at G ⊢
  obtain ⟨z,I,J⟩:=mem a v o len G
  refine ⟨z,I,fun ν w y m Y=>?_⟩
  obtain ⟨b,q,cap,R,U,_⟩:=Y
  subst U
  exact ⟨_,_,_,rfl,J ν w b q cap m R⟩
 | _=>exact absurd trivial G
theorem zrG {pc:PC} (Z:PcOk P pc) {ds:List Nat} (C:o.op=.convert src dst x) (I:pc.und src=some (.slice el)) (J:pc.und dst=some .string) (Q:pc.und el=some (.int .u8)):wi P pc fi ds o:=by
 refine zn9 (x:=x) (X:=jJ) (by simp only [op,C,I,J,Q]) (by simp [C,Op.operands]) (fun v s c G=>?_)
 obtain ⟨z,R,U⟩:=zvc (P:=P) G
 refine ⟨z,R,fun L w D m E=>?_⟩
 obtain ⟨a,l,cp,g,T,p,K⟩:=U L w _ m E
 refine ⟨T,p,?_⟩
 rw [g] at K
 simp [execOp,C,g,run_convert_bytes_string w src dst el a l cp (Z.und I) (Z.und Q) (Z.und J),K]
theorem zjB (h:w.heap[b]?=some (.cells c el E)):w.shape? b=some (el,c.size):=by simp [World.shape?,h]
theorem zhT (X:P.cellsOf e≠0) (count off n:Nat) (h0:off % P.cellsOf e=0) (o:off / P.cellsOf e+n≤count):liesAt P P.depth e count off e n=true:=by
 have u:P.depth=(2*(P.types.size+Made.depth)+1)+1:=rfl
 rw [u]
 simp only [liesAt,Bool.or_eq_true]
 left
 rw [u]
 simp [rowAt,X,o,h0,sameLayout]
variable {q:Nat}
theorem zwe {a:K} {el:Nat} {D:Bool} {W f1 f2 v o:Nat} (h:RowR P ν w a l n el D W f1 f2) (hb:ν.blk a v=some (b,q)) (N:jV n D W v (Nat.succ o)=true) :
  ∃ c E,w.heap[b]?=some (.cells c el E)∧q+o<c.size:=by
 obtain ⟨I,J⟩:=(zeq _ _ _ _ _).1 N
 obtain ⟨c,E,X,_,_,_,r⟩:=h.at_ v b q hb
 have O:=h.len
 have C:o<l.length:=by
  rw [O]
  cases D
  ·have:=J rfl;omega
  ·have:=I rfl;omega
 obtain ⟨y,Y,_⟩:=r (fun g=>(I g).1) o _ (kab C) (fun g=>by have:=I g;omega)
 exact ⟨c,E,X,(kat.1 Y).1⟩
theorem zll {pc:PC} (Z:PcOk P pc) {ds:List Nat} (C:o.op=.convert src dst x) (I:pc.und src=some (.pointer el)) (J:pc.und dst=some .unsafePointer):wi P pc fi ds o:=by
 have e:op pc fi ds o=op pc fi ds o:=rfl
 conv at e=>rhs;simp only [op,C,I,J]
 rcases PC.sz_or pc el (zO 0) _ with h | ⟨i,hi,h⟩
 ·exact qh (e.trans h)
 ·rw [h] at e
  rcases zbd (!(Nat.beq i.size 0)) (zO 0) _ with h | ⟨hz,h⟩
  ·exact qh (e.trans h)
  ·rw [h] at e
   have hz:i.size≠0:=by intro h0;rw [h0] at hz;cases hz
   refine zn9 (x:=x) (X:=fun p s c=>zaT p s fun v _=>c v) (by rw [e];rfl) (by simp [C,Op.operands]) (fun v s c G=>?_)
   cases v with
   | nil t =>
    unfold zaT at G ⊢
    simp only at G ⊢
    cases H:Nat.beq t 0 with
    | false=>rw [H] at G;exact absurd trivial G
    | true =>
     have:=kac H
     subst this
     refine ⟨.nil 0,rfl,fun L w D m E=>⟨_,E,?_⟩⟩
     simp only [VR] at E
     simp [execOp,C,E,convert,run_underlying (Z.und I),run_underlying (Z.und J),Conv.unsafePointer]
   | ptr a v0 off =>
    unfold zaT at G ⊢
    simp only [y8] at G ⊢
    generalize y:Tr.get B.none a s.h=f at G ⊢
    cases f with
    | row l n O u W f1 f2 =>
     simp only at G ⊢
     cases N:jV n u W v0 (Nat.succ off) with
     | false=>rw [N] at G;exact absurd trivial G
     | true =>
      refine ⟨.ptr a v0 off,rfl,fun L w D m E=>⟨_,E,?_⟩⟩
      obtain ⟨b,q,hb,M⟩:=E
      have Q:=m a
      rw [y] at Q
      obtain ⟨c,S,R,U⟩:=zwe Q hb N
      have:=Lib.run_to_unsafe (P:=P) w (src:=src) (dst:=dst) ⟨b,q+off,none⟩ (Z.und I) (Z.und J) (Z.info _ _ hi) hz (zjB R) U
      simp [execOp,C,M,this]
    | _=>exact absurd trivial G
   | _=>exact absurd trivial G
theorem zlk {pc:PC} (Z:PcOk P pc) {ds:List Nat} (C:o.op=.convert src dst x) (I:pc.und src=some .unsafePointer) (J:pc.und dst=some (.pointer el)):wi P pc fi ds o:=by
 have e:op pc fi ds o=op pc fi ds o:=rfl
 conv at e=>rhs;simp only [op,C,I,J]
 rcases PC.sz_or pc el (zO 0) _ with h | ⟨i,hi,h⟩
 ·exact qh (e.trans h)
 ·rw [h] at e
  rcases zbd (!(Nat.beq i.size 0)) (zO 0) _ with h | ⟨hz,h⟩
  ·exact qh (e.trans h)
  ·rw [h] at e
   have hz:i.size≠0:=by intro h0;rw [h0] at hz;cases hz
   have r:P.cellsOf el=i.size:=by simp [Program.cellsOf,Z.info _ _ hi]
   simp only [zE] at e
   refine zn9 (x:=x) (X:=fun p s c=>zaL el i.size p s fun v _=>c v) (by rw [e];rfl) (by simp [C,Op.operands]) (fun v s c G=>?_)
   cases v with
   | nil t =>
    unfold zaL at G ⊢
    simp only at G ⊢
    cases H:Nat.beq t 0 with
    | false=>rw [H] at G;exact absurd trivial G
    | true =>
     have:=kac H
     subst this
     refine ⟨.nil 0,rfl,fun L w D m E=>⟨_,E,?_⟩⟩
     simp only [VR] at E
     simp [execOp,C,E,convert,run_underlying (Z.und I),run_underlying (Z.und J),Conv.unsafePointer]
   | ptr a v0 off =>
    unfold zaL at G ⊢
    simp only [y8] at G ⊢
    generalize y:Tr.get B.none a s.h=f at G ⊢
    cases f with
    | row l n O u W f1 f2 =>
     simp only at G ⊢
     cases N:zB (zbj u) (zB (Nat.beq O el) (zB (Nat.beq off 0) (Nat.ble i.size n))) with
     | false=>rw [N] at G;exact absurd trivial G
     | true =>
      obtain ⟨Y,N⟩:=zy N
      obtain ⟨K,N⟩:=zy N
      obtain ⟨F,T⟩:=zy N
      have Y:u=false:=by cases u<;>first | rfl | cases Y
      have K:=kac K
      have F:=kac F
      have T:=kax.mp T
      subst Y K F
      refine ⟨.ptr a v0 0,rfl,fun L w D m E=>⟨_,E,?_⟩⟩
      obtain ⟨b,q,hb,M⟩:=E
      have Q:=m a
      rw [y] at Q
      obtain ⟨j,d⟩:=Q.v0 rfl _ _ hb
      simp only at d
      subst d
      obtain ⟨c,S,R,_⟩:=Q.at_ v0 b 0 hb
      have A:n≤c.size:=by
       rcases Nat.eq_zero_or_pos n with h0 | h0
       ·omega
       ·obtain ⟨z,V,g,U⟩:=zwe (o:=n - 1) Q hb ((zeq _ _ _ _ _).2 ⟨fun h=>(by cases h),fun _=>by omega⟩)
        rw [R] at g
        simp only [Option.some.injEq,Obj.cells.injEq] at g
        rw [←g.1] at U
        omega
      have hdiv:0<c.size / i.size:=Nat.div_pos (by omega) (by omega)
      have:=Lib.run_from_unsafe (P:=P) w (src:=src) (dst:=dst) ⟨b,0,none⟩ (Z.und I) (Z.und J) (Z.info _ _ hi) (zjB R)
       (zhT (by rw [r];exact hz) _ _ _ (by simp) (by rw [r];simp;omega))
      simp [execOp,C,M,this]
    | _=>exact absurd trivial G
   | _=>exact absurd trivial G
theorem zoa {pc:PC} (Z:PcOk P pc) {ds:List Nat} (C:o.op=.convert src dst x):wi P pc fi ds o:=by
 have e:op pc fi ds o=op pc fi ds o:=rfl
 conv at e=>rhs;simp only [op,C]
 cases I:pc.und src with
 | none=>rw [I] at e;exact qh e
 | some a =>
  cases J:pc.und dst with
  | none=>rw [I,J] at e;cases a<;>exact qh e
  | some b =>
   rw [I,J] at e
   cases a<;>cases b<;>first
    | exact qh e
    | exact (zos Z C I J).read
    | exact zll Z C I J
    | exact zlk Z C I J
    | skip
   rename_i el
   simp only at e
   cases Q:pc.und el with
   | none=>rw [Q] at e;exact qh e
   | some d =>
    rw [Q] at e
    cases d with
    | int k=>cases k<;>first | exact qh e | exact zrG Z C I J Q
    | _=>exact qh e
def zdP (P:Program) (pc:PC) (b:Builtin) (ts:List TypeId):Prop:=∀ H s k,¬((buC pc b ts).run H s k).isBad→∃ z,k z s=(buC pc b ts).run H s k ∧
 ∀ (L:Val) (w:World) (p:Array Value) (ty:TypeId) (S:Array Bool),zbt P L s w→VRs L H p.toList→∃ T,VR L z T∧(builtin b ts.toArray ty S p).run P w=.ok (.value T) w
variable {b:Builtin}
theorem zgD {pc:PC} {ds:List Nat} {c:Call} (C:o.op=.call c) (X:c.callee=.builtin b) (hb:b≠.recover) (r:R) (tm:T) (le:List V) (s:S) (k:V→S→A) :
  (op pc fi ds o).run r tm le s k=(zc3 fi ds c.args.toList).run tm le fun args=>(buC pc b c.argTypes.toList).run args s k:=by
 simp only [op,C,X]
theorem zgH {c:Call} (C:o.op=.call c) (X:c.callee=.builtin b) (A:Operand→Value) (w:World) :
  ∃ S,(execOp A o).run P w=(builtin b c.argTypes o.type S (c.args.map A)).run P w:=by
 refine ⟨c.args.map fun | .const _=>true | _=>false,?_⟩
 simp only [execOp,C,resolve,X,Sem.run_bind,Sem.run_pure,Result.andThen_ok,invoke]
 rfl
theorem zew {c:Call} (C:o.op=.call c) (M:x∈c.args.toList):x∈o.op.operands.toList:=by
 simp only [C,Op.operands,Call.operands]
 cases c.callee<;>simp<;>first | (right;simpa using M) | (simpa using M)
theorem zaE {pc:PC} {ds:List Nat} {c:Call} (C:o.op=.call c) (X:c.callee=.builtin b) (hb:b≠.recover) (h:zdP P pc b c.argTypes.toList):wi P pc fi ds o:=by
 intro r N le s k G
 rw [zgD C X hb] at G ⊢
 obtain ⟨H,I,J⟩:=zay fi ds c.args.toList N le _ G
 rw [←I] at G ⊢
 obtain ⟨z,Q,K⟩:=h H s k G
 refine ⟨z,Q,fun L w D m O B=>?_⟩
 obtain ⟨S,d⟩:=zgH (P:=P) C X (ev D) w
 obtain ⟨T,W,g⟩:=K L w (c.args.map (ev D)) o.type S m.1 (by simpa using J L D O (fun x M=>B x (zew C M)))
 exact ⟨T,W,by rw [d];simpa using g⟩
theorem zeX {c:V→A} (G:¬(zqT l c).isBad):∃ x r,l=x::r∧c x=zqT l c:=by
 cases l with
 | nil=>exact absurd trivial G
 | cons x r=>exact ⟨x,r,rfl,rfl⟩
theorem znO {c:V→V→A} (G:¬(zq3 l c).isBad):∃ x y r,l=x::y::r∧c x y=zq3 l c:=by
 cases l with
 | nil=>exact absurd trivial G
 | cons x r=>cases r with
  | nil=>exact absurd trivial G
  | cons y r=>exact ⟨x,y,r,rfl,rfl⟩
variable {r:List V} {x:V}
theorem VRs.first (h:VRs ν (x::r) c.toList):∃ y,c[0]?=some y∧VR ν x y:=by
 obtain ⟨y,Y,I⟩:=h.get 0 x rfl
 exact ⟨y,by simpa using Y,I⟩
variable {y:V}
theorem VRs.second (h:VRs ν (x::y::r) c.toList):∃ z,c[1]?=some z∧VR ν y z:=by
 obtain ⟨z,hz,I⟩:=h.get 1 y rfl
 exact ⟨z,by simpa using hz,I⟩
theorem MRs.length {ν:Val}:∀ {es:List ME} {c:List MapEntry},MRs ν es c→c.length=es.length
 | [],_,h=>by simp [MRs] at h;simp [h]
 | _::_,_,⟨x,r,e,_,h⟩=>by rw [e];simp [MRs.length h]
variable {b:Nat}
theorem zsA {a:K} {es:List ME} {R:Nat} (m:zbt P ν s w) (y:Tr.get B.none a s.h=.map es R) (hb:ν.blk a 0=some (b,0)):∃ X,w.heap[b]?=some (.map X R)∧MRs ν es X.toList:=by
 have:=m a
 rw [y] at this
 exact (this 0 b 0 hb).2
variable {es:Array MapEntry}
theorem zbf {R:Nat} (h:w.heap[b]?=some (.map es R)):(getObj b).run P w=.ok (.map es R) w:=MapKept.run_getObj_map h
theorem zxr {pc:PC} (Z:PcOk P pc) (ts:List TypeId):zdP P pc .len ts:=by
 intro H s k G
 cases ts with
 | nil=>exact absurd trivial G
 | cons t ts =>
  simp only [buC] at G ⊢
  cases hu:pc.und t with
  | none=>rw [hu] at G;exact absurd trivial G
  | some d =>
   have z:=Z.und hu
   have fin:∀ (n:Nat) (p:Array Value) (ty:TypeId) (S:Array Bool) (w:World),(Builtin.len_ (t::ts).toArray ty p).run P w=.ok (.int .i64 (Int.ofNat n)) w→(builtin .len (t::ts).toArray ty S p).run P w=.ok (.value (.int .i64 (Int.ofNat n))) w:=by
    intro n p ty S w h
    simp only [builtin,Sem.run_bind,h,Result.andThen_ok,Sem.run_pure]
   rw [hu] at G
   cases d with
   | slice el =>
    simp only at G ⊢
    obtain ⟨x,r,e,I⟩:=zeX G
    subst e
    rw [←I] at G ⊢
    have go:∀ n,(∀ (L:Val) (y:Value),VR L x y→∃ a c,y=.slice a n c)→∀ (L:Val) (w:World) (p:Array Value) (ty:TypeId) (S:Array Bool),zbt P L s w→VRs L (x::r) p.toList →
      ∃ T,VR L (.nat .i64 n) T∧(builtin .len (t::ts).toArray ty S p).run P w=.ok (.value T) w:=by
     intro n h L w p ty S m E
     obtain ⟨y,Y,J⟩:=E.first
     obtain ⟨a,c,e⟩:=h L y J
     refine ⟨_,rfl,fin n _ _ _ _ ?_⟩
     simp [Builtin.len_,Y,e,zC z,goInt]
    cases x with
    | nil u =>
     unfold zm at G ⊢
     simp only at G ⊢
     cases F:Nat.beq u 1 with
     | false=>rw [F] at G;exact absurd trivial G
     | true =>
      have:=kac F
      subst this
      exact ⟨_,rfl,go 0 fun L y h=>by simp only [VR] at h;exact ⟨_,_,h⟩⟩
    | ref u a =>
     unfold zm at G ⊢
     simp only at G ⊢
     cases F:Nat.beq u 1 with
     | false=>rw [F] at G;exact absurd trivial G
     | true =>
      have:=kac F
      subst this
      exact ⟨_,rfl,go 0 fun L y h=>by exact VR.ref1 h |>.elim fun _ h=>h.elim fun _ e=>⟨_,_,e⟩⟩
    | sl a v o len cap=>exact ⟨_,rfl,go len fun L y h=>by obtain ⟨b,q,_,e,_⟩:=h;exact ⟨_,_,e⟩⟩
    | so a v o len D=>exact ⟨_,rfl,go len fun L y h=>by obtain ⟨b,q,cap,_,e,_⟩:=h;exact ⟨_,_,e⟩⟩
    | _=>exact absurd trivial G
   | string =>
    simp only at G ⊢
    obtain ⟨x,r,e,I⟩:=zeX G
    subst e
    rw [←I] at G ⊢
    cases x with
    | str l =>
     refine ⟨.nat .i64 l.length,by simp only [qt,yy],fun L w p ty S m E=>?_⟩
     obtain ⟨y,Y,J⟩:=E.first
     obtain ⟨U,e,Q⟩:=J
     refine ⟨_,rfl,fin l.length _ _ _ _ ?_⟩
     have:l.length=U.size:=by rw [←Q,qz]
     simp [Builtin.len_,Y,e,zC z,goInt,this]
    | _=>exact absurd trivial G
   | map j el =>
    simp only at G ⊢
    obtain ⟨x,r,e,I⟩:=zeX G
    subst e
    rw [←I] at G ⊢
    cases x with
    | nil u =>
     unfold zwt at G ⊢
     simp only at G ⊢
     cases F:Nat.beq u 2 with
     | false=>rw [F] at G;exact absurd trivial G
     | true =>
      have:=kac F
      subst this
      refine ⟨_,rfl,fun L w p ty S m E=>?_⟩
      obtain ⟨y,Y,J⟩:=E.first
      simp only [VR] at J
      refine ⟨_,rfl,fin 0 _ _ _ _ ?_⟩
      simp [Builtin.len_,Y,J,zC z,goInt]
    | ref u a =>
     unfold zwt at G ⊢
     simp only at G ⊢
     cases F:Nat.beq u 0 with
     | false=>rw [F] at G;exact absurd trivial G
     | true =>
      have:=kac F
      subst this
      simp only [F,y8] at G ⊢
      generalize R:Tr.get B.none a s.h=f at G ⊢
      cases f with
      | map es O =>
       refine ⟨.nat .i64 es.length,by simp only [yy],fun L w p ty S m E=>?_⟩
       obtain ⟨y,Y,J⟩:=E.first
       obtain ⟨b,Q,K⟩:=J
       obtain ⟨X,g,W⟩:=zsA m R Q
       refine ⟨_,rfl,fin es.length _ _ _ _ ?_⟩
       have:X.size=es.length:=by have:=W.length;simpa using this
       simp [Builtin.len_,Y,K,zC z,zbf g,goInt,this]
      | _=>exact absurd trivial G
    | _=>exact absurd trivial G
   | array n el =>
    simp only [zE] at G ⊢
    obtain ⟨x,r,e,I⟩:=zeX G
    subst e
    rw [←I] at G ⊢
    refine ⟨_,rfl,fun L w p ty S m E=>?_⟩
    obtain ⟨y,Y,J⟩:=E.first
    refine ⟨_,rfl,fin n _ _ _ _ ?_⟩
    simp [Builtin.len_,Y,zC z,goInt]
   | pointer u =>
    simp only at G ⊢
    cases A:pc.und u with
    | none=>rw [A] at G;exact absurd trivial G
    | some M =>
     rw [A] at G
     cases M with
     | array n el =>
      simp only [zE] at G ⊢
      obtain ⟨x,r,e,I⟩:=zeX G
      subst e
      rw [←I] at G ⊢
      refine ⟨_,rfl,fun L w p ty S m E=>?_⟩
      obtain ⟨y,Y,J⟩:=E.first
      refine ⟨_,rfl,fin n _ _ _ _ ?_⟩
      simp [Builtin.len_,Y,zC z,zC (Z.und A),goInt]
     | _=>exact absurd trivial G
   | _=>exact absurd trivial G
theorem zwl {pc:PC} (Z:PcOk P pc) (ts:List TypeId):zdP P pc .cap ts:=by
 intro H s k G
 cases ts with
 | nil=>exact absurd trivial G
 | cons t ts =>
  simp only [buC] at G ⊢
  cases hu:pc.und t with
  | none=>rw [hu] at G;exact absurd trivial G
  | some d =>
   have z:=Z.und hu
   rw [hu] at G
   cases d with
   | slice el =>
    simp only at G ⊢
    obtain ⟨x,r,e,I⟩:=zeX G
    subst e
    rw [←I] at G ⊢
    have go:∀ n,(∀ (L:Val) (y:Value),VR L x y→∃ a l,y=.slice a l n)→∀ (L:Val) (w:World) (p:Array Value) (ty:TypeId) (S:Array Bool),zbt P L s w→VRs L (x::r) p.toList →
      ∃ T,VR L (.nat .i64 n) T∧(builtin .cap (t::ts).toArray ty S p).run P w=.ok (.value T) w:=by
     intro n h L w p ty S m E
     obtain ⟨y,Y,J⟩:=E.first
     obtain ⟨a,c,e⟩:=h L y J
     refine ⟨.int .i64 (Int.ofNat n),rfl,?_⟩
     have:(Builtin.cap_ (t::ts).toArray ty p).run P w=.ok (.int .i64 (Int.ofNat n)) w:=by simp [Builtin.cap_,Y,e,zC z,goInt]
     simp only [builtin,Sem.run_bind,this,Result.andThen_ok,Sem.run_pure]
    cases x with
    | nil u =>
     unfold zDO at G ⊢
     simp only at G ⊢
     cases F:Nat.beq u 1 with
     | false=>rw [F] at G;exact absurd trivial G
     | true =>
      have:=kac F
      subst this
      exact ⟨_,rfl,go 0 fun L y h=>by simp only [VR] at h;exact ⟨_,_,h⟩⟩
    | sl a v o len cap=>exact ⟨_,rfl,go cap fun L y h=>by obtain ⟨b,q,_,e,_⟩:=h;exact ⟨_,_,e⟩⟩
    | _=>exact absurd trivial G
   | _=>exact absurd trivial G
theorem zi6 {op lt:Bool} {c:V→A} {a b:Int} (M:∀ (ν:Val) z,VR ν x z→z=.int j a) (Y:∀ (ν:Val) z,VR ν y z→z=.int j b) (O:lt=true↔b<a) :
  ∃ z,c z=zrn op lt x y c∧∀ (ν:Val) (a b:Value),VR ν x a→VR ν y b→∃ T,VR ν z T∧∀ w,((if op then Builtin.min2 a b else Builtin.max2 a b).run P w=.ok T w):=by
 cases lt with
 | true =>
  have h:b<a:=O.1 rfl
  cases op
  ·refine ⟨x,rfl,fun ν r N U hb=>⟨r,U,fun w=>?_⟩⟩
   rw [M ν _ U,Y ν _ hb]
   have J:¬(a<b):=by omega
   simp [Builtin.max2,J]
  ·refine ⟨y,rfl,fun ν r N U hb=>⟨N,hb,fun w=>?_⟩⟩
   rw [M ν _ U,Y ν _ hb]
   simp [Builtin.min2,h]
 | false =>
  have h:¬b<a:=fun h=>by have:=O.2 h;cases this
  cases op
  ·refine ⟨y,rfl,fun ν r N U hb=>⟨N,hb,fun w=>?_⟩⟩
   rw [M ν _ U,Y ν _ hb]
   by_cases J:a<b
   ·simp [Builtin.max2,J]
   ·have:a=b:=by omega
    subst this
    simp [Builtin.max2]
  ·refine ⟨x,rfl,fun ν r N U hb=>⟨r,U,fun w=>?_⟩⟩
   rw [M ν _ U,Y ν _ hb]
   simp [Builtin.min2,h]
theorem zzB {op:Bool} {c:V→A} (G:¬(min2 op x y c).isBad):∃ z,c z=min2 op x y c∧∀ (ν:Val) (a b:Value),VR ν x a→VR ν y b→∃ T,VR ν z T∧∀ w,((if op then Builtin.min2 a b else Builtin.max2 a b).run P w=.ok T w):=by
 cases x with
 | nat j a =>
  cases y with
  | nat k b =>
   unfold min2 at G ⊢
   simp only at G ⊢
   cases B:qO j k with
   | false=>rw [B] at G;exact absurd trivial G
   | true =>
    have e:=(qx _ _).1 B
    subst e
    simp only
    exact zi6 (j:=j) (a:=Int.ofNat a) (b:=Int.ofNat b) (fun _ _ h=>h) (fun _ _ h=>h) (by rw [Nat.blt_eq];simp)
  | neg k b =>
   unfold min2 at G ⊢
   simp only at G ⊢
   cases B:qO j k with
   | false=>rw [B] at G;exact absurd trivial G
   | true =>
    have e:=(qx _ _).1 B
    subst e
    simp only
    exact zi6 (j:=j) (a:=Int.ofNat a) (b:=Int.negSucc b) (fun _ _ h=>h) (fun _ _ h=>h) (by simp only [true_iff,Int.ofNat_eq_natCast];omega)
  | _=>exact absurd trivial G
 | neg j a =>
  cases y with
  | nat k b =>
   unfold min2 at G ⊢
   simp only at G ⊢
   cases B:qO j k with
   | false=>rw [B] at G;exact absurd trivial G
   | true =>
    have e:=(qx _ _).1 B
    subst e
    simp only
    exact zi6 (j:=j) (a:=Int.negSucc a) (b:=Int.ofNat b) (fun _ _ h=>h) (fun _ _ h=>h) (by simp only [Int.ofNat_eq_natCast];constructor<;>intro h<;>first | (cases h;done) | (exfalso;omega))
  | neg k b =>
   unfold min2 at G ⊢
   simp only at G ⊢
   cases B:qO j k with
   | false=>rw [B] at G;exact absurd trivial G
   | true =>
    have e:=(qx _ _).1 B
    subst e
    simp only
    exact zi6 (j:=j) (a:=Int.negSucc a) (b:=Int.negSucc b) (fun _ _ h=>h) (fun _ _ h=>h) (by rw [Nat.blt_eq];omega)
  | _=>exact absurd trivial G
 | _=>exact absurd trivial G
theorem zfV {op:Bool}:∀ {l:List V} {x:V} {c:V→A},¬(yV op l x c).isBad→∃ z,c z=yV op l x c∧∀ (ν:Val) (a:Value) (bs:List Value),VR ν x a→VRs ν l bs →
  ∃ T,VR ν z T∧∀ w,((if op then bs.foldlM Builtin.min2 a else bs.foldlM Builtin.max2 a).run P w=.ok T w)
 | [],x,c,_=>⟨x,rfl,fun ν a bs U hb=>⟨a,U,fun w=>by simp only [VRs] at hb;subst hb;cases op<;>simp⟩⟩
 | y::l,x,c,G=>by
  have e:yV op (y::l) x c=min2 op x y fun z=>yV op l z c:=rfl
  rw [e] at G ⊢
  obtain ⟨z,I,J⟩:=zzB (P:=P) G
  rw [←I] at G ⊢
  obtain ⟨u,Q,K⟩:=zfV G
  refine ⟨u,Q,fun ν a bs U hb=>?_⟩
  obtain ⟨b,r,e,j,L⟩:=hb
  subst e
  obtain ⟨T,d,W⟩:=J ν a b U j
  obtain ⟨S,g,R⟩:=K ν T r d L
  refine ⟨S,g,fun w=>?_⟩
  have W:=W w
  have R:=R w
  cases op
  ·simp only [Bool.false_eq_true,if_false] at W R ⊢
   simp [List.foldlM_cons,W,R]
  ·simp only [if_true] at W R ⊢
   simp [List.foldlM_cons,W,R]
theorem zyI {pc:PC} (ts:List TypeId):zdP P pc .min ts:=by
 intro H s k G
 cases H with
 | nil=>exact absurd (by cases ts<;>trivial) G
 | cons x l =>
  have e:(buC pc .min ts).run (x::l) s k=yV true l x (fun v=>k v s):=by cases ts<;>rfl
  rw [e] at G ⊢
  obtain ⟨z,I,J⟩:=zfV (P:=P) G
  refine ⟨z,I,fun L w p ty S m E=>?_⟩
  obtain ⟨a,bs,Q,K,d⟩:=E
  obtain ⟨T,W,g⟩:=J L a bs K d
  refine ⟨T,W,?_⟩
  have g:=g w
  simp only [if_true] at g
  simp [builtin,Builtin.min_,Q,g]
theorem zwW {pc:PC} (ts:List TypeId):zdP P pc .max ts:=by
 intro H s k G
 cases H with
 | nil=>exact absurd (by cases ts<;>trivial) G
 | cons x l =>
  have e:(buC pc .max ts).run (x::l) s k=yV false l x (fun v=>k v s):=by cases ts<;>rfl
  rw [e] at G ⊢
  obtain ⟨z,I,J⟩:=zfV (P:=P) G
  refine ⟨z,I,fun L w p ty S m E=>?_⟩
  obtain ⟨a,bs,Q,K,d⟩:=E
  obtain ⟨T,W,g⟩:=J L a bs K d
  refine ⟨T,W,?_⟩
  have g:=g w
  simp only [Bool.false_eq_true,if_false] at g
  simp [builtin,Builtin.max_,Q,g]
variable {b:Bool} {j:TypeId} {x y:Value}
theorem zkP (u:P.underlying j=some d) (h:Instr.sameNow d x y=some b) (w:World):(Op.equal j x y).run P w=.ok b w:=by
 unfold Instr.sameNow at h
 split at h
 ·split at h
  ·rename_i e
   simp only [Option.some.injEq] at h
   subst h;subst e
   exact zDa u _ _ _
  ·cases h
 ·simp only [Option.some.injEq] at h
  subst h
  exact zDi u _ _
 ·simp only [Option.some.injEq] at h
  subst h
  exact zBf u _ _
 ·cases h
theorem zlg {j:TypeId} {d:TypeDesc} (u:P.underlying j=some d) (k:Value) (w:World):∀ (es:List MapEntry) (i:Nat) (r:Option (Nat × Value)),Instr.findNow d k es i=some r→(Instr.findAsking j k es i).run P w=.ok r w
 | [],i,r,h=>by
  simp only [Instr.findNow,Option.some.injEq] at h
  subst h;rfl
 | e::es,i,r,h=>by
  simp only [Instr.findNow] at h
  split at h
  ·rename_i C
   simp only [Option.some.injEq] at h
   subst h
   simp [Instr.findAsking,zkP u C w]
  ·rename_i C
   simp [Instr.findAsking,zkP u C w,zlg u k w es (i+1) r h]
  ·cases h
variable {r:Option (Nat × Value)}
theorem zkX (u:P.underlying j=some d) (k:Value) (es:List MapEntry) (w:World) (h:(Instr.findAsking j k es 0).run P w=.ok r w):(Instr.findKey j k es).run P w=.ok r w:=by
 simp only [Instr.findKey,Sem.run_bind,zC u,Result.andThen_ok]
 cases o:Instr.findNow d k es 0 with
 | none=>exact h
 | some Y =>
  have:=zlg u k w es 0 Y o
  rw [h] at this
  simp only [Result.ok.injEq,and_true] at this
  subst this
  rfl
def zwr (ν:Val):Option V→Option (Nat × Value)→Prop
 | none,none=>True
 | some v,some (_,y)=>VR ν v y
 | _,_=>False
theorem zpP {pc:PC} (Z:PcOk P pc) {j:TypeId} {key:V}:∀ {es:List ME} {c:Option V→A},¬(zpk (pc.eqKind j) key es c).isBad→∃ r,c r=zpk (pc.eqKind j) key es c ∧
  ∀ (ν:Val) (k:Value) (X:List MapEntry),VR ν key k→MRs ν es X→∀ i,∃ Y,zwr ν r Y∧∀ w,(Instr.findAsking j k X i).run P w=.ok Y w
 | [],c,_=>⟨none,rfl,fun ν k X _ z i=>⟨none,trivial,fun w=>by simp only [MRs] at z;subst z;rfl⟩⟩
 | e::es,c,G=>by
  have eq:zpk (pc.eqKind j) key (e::es) c=(match eqV (pc.eqKind j) false key e.key with | some true=>c (some e.val) | some false=>zpk (pc.eqKind j) key es c | none=>.bad 0):=rfl
  rw [eq] at G ⊢
  cases U:eqV (pc.eqKind j) false key e.key with
  | none=>rw [U] at G;exact absurd trivial G
  | some b =>
   rw [U] at G
   cases b with
   | true =>
    refine ⟨some e.val,rfl,fun ν k X F z i=>?_⟩
    obtain ⟨x,r,T,⟨a,s,D⟩,J⟩:=z
    subst T
    obtain ⟨Q,_⟩:=zjX Z U F a
    exact ⟨some (i,x.val),s,fun w=>by simp [Instr.findAsking,Q w]⟩
   | false =>
    obtain ⟨B,h0,I⟩:=zpP Z G
    refine ⟨B,h0,fun ν k X F z i=>?_⟩
    obtain ⟨x,r,T,⟨a,s,D⟩,J⟩:=z
    subst T
    obtain ⟨Q,_⟩:=zjX Z U F a
    obtain ⟨Y,K,d⟩:=I ν k r F J (i+1)
    exact ⟨Y,K,fun w=>by simp [Instr.findAsking,Q w,d w]⟩
theorem zdU (h:QTy P t q) (b:Bool) (d:Nat) (v:Value) (w:World):(Instr.checkKey b (d+1) t v).run P w=.ok () w:=by
 rcases h with ⟨_,h⟩ | ⟨_,k,h⟩ | ⟨_,h⟩
 all_goals
  simp only [Instr.checkKey,Sem.run_bind,zC h,Result.andThen_ok]
  rfl
theorem zf9 {pc:PC} (Z:PcOk P pc) (h:(pc.eqKind t).k=0∨(pc.eqKind t).k=7∨(pc.eqKind t).k=8):∃ q,QTy P t q:=by
 unfold PC.eqKind at h
 cases hu:pc.und t with
 | none=>rw [hu] at h;simp at h
 | some d =>
  have z:=Z.und hu
  rw [hu] at h
  cases d with
  | bool=>exact ⟨0,.inl ⟨rfl,z⟩⟩
  | int k=>exact ⟨7,.inr (.inl ⟨rfl,k,z⟩)⟩
  | string=>exact ⟨8,.inr (.inr ⟨rfl,z⟩)⟩
  | pointer e =>
   simp only at h
   cases hz:Nat.beq (pc.size e) 0<;>rw [hz] at h<;>simp at h
  | struct A =>
   simp only at h
   cases U:zbG t pc.eqs<;>rw [U] at h<;>simp at h
  | _=>simp at h
theorem zbZ {pc:PC} (Z:PcOk P pc) (h:(pc.eqKind t).k=6):∃ A,P.underlying t=some (.struct A)∧yL P 0 A.toList (pc.eqKind t).qs:=by
 unfold PC.eqKind at h ⊢
 cases hu:pc.und t with
 | none=>rw [hu] at h;simp at h
 | some d =>
  have z:=Z.und hu
  rw [hu] at h
  cases d with
  | struct A =>
   simp only at h ⊢
   cases U:zbG t pc.eqs with
   | none=>rw [U] at h;simp at h
   | some qs =>
    simp only
    obtain ⟨_,h0⟩:=Z.eqs t qs U
    rcases h0 with ⟨_,B,I,J⟩ | ⟨n,e,q,i,h0,_⟩
    ·exact ⟨B,I,J⟩
    ·rw [z] at h0;cases h0
  | pointer e =>
   simp only at h
   cases hz:Nat.beq (pc.size e) 0<;>rw [hz] at h<;>simp at h
  | _=>simp at h
theorem yL.length:∀ {n:Nat} {A:List Field} {qs:List Nat},yL P n A qs→A.length=qs.length
 | _,[],[],_=>rfl
 | _,f::A,q::qs,⟨_,_,_,h⟩=>by simp [yL.length h]
 | _,[],_::_,h=>h.elim
 | _,_::_,[],h=>h.elim
theorem zij {b:Bool} {d:Nat} (cs:Array Value) (w:World):∀ (A:List Field) (qs:List Nat) (n:Nat),yL P n A qs→n+A.length≤cs.size →
  (forIn (m := Sem) A PUnit.unit (fun (f : Field) (_ : PUnit) => if f.name ≠ "_" then (do Instr.checkKey b (d + 1) f.type (← part f.type cs f.offset); pure (ForInStep.yield PUnit.unit)) else pure (ForInStep.yield PUnit.unit))).run P w = .ok PUnit.unit w
 | [],_,_,_,_=>by simp
 | f::A,[],_,h,_=>h.elim
 | f::A,q::qs,n,⟨I,J,Q,K⟩,u=>by
  simp only [kay] at u
  obtain ⟨x,M⟩:∃ x,cs[n]?=some x:=⟨cs[n]'(by omega),Array.getElem?_eq_getElem _⟩
  have B:=zkd (P:=P) Q cs n _ M w
  rw [←J] at B
  have X:=zij (b:=b) (d:=d) cs w A qs (n+1) K (by omega)
  rw [List.forIn_cons]
  simp only [ne_eq,I,not_false_eq_true,if_true,Sem.run_bind,B,zdU Q,Result.andThen_ok,Sem.run_pure]
  exact X
theorem ziI {d:Nat} {A:Array Field} {qs:List Nat} (G:P.underlying j=some (.struct A)) (B:yL P 0 A.toList qs) (cs:Array Value) (f:A.size≤cs.size) (w:World):(Instr.checkKey b (d+1+1) j (.agg cs)).run P w=.ok () w:=by
 have:=zij (b:=b) (d:=d) cs w A.toList _ 0 B (by simpa using f)
 rw [Instr.checkKey]
 simp only [Sem.run_bind,zC G,Result.andThen_ok]
 rw [←Array.forIn_toList]
 rw [this];rfl
theorem ztx {pc:PC} (Z:PcOk P pc) (F:zb3 (pc.eqKind j)=true) {key:V} {c:A} (G:¬(zan (pc.eqKind j) key c).isBad):zan (pc.eqKind j) key c=c∧∀ (ν:Val) (k:Value),VR ν key k→∀ b w,(Instr.checkKey b 10000 j k).run P w=.ok () w:=by
 have plain:(pc.eqKind j).k=0∨(pc.eqKind j).k=7∨(pc.eqKind j).k=8→zan (pc.eqKind j) key c=c∧∀ (ν:Val) (k:Value),VR ν key k→∀ b w,(Instr.checkKey b 10000 j k).run P w=.ok () w:=by
  intro h
  obtain ⟨q,U⟩:=zf9 Z h
  refine ⟨?_,fun ν k _ b w=>zdU U b 9999 k w⟩
  unfold zan
  rcases h with h | h | h<;>rw [h]<;>rfl
 by_cases W:(pc.eqKind j).k=6
 ·unfold zan at G ⊢
  rw [W] at G ⊢
  cases key with
  | ls t l =>
   simp only at G ⊢
   cases H:Nat.beq t 0 with
   | false=>rw [H] at G;exact absurd trivial G
   | true =>
    have:=kac H
    subst this
    simp only [H,yy] at G ⊢
    cases f:Nat.beq l.length (pc.eqKind j).qs.length with
    | false=>rw [f] at G;exact absurd trivial G
    | true =>
     have f:=kac f
     refine ⟨rfl,fun ν k E b w=>?_⟩
     obtain ⟨M,I,J,_⟩:=E
     subst J
     obtain ⟨C,Q,K⟩:=zbZ Z W
     have O:=K.length
     exact ziI (d:=9998) Q K ⟨M⟩ (by have:=I.length;simp at O ⊢;omega) w
  | _=>exact absurd trivial G
 ·refine plain ?_
  unfold zb3 at F
  simp only [Bool.or_eq_true] at F
  rcases F with ((F | F) | F) | F
  ·exact .inl (kac F)
  ·exact absurd (kac F) W
  ·exact .inr (.inl (kac F))
  ·exact .inr (.inr (kac F))
theorem VR.pair (h:VR ν v y):VR ν (.ls 1 [v,.bool b]) (.tuple #[y,.bool b]):=⟨[y,.bool b],⟨y,_,rfl,h,_,_,rfl,rfl,rfl⟩,rfl⟩
variable {ok:Bool}
theorem zqF {z:V} {r:Option V} {c:V→A}:∃ u,c u=zxy z ok r c∧∀ (ν:Val) (Y:Option (Nat × Value)) (f:Value),zwr ν r Y→VR ν z f →
  VR ν u (if ok then .tuple #[(Y.map (·.2)).getD f,.bool Y.isSome] else (Y.map (·.2)).getD f):=by
 cases r with
 | none=>cases ok with
  | true=>exact ⟨_,rfl,fun ν Y f I J=>by cases Y with | none=>exact VR.pair J | some p=>exact I.elim⟩
  | false=>exact ⟨_,rfl,fun ν Y f I J=>by cases Y with | none=>exact J | some p=>exact I.elim⟩
 | some v=>cases ok with
  | true=>exact ⟨_,rfl,fun ν Y f I J=>by cases Y with | none=>exact I.elim | some p=>exact VR.pair I⟩
  | false=>exact ⟨_,rfl,fun ν Y f I J=>by cases Y with | none=>exact I.elim | some p=>exact I⟩
theorem zkT {k f:Value} (ok:Bool) (H:P.underlying t=some (.map j el)) (u:P.underlying j=some d)
  (M:(x=.map none∧es=#[])∨∃ b R,x=.map (some b)∧w.heap[b]?=some (.map es R)) (F:∀ b w,(Instr.checkKey b 10000 j k).run P w=.ok () w) (B:(Instr.findAsking j k es.toList 0).run P w=.ok r w) (hz:(zeroValue el).run P w=.ok f w) :
  (Instr.lookup t x k ok).run P w=.ok (if ok then .tuple #[(r.map (·.2)).getD f,.bool r.isSome] else (r.map (·.2)).getD f) w:=by
 have A:=zkX u k es.toList w B
 rcases M with ⟨rfl,rfl⟩ | ⟨b,R,rfl,hb⟩
 ·have A:(Instr.findKey j k []).run P w=.ok r w:=A
  cases r with
  | none=>simp [Instr.lookup,zC H,F,A,hz]
  | some p=>simp [Instr.lookup,zC H,F,A]
 ·cases r with
  | none=>simp [Instr.lookup,zC H,zbf hb,F,A,hz]
  | some p=>simp [Instr.lookup,zC H,zbf hb,F,A]
theorem zmd {pc:PC} (Z:PcOk P pc) (F:zb3 (pc.eqKind j)=true):∃ d,P.underlying j=some d:=by
 by_cases W:(pc.eqKind j).k=6
 ·obtain ⟨A,h,_⟩:=zbZ Z W;exact ⟨_,h⟩
 ·unfold zb3 at F
  simp only [Bool.or_eq_true] at F
  have:∃ q,QTy P j q:=by
   refine zf9 Z ?_
   rcases F with ((F | F) | F) | F
   ·exact .inl (kac F)
   ·exact absurd (kac F) W
   ·exact .inr (.inl (kac F))
   ·exact .inr (.inr (kac F))
  obtain ⟨q,⟨_,h⟩ | ⟨_,k,h⟩ | ⟨_,h⟩⟩:=this<;>exact ⟨_,h⟩
theorem zit {pc:PC} (Z:PcOk P pc) {ds:List Nat} {x i:Operand} (C:o.op=.lookup t x i ok):wi P pc fi ds o:=by
 have e:op pc fi ds o=op pc fi ds o:=rfl
 conv at e=>rhs;simp only [op,C]
 cases hu:pc.und t with
 | none=>rw [hu] at e;exact qh e
 | some d =>
  rw [hu] at e
  cases d with
  | map j el =>
   simp only [ztI] at e
   rcases zbd (zb3 (pc.eqKind j)) (zO 0) _ with h | ⟨F,h⟩
   ·exact qh (e.trans h)
   ·rw [h] at e
    obtain ⟨dj,V⟩:=zmd Z F
    by_cases hz:pc.zero el=.bad
    ·rw [hz] at e;exact qh e
    ·have e:op pc fi ds o=bi fi ds x i (fun x i s k=>ziT (pc.eqKind j) (pc.zero el) ok x i s fun v=>k v s):=by
      rw [e]
      cases T:pc.zero el<;>first | exact absurd T hz | simp only [ztj]
     obtain ⟨f,U⟩:=PC.zero_ok Z hz
     refine zAB (X:=ziT (pc.eqKind j) (pc.zero el) ok) e (by simp [C,Op.operands]) (by simp [C,Op.operands]) (fun u v s c G=>?_)
     unfold ziT at G ⊢
     obtain ⟨N,p⟩:=ztx Z F G
     rw [N] at G ⊢
     cases u with
     | nil n =>
      simp only at G ⊢
      cases H:Nat.beq n 2 with
      | false=>rw [H] at G;exact absurd trivial G
      | true =>
       have:=kac H
       subst this
       obtain ⟨z,I,J⟩:=zqF (z:=pc.zero el) (ok:=ok) (r:=none) (c:=c)
       refine ⟨z,by simp only;exact I,fun L w D m M hi=>?_⟩
       simp only [VR] at M
       refine ⟨_,J L none f trivial ((U w).2 L),?_⟩
       have:=zkT (P:=P) (w:=w) (es:=#[]) (r:=none) (k:=ev D i) ok (Z.und hu) V (.inl ⟨M,rfl⟩) (p L _ hi) rfl (U w).1
       simp [execOp,C,this]
     | ref n a =>
      simp only at G ⊢
      cases H:Nat.beq n 0 with
      | false=>rw [H] at G;exact absurd trivial G
      | true =>
       have:=kac H
       subst this
       simp only [H,y8] at G ⊢
       generalize y:Tr.get B.none a s.h=E at G ⊢
       cases E with
       | map es O =>
        simp only at G ⊢
        obtain ⟨r,I,J⟩:=zpP Z G
        obtain ⟨z,Q,K⟩:=zqF (z:=pc.zero el) (ok:=ok) (r:=r) (c:=c)
        refine ⟨z,by rw [←I];exact Q,fun L w D m M hi=>?_⟩
        obtain ⟨b,g,W⟩:=M
        obtain ⟨A,S,R⟩:=zsA m y g
        obtain ⟨Y,l,q⟩:=J L _ _ hi R 0
        refine ⟨_,K L Y f l ((U w).2 L),?_⟩
        have:=zkT (P:=P) (w:=w) ok (Z.und hu) V (.inr ⟨b,O,W,S⟩) (p L _ hi) (q w) (U w).1
        simp [execOp,C,this]
       | _=>exact absurd trivial G
     | _=>exact absurd trivial G
  | _=>exact qh e
end Go.Ev
