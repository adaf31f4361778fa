/- The evaluator is right on pure operations and on reads. No statement of the seat stands here. No condition. By an AI agent. -/
import Derived.Test.YtlklljjppambpaaGreatDoorEvB
import Derived.MapKept
import Derived.Laws.BytesString
import Derived.Lib.Builder
import Derived.Lib.UnsafeStr
namespace Go.Ev
open Go.RowKit
variable {P:Program}
def jM (P:Program) (pc:PC) (fi:FI) (ds:List Nat) (o:Oper):Prop:=∀ r tm le s k,¬((op pc fi ds o).run r tm le s k).isBad →
 ∃ v,k v s=(op pc fi ds o).run r tm le s k∧∀ ν tmps,yq ν fi.ng→zeS ν fi ds tm le tmps o→∃ y,VR ν v y∧∀ w,(execOp (ev tmps) o).run P w=.ok (.value y) w
def Sep (ν:Val) (s:S):Prop:=∀ a v b δ a' v' δ',ν.blk a v=some (b,δ)→ν.blk a' v'=some (b,δ')→(Tr.get B.none a s.h).live→(Tr.get B.none a' s.h).live→a=a'
def zEx (P:Program) (ν:Val) (s:S) (w:World):Prop:=zcm P ν s w∧Sep ν s
def wV (P:Program) (pc:PC) (fi:FI) (ds:List Nat) (o:Oper):Prop:=∀ r tm le s k,¬((op pc fi ds o).run r tm le s k).isBad →
 ∃ v,k v s=(op pc fi ds o).run r tm le s k∧∀ ν w tmps,zEx P ν s w→yq ν fi.ng→zeS ν fi ds tm le tmps o→∃ y,VR ν v y∧(execOp (ev tmps) o).run P w=.ok (.value y) w
variable {fi:FI} {ds:List Nat} {o:Oper}
theorem jM.read {pc:PC} (h:jM P pc fi ds o):wV P pc fi ds o:=fun r tm le s k hnb=>by
 obtain ⟨v,h1,h2⟩:=h r tm le s k hnb
 exact ⟨v,h1,fun ν w tmps _ hG hf=>by obtain ⟨y,h3,h4⟩:=h2 ν tmps hG hf;exact ⟨y,h3,h4 w⟩⟩
theorem zdq (fi:FI) (ds:List Nat) (x:Operand) (h:V→S→(V→S→A)→A) (r:R) (tm:T) (le:List V) (s:S) (k:V→S→A) :
  (un fi ds x h).run r tm le s k=(opd fi ds x).run tm le fun v=>h v s k:=rfl
theorem zd2 (fi:FI) (ds:List Nat) (x y:Operand) (h:V→V→S→(V→S→A)→A) (r:R) (tm:T) (le:List V) (s:S) (k:V→S→A) :
  (bi fi ds x y h).run r tm le s k=(opd fi ds x).run tm le fun v=>(opd fi ds y).run tm le fun u=>h v u s k:=rfl
variable {x:Operand}
theorem zbG {pc:PC} {X:V→(V→A)→A} (e:op pc fi ds o=un fi ds x (fun v s k=>X v fun z=>k z s)) (hm:x∈o.op.operands.toList)
  (hX:∀ u c,¬(X u c).isBad→∃ z,c z=X u c∧∀ (ν:Val) (tmps:Array Value),VR ν u (ev tmps x)→∃ z',VR ν z z'∧∀ w,(execOp (ev tmps) o).run P w=.ok (.value z') w):jM P pc fi ds o:=by
 intro r tm le s k hnb
 rw [e,zdq] at hnb ⊢
 obtain ⟨u,h1,h2⟩:=qc fi ds x tm le _ hnb
 rw [←h1] at hnb ⊢
 obtain ⟨z,h3,h4⟩:=hX u _ hnb
 exact ⟨z,h3,fun ν tmps hG hf=>h4 ν tmps (h2 ν tmps hG (hf x hm))⟩
variable {y:Operand}
theorem zzY {pc:PC} {X:V→V→(V→A)→A} (e:op pc fi ds o=bi fi ds x y (fun v u s k=>X v u fun z=>k z s)) (hm:x∈o.op.operands.toList) (hm':y∈o.op.operands.toList)
  (hX:∀ u v c,¬(X u v c).isBad→∃ z,c z=X u v c∧∀ (ν:Val) (tmps:Array Value),VR ν u (ev tmps x)→VR ν v (ev tmps y)→∃ z',VR ν z z'∧∀ w,(execOp (ev tmps) o).run P w=.ok (.value z') w):jM P pc fi ds o:=by
 intro r tm le s k hnb
 rw [e,zd2] at hnb ⊢
 obtain ⟨u,h1,h2⟩:=qc fi ds x tm le _ hnb
 rw [←h1] at hnb ⊢
 obtain ⟨v,h3,h4⟩:=qc fi ds y tm le _ hnb
 rw [←h3] at hnb ⊢
 obtain ⟨z,h5,h6⟩:=hX u v _ hnb
 exact ⟨z,h5,fun ν tmps hG hf=>h6 ν tmps (h2 ν tmps hG (hf x hm)) (h4 ν tmps hG (hf y hm'))⟩
theorem zHu {pc:PC} {X:V→S→(V→A)→A} (e:op pc fi ds o=un fi ds x (fun v s k=>X v s fun z=>k z s)) (hm:x∈o.op.operands.toList)
  (hX:∀ u s c,¬(X u s c).isBad→∃ z,c z=X u s c∧∀ (ν:Val) (w:World) (tmps:Array Value),zcm P ν s w→VR ν u (ev tmps x)→∃ z',VR ν z z'∧(execOp (ev tmps) o).run P w=.ok (.value z') w):wV P pc fi ds o:=by
 intro r tm le s k hnb
 rw [e,zdq] at hnb ⊢
 obtain ⟨u,h1,h2⟩:=qc fi ds x tm le _ hnb
 rw [←h1] at hnb ⊢
 obtain ⟨z,h3,h4⟩:=hX u _ _ hnb
 exact ⟨z,h3,fun ν w tmps hw hG hf=>h4 ν w tmps hw.1 (h2 ν tmps hG (hf x hm))⟩
variable {X:V→V→S→(V→A)→A}
theorem zMD {pc:PC} (e:op pc fi ds o=bi fi ds x y (fun v u s k=>X v u s fun z=>k z s)) (hm:x∈o.op.operands.toList) (hm':y∈o.op.operands.toList)
  (hX:∀ u v s c,¬(X u v s c).isBad→∃ z,c z=X u v s c∧∀ (ν:Val) (w:World) (tmps:Array Value),zcm P ν s w→VR ν u (ev tmps x)→VR ν v (ev tmps y)→∃ z',VR ν z z'∧(execOp (ev tmps) o).run P w=.ok (.value z') w):wV P pc fi ds o:=by
 intro r tm le s k hnb
 rw [e,zd2] at hnb ⊢
 obtain ⟨u,h1,h2⟩:=qc fi ds x tm le _ hnb
 rw [←h1] at hnb ⊢
 obtain ⟨v,h3,h4⟩:=qc fi ds y tm le _ hnb
 rw [←h3] at hnb ⊢
 obtain ⟨z,h5,h6⟩:=hX u v _ _ hnb
 exact ⟨z,h5,fun ν w tmps hw hG hf=>h6 ν w tmps hw.1 (h2 ν tmps hG (hf x hm)) (h4 ν tmps hG (hf y hm'))⟩
theorem zKX {pc:PC} (e:op pc fi ds o=bi fi ds x y (fun v u s k=>X v u s fun z=>k z s)) (hm:x∈o.op.operands.toList) (hm':y∈o.op.operands.toList)
  (hX:∀ u v s c,¬(X u v s c).isBad→∃ z,c z=X u v s c∧∀ (ν:Val) (w:World) (tmps:Array Value),zEx P ν s w→VR ν u (ev tmps x)→VR ν v (ev tmps y)→∃ z',VR ν z z'∧(execOp (ev tmps) o).run P w=.ok (.value z') w):wV P pc fi ds o:=by
 intro r tm le s k hnb
 rw [e,zd2] at hnb ⊢
 obtain ⟨u,h1,h2⟩:=qc fi ds x tm le _ hnb
 rw [←h1] at hnb ⊢
 obtain ⟨v,h3,h4⟩:=qc fi ds y tm le _ hnb
 rw [←h3] at hnb ⊢
 obtain ⟨z,h5,h6⟩:=hX u v _ _ hnb
 exact ⟨z,h5,fun ν w tmps hw hG hf=>h6 ν w tmps hw (h2 ν tmps hG (hf x hm)) (h4 ν tmps hG (hf y hm'))⟩
variable {m:Nat}
theorem qg {pc:PC} (h:op pc fi ds o=zX m):jM P pc fi ds o:=fun r tm le s k hnb=>by rw [h] at hnb;exact absurd trivial hnb
theorem zfh {pc:PC} (ho:o.op=.move x∨o.op=.assign x):jM P pc fi ds o:=by
 refine zbG (x:=x) (X:=fun v c=>c v) (by rcases ho with ho | ho<;>simp only [op,ho]) (by rcases ho with ho | ho<;>simp [ho,Op.operands]) (fun u c _=>⟨u,rfl,fun ν tmps hu=>⟨_,hu,fun w=>?_⟩⟩)
 rcases ho with ho | ho<;>simp [execOp,ho]
theorem zvc {pc:PC} {c a b:Operand} (ho:o.op=.pick c a b):jM P pc fi ds o:=by
 intro r tm le s k hnb
 have e:(op pc fi ds o).run r tm le s k=(opd fi ds c).run tm le fun v=>qL v (fun _=>(opd fi ds a).run tm le (fun v=>k v s)) (fun _=>(opd fi ds b).run tm le (fun v=>k v s)):=by simp only [op,ho]
 rw [e] at hnb ⊢
 obtain ⟨v,h1,h2⟩:=qc fi ds c tm le _ hnb
 rw [←h1] at hnb ⊢
 cases v with
 | bool t =>
  cases t with
  | false =>
   obtain ⟨u,h3,h4⟩:=qc fi ds b tm le _ hnb
   refine ⟨u,h3,fun ν tmps hG hf=>⟨_,h4 ν tmps hG (hf _ (by simp [ho,Op.operands])),fun w=>?_⟩⟩
   have:=h2 ν tmps hG (hf _ (by simp [ho,Op.operands]))
   simp only [VR] at this
   simp [execOp,ho,this,asBool]
  | true =>
   obtain ⟨u,h3,h4⟩:=qc fi ds a tm le _ hnb
   refine ⟨u,h3,fun ν tmps hG hf=>⟨_,h4 ν tmps hG (hf _ (by simp [ho,Op.operands])),fun w=>?_⟩⟩
   have:=h2 ν tmps hG (hf _ (by simp [ho,Op.operands]))
   simp only [VR] at this
   simp [execOp,ho,this,asBool]
 | _=>exact absurd trivial hnb
theorem jm (fi:FI) (ds:List Nat):∀ (l:List Operand) (tm:T) (le:List V) (c:List V→A),¬((zaJ fi ds l).run tm le c).isBad →
  ∃ v,c v=(zaJ fi ds l).run tm le c∧∀ (ν:Val) (tmps:Array Value),yq ν fi.ng→(∀ x∈l,OdR ν fi ds tm le tmps x)→VRs ν v (l.map (ev tmps))
 | [],_,_,c,_=>⟨[],rfl,fun _ _ _ _=>rfl⟩
 | x::l,tm,le,c,hnb=>by
  have e:(zaJ fi ds (x::l)).run tm le c=(opd fi ds x).run tm le fun v=>(zaJ fi ds l).run tm le fun l=>c (v::l):=rfl
  rw [e] at hnb ⊢
  obtain ⟨u,h1,h2⟩:=qc fi ds x tm le _ hnb
  rw [←h1] at hnb ⊢
  obtain ⟨v,h3,h4⟩:=jm fi ds l tm le _ hnb
  exact ⟨u::v,h3,fun ν tmps hG hf=>⟨_,_,rfl,h2 ν tmps hG (hf x (by simp)),h4 ν tmps hG (fun y hy=>hf y (by simp [hy]))⟩⟩
theorem zf7 {pc:PC} {fn:Fn} {a b:Array Operand} (ho:o.op=.makeFunc fn a b):jM P pc fi ds o:=by
 intro r tm le s k hnb
 have e:(op pc fi ds o).run r tm le s k=(zaJ fi ds a.toList).run tm le fun u=>(zaJ fi ds b.toList).run tm le fun v=>k (.fn fn u v) s:=by simp only [op,ho]
 rw [e] at hnb ⊢
 obtain ⟨u,h1,h2⟩:=jm fi ds a.toList tm le _ hnb
 rw [←h1] at hnb ⊢
 obtain ⟨v,h3,h4⟩:=jm fi ds b.toList tm le _ hnb
 refine ⟨_,h3,fun ν tmps hG hf=>?_⟩
 refine ⟨.func fn (a.map (ev tmps)) (b.map (ev tmps)),⟨_,_,h2 ν tmps hG (fun x hx=>hf x (by simp [ho,Op.operands];exact .inl (by simpa using hx))),h4 ν tmps hG (fun x hx=>hf x (by simp [ho,Op.operands];exact .inr (by simpa using hx))),?_⟩,fun w=>?_⟩
 ·congr 1<;>(apply Array.ext';simp)
 ·simp [execOp,ho,Instr.makeFunc]
variable {t:TypeId}
theorem ztt {pc:PC} {u:UnOp} (ho:o.op=.unOp u t x):jM P pc fi ds o:=by
 refine zbG (x:=x) (X:=xUn u) (by simp only [op,ho]) (by simp [ho,Op.operands]) (fun v c hnb=>?_)
 cases u with
 | not =>
  cases v with
  | bool b =>
   refine ⟨.bool (!b),by simp only [xUn,zco,wD],fun ν tmps hu=>⟨_,rfl,fun w=>?_⟩⟩
   simp only [VR] at hu
   simp [execOp,ho,hu,Op.unary]
  | _=>exact absurd trivial hnb
 | _=>exact absurd trivial hnb
variable {d:TypeDesc}
theorem zy (h:P.underlying t=some d) (w:World):(underlying t).run P w=.ok d w:=by simp [underlying,h]
variable {i:TypeInfo}
theorem zbw (h:P.info? t=some i) (w:World):(typeInfo t).run P w=.ok i w:=by simp [typeInfo,h]
theorem yw (h:P.info? t=some i) (w:World):(sizeOf t).run P w=.ok i.size w:=by simp [sizeOf,zbw h]
def zti:TypeDesc→Bool | .struct _=>true | .array _ _=>true | _=>false
theorem zFV (h:P.underlying t=some d) (w:World):(isAgg t).run P w=.ok (zti d) w:=by
 unfold isAgg;cases d<;>simp [zy h,zti]
variable {β:Type}
theorem PC.sz_or (pc:PC) (t:Nat) (d:β) (k:Nat→β):pc.sz t d k=d∨∃ i,pc.info t=some i∧pc.sz t d k=k i.size:=by
 unfold PC.sz
 cases hi:pc.info t with
 | none=>exact .inl rfl
 | some i=>exact .inr ⟨i,rfl,by simp only [zH]⟩
theorem PC.by_or (pc:PC) (t:Nat) (d:β) (k:Nat→β):pc.by t d k=d∨∃ i,pc.info t=some i∧pc.by t d k=k i.bytes:=by
 unfold PC.by
 cases hi:pc.info t with
 | none=>exact .inl rfl
 | some i=>exact .inr ⟨i,rfl,by simp only [zH]⟩
theorem PC.ag_or (pc:PC) (t:Nat) (d:β) (k:Bool→β):pc.ag t d k=d∨∃ u,pc.und t=some u∧pc.ag t d k=k (zti u):=by
 unfold PC.ag
 cases hi:pc.und t with
 | none=>exact .inl rfl
 | some i=>exact .inr ⟨i,rfl,by cases i<;>rfl⟩
theorem zac (b:Bool) (d k:β):chk b d k=d∨(b=true∧chk b d k=k):=by cases b<;>simp [chk]
theorem zg1 (l:List V):zjX l=l.length:=jn l id
variable {v:V} {ν:Val}
theorem zLk {x:Value} (h:VR ν v x) (h1:v≠.bad) (h2:∀ t l,v≠.ls t l):x.oneCell'=true:=by
 cases v with
 | bad=>exact absurd rfl h1
 | ls t l=>exact absurd rfl (h2 t l)
 | nat k n=>simp only [VR] at h;subst h;rfl
 | neg k n=>simp only [VR] at h;subst h;rfl
 | bool b=>simp only [VR] at h;subst h;rfl
 | str l=>obtain ⟨s,rfl,_⟩:=h;rfl
 | ptr a v o=>obtain ⟨b,δ,_,rfl⟩:=h;rfl
 | sl a v o len cap=>obtain ⟨b,δ,_,rfl,_⟩:=h;rfl
 | so a v o len e=>obtain ⟨b,δ,cap,_,rfl,_⟩:=h;rfl
 | nil t =>
  rcases t with _ | _ | _ | _ | _ | t<;>simp only [VR] at h
  all_goals (subst h;rfl)
 | ref t a =>
  rcases t with _ | _ | _ | _ | t
  ·obtain ⟨b,_,rfl⟩:=h;rfl
  ·obtain ⟨_,_,rfl⟩:=VR.ref1 h;rfl
  ·exact h.elim
  ·obtain ⟨b,_,rfl⟩:=h;rfl
  ·exact h.elim
 | fn f a b=>obtain ⟨c,d,_,_,rfl⟩:=h;rfl
 | ifc t v=>obtain ⟨y,_,rfl⟩:=h;rfl
theorem zjK {x:Value} (h:x.oneCell'=true):x.cells=#[x]:=by cases x<;>first | rfl | cases h
theorem PC.zero_ok {pc:PC} (hp:PcOk P pc) {t:Nat} (h:pc.zero t≠.bad):∃ z,∀ w,(zeroValue t).run P w=.ok z w∧∀ ν,VR ν (pc.zero t) z:=by
 unfold PC.zero at *
 cases hi:pc.info t with
 | none=>rw [hi] at h;exact absurd rfl h
 | some i =>
  rw [hi] at h
  simp only at h ⊢
  cases hz:i.zero with
  | none=>rw [hz] at h;exact absurd rfl h
  | some v =>
   rw [hz] at h
   exact ⟨v,fun w=>⟨by simp [zeroValue,zbw (hp.info t i hi),hz],fun ν=>zDI ν v h⟩⟩
theorem PC.zc_or {pc:PC} (hp:PcOk P pc) (t:Nat) (d:β) (k:List V→β):pc.zc t d k=d∨∃ zc,pc.zc t d k=k zc∧∃ z:Value,(∀ w,(zeroValue t).run P w=.ok z w)∧(∀ ν,VRs ν zc z.cells.toList)∧(∀ y∈z.cells.toList,y.oneCell'=true):=by
 unfold PC.zc
 cases hz:pc.zero t with
 | bad=>exact .inl rfl
 | ls u l =>
  rcases u with _ | u
  ·right
   obtain ⟨z,h1⟩:=PC.zero_ok hp (t:=t) (by rw [hz];simp)
   refine ⟨l,rfl,z,fun w=>(h1 w).1,fun ν=>?_,?_⟩
   ·have:=(h1 default).2 ν
    rw [hz] at this
    obtain ⟨c,h2,rfl,h3⟩:=this
    simpa [Value.cells] using h2
   ·have:=(h1 default).2 ⟨fun _ _=>none,fun _ _=>0,fun _=>0⟩
    rw [hz] at this
    obtain ⟨c,h2,rfl,h3⟩:=this
    simpa [Value.cells] using h3
  ·exact .inl rfl
 | _ =>
  right
  obtain ⟨z,h1⟩:=PC.zero_ok hp (t:=t) (by rw [hz];simp)
  rw [hz] at h1
  have h1c:z.oneCell'=true:=zLk ((h1 default).2 ⟨fun _ _=>none,fun _ _=>0,fun _=>0⟩) (by simp) (by simp)
  refine ⟨_,rfl,z,fun w=>(h1 w).1,fun ν=>?_,?_⟩
  ·rw [zjK h1c];exact ⟨z,[],rfl,(h1 default).2 ν,rfl⟩
  ·rw [zjK h1c];intro y hy;simp at hy;subst hy;exact h1c
theorem zfZ {pc:PC} (ho:o.op=.nilCheck x):jM P pc fi ds o:=by
 refine zbG (x:=x) (X:=zB) (by simp only [op,ho]) (by simp [ho,Op.operands]) (fun v c hnb=>?_)
 have key:∀ (ν:Val) (tmps:Array Value),VR ν v (ev tmps x)→(ev tmps x≠.pointer none∧ev tmps x≠.nilIface∧ev tmps x≠.nilFunc∧∀ f a b,ev tmps x=.func f a b→∀ n,f≠.method n)→∃ z',VR ν v z'∧∀ w,(execOp (ev tmps) o).run P w=.ok (.value z') w:=by
  intro ν tmps hv ⟨h1,h2,h3,h4⟩
  refine ⟨_,hv,fun w=>?_⟩
  simp only [execOp,ho]
  generalize ev tmps x=y at *
  cases y<;>first
   | (rename_i f a b;cases f<;>first | rfl | exact absurd rfl (h4 _ _ _ rfl _))
   | (rename_i a;cases a<;>first | rfl | exact absurd rfl h1)
   | rfl
   | exact absurd rfl h2
   | exact absurd rfl h3
 cases v with
 | bad=>exact absurd trivial hnb
 | nil t=>exact absurd trivial hnb
 | fn f a b =>
  cases f with
  | func f =>
   refine ⟨_,rfl,fun ν tmps hv=>key ν tmps hv ?_⟩
   obtain ⟨c,d,_,_,e⟩:=hv
   rw [e]
   refine ⟨by simp,by simp,by simp,fun f a b h n=>by simp at h;rw [←h.1];simp⟩
  | _=>exact absurd trivial hnb
 | ref t a =>
  unfold zB at hnb
  simp only at hnb
  cases ht:Nat.beq t 3 with
  | true=>rw [ht] at hnb;exact absurd trivial hnb
  | false =>
   refine ⟨.ref t a,by simp only [zB,ht],fun ν tmps hv=>key ν tmps hv ?_⟩
   rcases t with _ | _ | _ | _ | t
   ·obtain ⟨b,_,e⟩:=hv;rw [e];simp
   ·obtain ⟨_,_,e⟩:=VR.ref1 hv;rw [e];simp
   ·exact hv.elim
   ·simp at ht
   ·exact hv.elim
 | nat k n=>exact ⟨_,rfl,fun ν tmps hv=>key ν tmps hv (by simp only [VR] at hv;rw [hv];simp)⟩
 | neg k n=>exact ⟨_,rfl,fun ν tmps hv=>key ν tmps hv (by simp only [VR] at hv;rw [hv];simp)⟩
 | bool b=>exact ⟨_,rfl,fun ν tmps hv=>key ν tmps hv (by simp only [VR] at hv;rw [hv];simp)⟩
 | str l=>exact ⟨_,rfl,fun ν tmps hv=>key ν tmps hv (by obtain ⟨s,e,_⟩:=hv;rw [e];simp)⟩
 | ptr a v o=>exact ⟨_,rfl,fun ν tmps hv=>key ν tmps hv (by obtain ⟨b,δ,_,e⟩:=hv;rw [e];simp)⟩
 | sl a v o len cap=>exact ⟨_,rfl,fun ν tmps hv=>key ν tmps hv (by obtain ⟨b,δ,_,e,_⟩:=hv;rw [e];simp)⟩
 | so a v o len e=>exact ⟨_,rfl,fun ν tmps hv=>key ν tmps hv (by obtain ⟨b,δ,cap,_,e,_⟩:=hv;rw [e];simp)⟩
 | ls t l=>exact ⟨_,rfl,fun ν tmps hv=>key ν tmps hv (by
   obtain ⟨c,_,e⟩:=hv
   rcases t with _ | _ | t
   ·rw [e.1];simp
   ·rw [e];simp
   ·exact e.elim)⟩
 | ifc t v=>exact ⟨_,rfl,fun ν tmps hv=>key ν tmps hv (by obtain ⟨y,_,e⟩:=hv;rw [e];simp)⟩
variable {l:List V} {c:V→A}
theorem zHf {o:Nat} (hnb:¬(zJf o l c (.bad m)).isBad):∃ x,l[o]?=some x∧c x=zJf o l c (.bad m):=by
 induction o generalizing l with
 | zero=>cases l with
  | nil=>exact absurd trivial hnb
  | cons x l=>exact ⟨x,rfl,rfl⟩
 | succ o ih=>cases l with
  | nil=>exact absurd trivial hnb
  | cons x l =>
   have e:zJf (o+1) (x::l) c (.bad m)=zJf o l c (.bad m):=rfl
   rw [e] at hnb ⊢
   simpa using ih hnb
theorem zhy {pc:PC} {i:Nat} (ho:o.op=.extract x i):jM P pc fi ds o:=by
 refine zbG (x:=x) (X:=zU i) (by simp only [op,ho,zH]) (by simp [ho,Op.operands]) (fun v c hnb=>?_)
 cases v with
 | ls t l =>
  unfold zU at hnb ⊢
  simp only at hnb ⊢
  cases ht:Nat.beq t 1 with
  | false=>rw [ht] at hnb;exact absurd trivial hnb
  | true =>
   have ht':t=1:=kaa ht
   subst ht'
   obtain ⟨z,h1,h2⟩:=zHf hnb
   refine ⟨z,h2,fun ν tmps hv=>?_⟩
   obtain ⟨cc,h3,h4⟩:=hv
   obtain ⟨y,h5,h6⟩:=h3.get i z h1
   refine ⟨y,h6,fun w=>?_⟩
   have h4:ev tmps x=.tuple ⟨cc⟩:=h4
   simp [execOp,ho,h4,Instr.extract,h5]
 | _=>exact absurd trivial hnb
theorem VRs.drop {c:List Value} (h:VRs ν l c) (n:Nat):VRs ν (l.drop n) (c.drop n):=by
 refine VRs.of_get (by simp [h.length]) fun i x hi=>?_
 rw [List.getElem?_drop] at hi ⊢
 exact h.get _ _ hi
theorem VRs.take {c:List Value} (h:VRs ν l c) (n:Nat):VRs ν (l.take n) (c.take n):=by
 refine VRs.of_get (by simp [h.length]) fun i x hi=>?_
 rw [List.getElem?_take] at hi ⊢
 split at hi
 ·rename_i hlt;rw [if_pos hlt];exact h.get _ _ hi
 ·cases hi
variable {ag:Bool} {off sz:Nat}
theorem zHE (hnb:¬(zrk ag off sz v c).isBad):∃ z,c z=zrk ag off sz v c∧∀ (ν:Val) (a:Value),VR ν v a→∃ cs,a=.agg cs∧∀ t i u,P.info? t=some i→i.size=sz→P.underlying t=some u→zti u=ag→∃ z',VR ν z z'∧∀ w,(part t cs off).run P w=.ok z' w:=by
 cases v with
 | ls t l =>
  unfold zrk at hnb ⊢
  simp only at hnb ⊢
  cases ht:Nat.beq t 0 with
  | false=>rw [ht] at hnb;exact absurd trivial hnb
  | true =>
   have ht':t=0:=kaa ht
   subst ht'
   simp only [ht] at hnb ⊢
   cases ag with
   | true =>
    refine ⟨_,by simp only [wv,ziJ];rfl,fun ν a hv=>?_⟩
    obtain ⟨cc,h3,h4,h5⟩:=hv
    refine ⟨⟨cc⟩,h4,fun t i u hi hs hu hag=>⟨.agg (Array.extract ⟨cc⟩ off (off+sz)),⟨(cc.drop off).take sz,(h3.drop off).take sz,?_,fun y hy=>h5 y (List.mem_of_mem_drop (List.mem_of_mem_take hy))⟩,fun w=>?_⟩⟩
    ·congr 1
     apply Array.ext'
     simp [List.extract_eq_take_drop]
    ·simp [part,zFV hu,hag,yw hi,hs]
   | false =>
    obtain ⟨z,h1,h2⟩:=zHf hnb
    refine ⟨z,h2,fun ν a hv=>?_⟩
    obtain ⟨cc,h3,h4,h5⟩:=hv
    obtain ⟨y,h6,h7⟩:=h3.get off z h1
    refine ⟨⟨cc⟩,h4,fun t i u hi hs hu hag=>⟨y,h7,fun w=>?_⟩⟩
    simp [part,zFV hu,hag,h6]
 | _=>exact absurd trivial hnb
theorem zo6 {pc:PC} (hp:PcOk P pc) {i:Nat} (ho:o.op=.field t x i):jM P pc fi ds o:=by
 have e:op pc fi ds o=op pc fi ds o:=rfl
 conv at e=>rhs;simp only [op,ho]
 cases hu:pc.und t with
 | none=>rw [hu] at e;exact qg e
 | some d =>
  rw [hu] at e
  cases d with
  | struct fs =>
   simp only at e
   cases hf:fs[i]? with
   | none=>rw [hf] at e;exact qg e
   | some fl =>
    rw [hf] at e
    simp only [zH] at e
    rcases PC.ag_or pc fl.type (zX 0) _ with h | ⟨u,hu',h⟩
    ·exact qg (e.trans h)
    ·rw [h] at e
     rcases PC.sz_or pc fl.type (zX 0) _ with h | ⟨j,hj,h⟩
     ·exact qg (e.trans h)
     ·rw [h] at e
      refine zbG e (by simp [ho,Op.operands]) (fun v c hnb=>?_)
      obtain ⟨z,h1,h2⟩:=zHE (P:=P) hnb
      refine ⟨z,h1,fun ν tmps hv=>?_⟩
      obtain ⟨cs,h3,h4⟩:=h2 ν _ hv
      obtain ⟨z',h5,h6⟩:=h4 _ j u (hp.info _ _ hj) rfl (hp.und hu') rfl
      refine ⟨z',h5,fun w=>?_⟩
      simp [execOp,ho,Instr.field,zy (hp.und hu),hf,h3,asAgg,h6]
  | _=>exact qg e
theorem zpc {pc:PC} (hp:PcOk P pc) (ho:o.op=.index t x y):jM P pc fi ds o:=by
 have e:op pc fi ds o=op pc fi ds o:=rfl
 conv at e=>rhs;simp only [op,ho]
 cases hu:pc.und t with
 | none=>rw [hu] at e;exact qg e
 | some d =>
  rw [hu] at e
  cases d with
  | array n el =>
   simp only [zH] at e
   rcases PC.ag_or pc el (zX 0) _ with h | ⟨u,hu',h⟩
   ·exact qg (e.trans h)
   ·rw [h] at e
    rcases PC.sz_or pc el (zX 0) _ with h | ⟨j,hj,h⟩
    ·exact qg (e.trans h)
    ·rw [h] at e
     refine zzY e (by simp [ho,Op.operands]) (by simp [ho,Op.operands]) (fun v ix c hnb=>?_)
     cases ix with
     | nat k m =>
      unfold zHU at hnb ⊢
      simp only at hnb ⊢
      cases hm:Nat.blt m n with
      | false=>rw [hm] at hnb;exact absurd trivial hnb
      | true =>
       have hm':m<n:=by simpa [Nat.blt_eq] using hm
       simp only [hm] at hnb ⊢
       obtain ⟨z,h1,h2⟩:=zHE (P:=P) hnb
       refine ⟨z,h1,fun ν tmps hv hix=>?_⟩
       obtain ⟨cs,h3,h4⟩:=h2 ν _ hv
       obtain ⟨z',h5,h6⟩:=h4 _ j u (hp.info _ _ hj) rfl (hp.und hu') rfl
       refine ⟨z',h5,fun w=>?_⟩
       simp only [VR] at hix
       have h6:∀ w,(part el cs (m*j.size)).run P w=.ok z' w:=h6
       simp [execOp,ho,Instr.index,zy (hp.und hu),hix,h3,asIntOf,hm',yw (hp.info _ _ hj),h6]
     | _=>exact absurd trivial hnb
  | string =>
   refine zzY e (by simp [ho,Op.operands]) (by simp [ho,Op.operands]) (fun v ix c hnb=>?_)
   cases ix with
   | nat k m =>
    cases v with
    | str l =>
     unfold zhQ at hnb ⊢
     simp only at hnb ⊢
     have key:∀ (m:Nat) (l:List Nat) (c:Nat→A),¬(zAA m l c eA).isBad→∃ z,l[m]?=some z∧c z=zAA m l c eA:=by
      intro m
      induction m with
      | zero=>intro l c hnb;cases l with
       | nil=>exact absurd trivial hnb
       | cons x l=>exact ⟨x,rfl,rfl⟩
      | succ m ih=>intro l c hnb;cases l with
       | nil=>exact absurd trivial hnb
       | cons x l =>
        have e:zAA (m+1) (x::l) c eA=zAA m l c eA:=rfl
        rw [e] at hnb ⊢
        simpa using ih l c hnb
     obtain ⟨z,h1,h2⟩:=key _ _ _ hnb
     refine ⟨.nat .u8 z,h2,fun ν tmps hv hix=>⟨.int .u8 (Int.ofNat z),rfl,fun w=>?_⟩⟩
     simp only [VR] at hix
     obtain ⟨s,h3,h4⟩:=hv
     have h5:s[m]?=some (UInt8.ofNat z)∧z<256:=by
      rw [←h4] at h1
      unfold qm at h1
      rw [kal] at h1
      cases hq:s.data.toList[m]? with
      | none=>rw [hq] at h1;cases h1
      | some b =>
       rw [hq] at h1
       simp only [Option.map_some,Option.some.injEq] at h1
       subst h1
       refine ⟨?_,b.toNat_lt⟩
       have hlt:m<s.data.size:=by
        have:=(kad.1 hq).1;simpa using this
       have hlt2:m<s.size:=hlt
       rw [getElem?_pos s m hlt2]
       have:=(kad.1 hq).2
       have h9:s[m]=b:=by rw [←this];rfl
       rw [h9];simp
     have h6:(0:Int)≤(m:Int):=Int.natCast_nonneg m
     have h7:(UInt8.ofNat z).toNat=z:=by simp;omega
     simp [execOp,ho,Instr.index,zy (hp.und hu),hix,h3,asIntOf,h5.1,h6]
     omega
    | _=>exact absurd trivial hnb
   | _=>exact absurd trivial hnb
  | _=>exact qg e
theorem PC.size_of {pc:PC} {t:Nat} (h:pc.info t=some i):pc.size t=i.size:=by simp [PC.size,h]
theorem zaC (b x n:Nat):(⟨b,x,none⟩:Addr).add n=⟨b,x+n,none⟩:=by unfold Addr.add;split<;>simp_all
theorem zeN {pc:PC} (hp:PcOk P pc) {i:Nat} (ho:o.op=.fieldAddr t x i):jM P pc fi ds o:=by
 have e:op pc fi ds o=op pc fi ds o:=rfl
 conv at e=>rhs;simp only [op,ho]
 cases hu:pc.und t with
 | none=>rw [hu] at e;exact qg e
 | some d =>
  rw [hu] at e
  cases d with
  | struct fs =>
   simp only at e
   cases hf:fs[i]? with
   | none=>rw [hf] at e;exact qg e
   | some fl =>
    rw [hf] at e
    simp only at e
    rcases PC.sz_or pc fl.type (zX 0) _ with h | ⟨j,hj,h⟩
    ·exact qg (e.trans h)
    ·rw [h] at e
     rcases zac (!(Nat.beq j.size 0)) (zX 0) _ with h | ⟨hz,h⟩
     ·exact qg (e.trans h)
     ·rw [h] at e
      simp only [zH] at e
      have hz':j.size≠0:=fun k=>by rw [k] at hz;cases hz
      refine zbG e (by simp [ho,Op.operands]) (fun v c hnb=>?_)
      cases v with
      | ptr a v p =>
       refine ⟨_,by simp only [zf,zH];rfl,fun ν tmps hv=>?_⟩
       obtain ⟨b,δ,h1,h2⟩:=hv
       refine ⟨.pointer (some ⟨b,δ+(p+fl.offset),none⟩),⟨b,δ,h1,rfl⟩,fun w=>?_⟩
       simp [execOp,ho,Instr.fieldAt,zy (hp.und hu),hf,h2,Instr.sureAddr,fieldPlace,yw (hp.info _ _ hj),hz',zaC,Nat.add_assoc]
      | _=>exact absurd trivial hnb
  | _=>exact qg e
theorem zes {pc:PC} (hp:PcOk P pc) (ho:o.op=.indexAddr t x y):jM P pc fi ds o:=by
 have e:op pc fi ds o=op pc fi ds o:=rfl
 conv at e=>rhs;simp only [op,ho]
 cases hu:pc.und t with
 | none=>rw [hu] at e;exact qg e
 | some d =>
  rw [hu] at e
  cases d with
  | slice el =>
   simp only at e
   rcases PC.sz_or pc el (zX 0) _ with h | ⟨j,hj,h⟩
   ·exact qg (e.trans h)
   ·rw [h] at e
    refine zzY e (by simp [ho,Op.operands]) (by simp [ho,Op.operands]) (fun v ix c hnb=>?_)
    have key:∀ (a:K) (vv o' len k m:Nat) (kk:IntKind) (v:V),ix=.nat kk m→(∀ ν z,VR ν v z→∃ b δ cap,ν.blk a vv=some (b,δ)∧z=.slice (some ⟨b,δ+o',none⟩) len cap) →
      zg j.size v ix c=(@Bool.rec (fun _=>A) eA (fN (Nat.add o' (Nat.mul m j.size)) (fun o=>c (.ptr a vv o))) (Nat.blt m len))→¬(zg j.size v ix c).isBad →
      ∃ z,c z=zg j.size v ix c∧∀ (ν:Val) (tmps:Array Value),VR ν v (ev tmps x)→VR ν ix (ev tmps y)→∃ z',VR ν z z'∧∀ w,(execOp (ev tmps) o).run P w=.ok (.value z') w:=by
     intro a vv o' len k m kk v hix hv e2 hnb
     rw [e2] at hnb ⊢
     cases hm:Nat.blt m len with
     | false=>rw [hm] at hnb;exact absurd trivial hnb
     | true =>
      have hm':m<len:=by simpa [Nat.blt_eq] using hm
      refine ⟨_,by simp only [zH];rfl,fun ν tmps h1 h2=>?_⟩
      obtain ⟨b,δ,cap,h3,h4⟩:=hv ν _ h1
      rw [hix] at h2
      simp only [VR] at h2
      refine ⟨.pointer (some ⟨b,δ+(o'+m*j.size),none⟩),⟨b,δ,h3,rfl⟩,fun w=>?_⟩
      simp [execOp,ho,Instr.indexAt,zy (hp.und hu),h2,h4,asIntOf,hm',yw (hp.info _ _ hj),zaC,Nat.add_assoc]
    cases ix with
    | nat kk m =>
     cases v with
     | sl a vv o' len cap=>exact key a vv o' len 0 m kk _ rfl (fun ν z h=>by obtain ⟨b,δ,h1,h2,h3⟩:=h;exact ⟨b,δ,cap,h1,h2⟩) rfl hnb
     | so a vv o' len e0=>exact key a vv o' len 0 m kk _ rfl (fun ν z h=>by obtain ⟨b,δ,cap,h1,h2,h3⟩:=h;exact ⟨b,δ,cap,h1,h2⟩) rfl hnb
     | _=>exact absurd trivial hnb
    | _=>exact absurd trivial hnb
  | _=>exact qg e
theorem zjv {c:List V→A} (hnb:¬(zp sz v c).isBad):∃ xs,c xs=zp sz v c∧xs.length=sz∧∀ (ν:Val) (x:Value),VR ν v x→VRs ν xs x.cells.toList∧∀ y∈x.cells.toList,y.oneCell'=true:=by
 have one:v≠.bad→(∀ t l,v≠.ls t l)→zp sz v c=@Bool.rec (fun _=>A) eA (c [v]) (Nat.beq sz 1)→∃ xs,c xs=zp sz v c∧xs.length=sz∧∀ (ν:Val) (x:Value),VR ν v x→VRs ν xs x.cells.toList∧∀ y∈x.cells.toList,y.oneCell'=true:=by
  intro h1 h2 e
  rw [e] at hnb ⊢
  cases hs:Nat.beq sz 1 with
  | false=>rw [hs] at hnb;exact absurd trivial hnb
  | true =>
   refine ⟨[v],rfl,(kaa hs).symm,fun ν x hx=>?_⟩
   have h3:=zLk hx h1 h2
   rw [zjK h3]
   exact ⟨⟨x,[],rfl,hx,rfl⟩,fun y hy=>by simp at hy;subst hy;exact h3⟩
 cases v with
 | bad=>exact absurd trivial hnb
 | ls t l =>
  unfold zp at hnb ⊢
  simp only at hnb ⊢
  cases ht:Nat.beq t 0 with
  | false=>rw [ht] at hnb;exact absurd trivial hnb
  | true =>
   have ht':t=0:=kaa ht
   subst ht'
   simp only [ht,jn] at hnb ⊢
   cases hn:Nat.beq l.length sz with
   | false=>rw [hn] at hnb;exact absurd trivial hnb
   | true =>
    refine ⟨l,rfl,kaa hn,fun ν x hx=>?_⟩
    obtain ⟨cc,h3,h4,h5⟩:=hx
    rw [h4]
    exact ⟨h3,h5⟩
 | _=>exact one (by simp) (by simp) rfl
theorem zvC (off:Nat):∀ (l:List Value) (j:Nat) (cells:Array Value),off+j+l.length≤cells.size →
  ((l.zipIdx j).foldl (fun cs (p:Value × Nat)=>cs.setIfInBounds (off+p.2) p.1) cells).size=cells.size ∧
  ∀ i,((l.zipIdx j).foldl (fun cs (p:Value × Nat)=>cs.setIfInBounds (off+p.2) p.1) cells)[i]?=if off+j≤i∧i<off+j+l.length then l[i - (off+j)]? else cells[i]?
 | [],j,cells,_=>by simp;omega
 | v::l,j,cells,h=>by
  simp only [List.zipIdx_cons,List.foldl_cons,kaH] at h ⊢
  obtain ⟨h1,h2⟩:=zvC off l (j+1) (cells.setIfInBounds (off+j) v) (by simp;omega)
  refine ⟨by rw [h1];simp,fun i=>?_⟩
  rw [h2]
  have hsz:off+j<cells.size:=by omega
  by_cases hi:off+j=i
  ·subst hi
   rw [if_neg (by omega),if_pos (by omega)]
   simp [hsz]
  ·by_cases h3:off+(j+1)≤i∧i<off+(j+1)+l.length
   ·rw [if_pos h3,if_pos (by omega),show i - (off+j)=(i - (off+(j+1)))+1 by omega];simp
   ·rw [if_neg h3,if_neg (by omega),Array.getElem?_setIfInBounds_ne hi]
theorem zL0 {xs cs:List V} {x:Array Value} {cells:Array Value} (h1:VRs ν xs x.toList) (h2:VRs ν cs cells.toList) (hl:off+xs.length≤cs.length)
  (o1:∀ y∈x.toList,y.oneCell'=true) (o2:∀ y∈cells.toList,y.oneCell'=true) :
  VRs ν (upd xs off cs) (x.zipIdx.foldl (fun cs (p:Value × Nat)=>cs.setIfInBounds (off+p.2) p.1) cells).toList∧∀ y∈(x.zipIdx.foldl (fun cs (p:Value × Nat)=>cs.setIfInBounds (off+p.2) p.1) cells).toList,y.oneCell'=true:=by
 have e:x.zipIdx.foldl (fun cs (p:Value × Nat)=>cs.setIfInBounds (off+p.2) p.1) cells=(x.toList.zipIdx 0).foldl (fun cs (p:Value × Nat)=>cs.setIfInBounds (off+p.2) p.1) cells:=by
  rw [←Array.foldl_toList];simp
 have l1:=h1.length
 have l2:=h2.length
 obtain ⟨g1,g2⟩:=zvC off x.toList 0 cells (by simp at l1 l2 ⊢;omega)
 rw [e]
 generalize (x.toList.zipIdx 0).foldl (fun cs (p:Value × Nat)=>cs.setIfInBounds (off+p.2) p.1) cells=q at *
 simp only [Nat.add_zero] at g2
 constructor
 ·refine VRs.of_get ?_ fun i v hi=>?_
  ·rw [zgV _ _ _ hl];simp at l2 ⊢;omega
  ·rw [zHx _ _ _ hl] at hi
   have:=g2 i
   rw [l1] at this
   simp only [kao]
   rw [this]
   by_cases h3:off≤i∧i<off+xs.length
   ·rw [if_pos h3] at hi ⊢
    exact h1.get _ _ hi
   ·rw [if_neg h3] at hi ⊢
    simpa using h2.get _ _ hi
 ·intro y hy
  obtain ⟨i,hi⟩:=List.getElem?_of_mem hy
  simp only [kao] at hi
  rw [g2] at hi
  split at hi
  ·exact o1 y (kae hi)
  ·exact o2 y (by rw [←kao] at hi;exact kae hi)
theorem zFA {fi:FI} {ds:List Nat} {n:Nat} {yc:Nat→Option (Nat × Nat)}:∀ (l:List (Nat × Operand)) (tm:T) (le:List V) (cs:List V) (c:List V→A),cs.length=n→¬((paC fi ds n yc l).run tm le cs c).isBad →
  ∃ out,c out=(paC fi ds n yc l).run tm le cs c∧out.length=n∧∀ (ν:Val) (tmps:Array Value) (cells:Array Value),yq ν fi.ng→(∀ p∈l,OdR ν fi ds tm le tmps p.2)→VRs ν cs cells.toList→(∀ y∈cells.toList,y.oneCell'=true) →
   ∃ cells',Instr.fill yc cells (l.map fun p=>(p.1,ev tmps p.2))=some cells'∧VRs ν out cells'.toList∧∀ y∈cells'.toList,y.oneCell'=true
 | [],tm,le,cs,c,hn,_=>⟨cs,rfl,hn,fun ν tmps cells _ _ h1 h2=>⟨cells,rfl,h1,h2⟩⟩
 | (i,x)::l,tm,le,cs,c,hn,hnb=>by
  cases hpl:yc i with
  | none =>
   have e:(paC fi ds n yc ((i,x)::l)).run tm le cs c=.bad 0:=by simp only [paC,hpl]
   rw [e] at hnb;exact absurd trivial hnb
  | some p =>
   obtain ⟨off,sz⟩:=p
   cases hb:Nat.ble (off+sz) n with
   | false =>
    have e:(paC fi ds n yc ((i,x)::l)).run tm le cs c=.bad 0:=by simp only [paC,hpl,hb,chk]
    rw [e] at hnb;exact absurd trivial hnb
   | true =>
    have e:(paC fi ds n yc ((i,x)::l)).run tm le cs c=(opd fi ds x).run tm le fun v=>zp sz v fun xs=>(paC fi ds n yc l).run tm le (upd xs off cs) c:=by
     simp only [paC,hpl,hb,chk,zH,zdp]
    rw [e] at hnb ⊢
    have hb':off+sz≤n:=kaA.mp hb
    obtain ⟨u,h1,h2⟩:=qc fi ds x tm le _ hnb
    rw [←h1] at hnb ⊢
    obtain ⟨xs,h3,h4,h5⟩:=zjv hnb
    rw [←h3] at hnb ⊢
    obtain ⟨out,h6,h7,h8⟩:=zFA l tm le (upd xs off cs) c (by rw [zgV _ _ _ (by omega)];exact hn) hnb
    refine ⟨out,h6,h7,fun ν tmps cells hG hf hc ho=>?_⟩
    obtain ⟨g1,g2⟩:=h5 ν _ (h2 ν tmps hG (hf (i,x) (by simp)))
    have g3:=g1.length
    have g4:=hc.length
    obtain ⟨g5,g6⟩:=zL0 (off:=off) g1 hc (by omega) g2 ho
    obtain ⟨cells',g7,g8,g9⟩:=h8 ν tmps _ hG (fun p hp=>hf p (by simp [hp])) g5 g6
    refine ⟨cells',?_,g8,g9⟩
    simp only [kaN,Instr.fill,hpl]
    simp only [Array.length_toList] at g3 g4
    rw [if_neg]
    ·exact g7
    ·simp;omega
theorem zl4 {pc:PC} (hp:PcOk P pc) (w:World):∀ (fs:List Field),ziA pc fs=true →
  (fs.mapM fun f=>Prod.mk f.offset <$> sizeOf f.type).run P w=.ok (fs.map fun f=>(f.offset,pc.size f.type)) w
 | [],_=>by simp
 | f::fs,h=>by
  simp only [ziA] at h
  cases hi:pc.info f.type with
  | none=>simp [hi] at h
  | some i =>
   rw [hi] at h
   simp [List.mapM_cons,yw (hp.info _ _ hi),zl4 hp w fs h,PC.size_of hi]
theorem zp1 {pc:PC} (hp:PcOk P pc) {parts:Array (Nat × Operand)} (ho:o.op=.build t parts):jM P pc fi ds o:=by
 have e:op pc fi ds o=op pc fi ds o:=rfl
 conv at e=>rhs;simp only [op,ho]
 have fin:∀ (zc:List V) (z:Value) (yc:Nat→Option (Nat × Nat)),(∀ w,(zeroValue t).run P w=.ok z w)→(∀ ν,VRs ν zc z.cells.toList)→(∀ y∈z.cells.toList,y.oneCell'=true) →
   (∀ tmps cells' w,Instr.fill yc z.cells (parts.toList.map fun p=>(p.1,ev tmps p.2))=some cells'→(execOp (ev tmps) o).run P w=.ok (.value (.agg cells')) w) →
   op pc fi ds o=(match paC fi ds (zjX zc) yc parts.toList with | ⟨f⟩=>⟨fun _ tm le s k=>f tm le zc fun l=>k (.ls 0 l) s⟩)→jM P pc fi ds o:=by
  intro zc z yc h1 h2 h3 h4 e r tm le s k hnb
  have e2:(op pc fi ds o).run r tm le s k=(paC fi ds (zjX zc) yc parts.toList).run tm le zc fun l=>k (.ls 0 l) s:=by rw [e]
  rw [e2] at hnb ⊢
  obtain ⟨out,g1,g2,g3⟩:=zFA _ tm le zc _ (zg1 zc).symm hnb
  refine ⟨_,g1,fun ν tmps hG hf=>?_⟩
  obtain ⟨cells',g4,g5,g6⟩:=g3 ν tmps z.cells hG (fun p hp=>hf p.2 (by simp [ho,Op.operands];exact ⟨p.1,by simpa using hp⟩)) (h2 ν) h3
  exact ⟨.agg cells',⟨cells'.toList,g5,rfl,g6⟩,fun w=>h4 tmps cells' w g4⟩
 cases hu:pc.und t with
 | none=>rw [hu] at e;exact qg e
 | some d =>
  rw [hu] at e
  cases d with
  | struct fs =>
   simp only at e
   rcases zac (ziA pc fs.toList) (zX 0) _ with h | ⟨hall,h⟩
   ·exact qg (e.trans h)
   ·rw [h] at e
    rcases PC.zc_or hp t (zX 0) _ with h | ⟨zc,h,z,hz,hz1,hz2⟩
    ·exact qg (e.trans h)
    ·rw [h] at e
     refine fin zc z _ hz hz1 hz2 (fun tmps cells' w hc=>?_) e
     have h':Instr.fill (fun x=>((fs.toList.map fun f=>(f.offset,pc.size f.type))[x]?)) z.cells (parts.toList.map fun p=>(p.1,ev tmps p.2))=some cells':=by
      rw [←hc];congr 1;funext i;simp
     simp only [execOp,ho]
     have hb:(Instr.build t (parts.map fun p=>(p.1,ev tmps p.2))).run P w=.ok (.agg cells') w:=by
      simp only [kal,kao] at h'
      simp [Instr.build,zy (hp.und hu),hz,Array.mapM_eq_mapM_toList,zl4 hp w _ hall,h']
     simp [hb]
  | array n el =>
   simp only at e
   rcases PC.sz_or pc el (zX 0) _ with h | ⟨j,hj,h⟩
   ·exact qg (e.trans h)
   ·rw [h] at e
    rcases PC.zc_or hp t (zX 0) _ with h | ⟨zc,h,z,hz,hz1,hz2⟩
    ·exact qg (e.trans h)
    ·rw [h] at e
     refine fin zc z _ hz hz1 hz2 (fun tmps cells' w hc=>?_) e
     simp only [execOp,ho]
     have hb:(Instr.build t (parts.map fun p=>(p.1,ev tmps p.2))).run P w=.ok (.agg cells') w:=by
      simp [Instr.build,zy (hp.und hu),hz,yw (hp.info _ _ hj),hc]
     simp [hb]
  | _=>exact qg e
variable {j:IntKind} {dst src:TypeId}
theorem zz4 {pc:PC} (hp:PcOk P pc) {i:IntKind} (ho:o.op=.convert src dst x) (h1:pc.und src=some (.int i)) (h2:pc.und dst=some (.int j)):jM P pc fi ds o:=by
 refine zbG (x:=x) (X:=yL j) (by simp only [op,ho,h1,h2,zJp]) (by simp [ho,Op.operands]) (fun v c hnb=>?_)
 cases v with
 | nat k n =>
  refine ⟨_,by simp only [yL,zaL];rfl,fun ν tmps hv=>⟨_,zeG ν _ _,fun w=>?_⟩⟩
  simp only [VR] at hv
  simp [execOp,ho,hv,convert,zy (hp.und h1),zy (hp.und h2),Conv.intToInt]
 | neg k n =>
  refine ⟨_,by simp only [yL,jd];rfl,fun ν tmps hv=>⟨_,zeG ν _ _,fun w=>?_⟩⟩
  simp only [VR] at hv
  simp [execOp,ho,hv,convert,zy (hp.und h1),zy (hp.und h2),Conv.intToInt,toI]
 | _=>exact absurd trivial hnb
theorem zCL (q:EK) (c:EK→β):fK q c=c q:=by
 obtain ⟨k,qs⟩:=q
 show fN k (fun k=>c ⟨k,qs⟩)=_
 rw [zH]
theorem zGQ (b:Bool) (c:Bool→β):cB b c=c b:=by cases b<;>rfl
theorem zvv {op:BinOp} (hop:op=.shl∨op=.shr) (k j:IntKind) (a:Int) (n:Nat) (t:TypeId) (xo yo:Operand) (w:World) :
  ((do eqGuard op t xo yo (.int k a) (.int j (.ofNat n));binOp op t (.int k a) (.int j (.ofNat n))):Sem Value).run P w =
   .ok (if op=.shl then .int k (k.wrap (a*2 ^ (min n k.bits))) else .int k (a.fdiv (2 ^ (min n k.bits)))) w:=by
 have h0:¬(Int.ofNat n<0):=by have:=Int.natCast_nonneg n;simp only [Int.ofNat_eq_natCast];omega
 rcases hop with rfl | rfl
 ·simp only [eqGuard,binOp,Op.shift,h0,if_false];rfl
 ·simp only [eqGuard,binOp,Op.shift,h0,if_false];rfl
variable {k:IntKind} {n:Nat}
theorem zG5 {op:BinOp} (hop:op=.shl∨op=.shr) {x:V} :
  ∃ v,c v=zKH op k x n c∧∀ ν,VR ν v (if op=.shl then .int k (k.wrap (toI x*2 ^ (min n k.bits))) else .int k ((toI x).fdiv (2 ^ (min n k.bits)))):=by
 rcases hop with rfl | rfl
 ·refine ⟨_,by simp only [zKH,zH,jd];rfl,fun ν=>?_⟩
  have e:Int.mul (toI x) (Int.ofNat (Nat.pow 2 (min n k.bits)))=toI x*2 ^ (min n k.bits):=by
   show toI x*((2 ^ (min n k.bits):Nat):Int)=_
   rw [Int.natCast_pow];rfl
  rw [if_pos rfl,e];exact zeG ν _ _
 ·refine ⟨_,by simp only [zKH,zH,zJY];rfl,fun ν=>?_⟩
  have e:(Int.ofNat (Nat.pow 2 (min n k.bits)))=(2:Int) ^ (min n k.bits):=by
   show ((2 ^ (min n k.bits):Nat):Int)=_
   rw [Int.natCast_pow];rfl
  rw [if_neg (by decide),e];exact zeG ν _ _
theorem zuY {op:BinOp} (hop:op=.shl∨op=.shr) {x y:V} (hnb:¬(zdg op x y c).isBad) :
  ∃ v,c v=zdg op x y c∧∀ {ν:Val} {a b:Value},VR ν x a→VR ν y b→∃ z,VR ν v z∧∀ t xo yo w,((do eqGuard op t xo yo a b;binOp op t a b):Sem Value).run P w=.ok z w:=by
 cases y with
 | nat j n =>
  cases x with
  | nat k m =>
   obtain ⟨v,h1,h2⟩:=zG5 (op:=op) hop (k:=k) (x:=.nat k m) (n:=n) (c:=c)
   refine ⟨v,h1,fun {ν a b} ha hb=>⟨_,h2 ν,fun t xo yo w=>?_⟩⟩
   simp only [VR] at ha hb
   rw [ha,hb];exact zvv hop k j _ n t xo yo w
  | neg k m =>
   obtain ⟨v,h1,h2⟩:=zG5 (op:=op) hop (k:=k) (x:=.neg k m) (n:=n) (c:=c)
   refine ⟨v,h1,fun {ν a b} ha hb=>⟨_,h2 ν,fun t xo yo w=>?_⟩⟩
   simp only [VR] at ha hb
   rw [ha,hb];exact zvv hop k j _ n t xo yo w
  | _=>exact absurd trivial hnb
 | _=>exact absurd trivial hnb
variable {yt:TypeId}
theorem zEg {pc:PC} (hp:PcOk P pc) {b:BinOp} (ho:o.op=.binOp b t x y yt) (hk:b=.eql∨b=.neq→(isC x || isC y || !(Nat.beq (pc.eqKind t).k 1))=true):jM P pc fi ds o:=by
 intro r tm le s k hnb
 have fin:∀ (X:V→V→(V→A)→A) (cst:Bool),(cst=true→isC x=true∨isC y=true)→op pc fi ds o=bi fi ds x y (fun u v s k=>X u v fun z=>k z s) →
   (∀ u v c,¬(X u v c).isBad→∃ z,c z=X u v c∧∀ {ν:Val} {a a':Value},VR ν u a→VR ν v a'→∃ z',VR ν z z'∧∀ xo yo w,(cst=true→isC xo=true∨isC yo=true)→((do eqGuard b t xo yo a a';binOp b t a a'):Sem Value).run P w=.ok z' w) →
   ∃ v,k v s=(op pc fi ds o).run r tm le s k∧∀ ν tmps,yq ν fi.ng→zeS ν fi ds tm le tmps o→∃ y,VR ν v y∧∀ w,(execOp (ev tmps) o).run P w=.ok (.value y) w:=by
  intro X cst hc e hX
  rw [e,zd2] at hnb ⊢
  obtain ⟨u,h1,h2⟩:=qc fi ds x tm le _ hnb
  rw [←h1] at hnb ⊢
  obtain ⟨v,h3,h4⟩:=qc fi ds y tm le _ hnb
  rw [←h3] at hnb ⊢
  obtain ⟨z,h5,h6⟩:=hX u v _ hnb
  refine ⟨z,h5,fun ν tmps hG hf=>?_⟩
  obtain ⟨z',h7,h8⟩:=h6 (h2 ν tmps hG (hf _ (by simp [ho,Op.operands]))) (h4 ν tmps hG (hf _ (by simp [ho,Op.operands])))
  refine ⟨z',h7,fun w=>?_⟩
  have:=h8 x y w hc
  simp only [execOp,ho]
  rw [Sem.run_bind,this];rfl
 by_cases h1:b=.shl
 ·subst h1
  exact fin (zdg .shl) false (by simp) (by simp only [op,ho]) (fun u v c hnb=>by
   obtain ⟨z,g1,g2⟩:=zuY (P:=P) (.inl rfl) hnb
   exact ⟨z,g1,fun {ν a a'} ha ha'=>by obtain ⟨z',g3,g4⟩:=g2 ha ha';exact ⟨z',g3,fun xo yo w _=>g4 t xo yo w⟩⟩)
 ·by_cases h2:b=.shr
  ·subst h2
   exact fin (zdg .shr) false (by simp) (by simp only [op,ho]) (fun u v c hnb=>by
    obtain ⟨z,g1,g2⟩:=zuY (P:=P) (.inr rfl) hnb
    exact ⟨z,g1,fun {ν a a'} ha ha'=>by obtain ⟨z',g3,g4⟩:=g2 ha ha';exact ⟨z',g3,fun xo yo w _=>g4 t xo yo w⟩⟩)
  ·by_cases h3:b=.eql∨b=.neq
   ·refine fin (zk (pc.eqKind t) (isC x || isC y) b) (isC x || isC y) (by simp) ?_ (fun u v c hnb=>?_)
    ·have hk':=hk h3
     rcases h3 with rfl | rfl<;>simp only [op,ho,zCL,zGQ,hk']
    ·obtain ⟨z,g1,g2⟩:=zzi (P:=P) hp (t:=t) ⟨h1,h2⟩ (fun _=>rfl) hnb
     exact ⟨z,g1,fun {ν a a'} ha ha'=>g2 ha ha'⟩
   ·refine fin (zk ⟨9,[]⟩ false b) false (by simp) ?_ (fun u v c hnb=>?_)
    ·cases b<;>first | (simp only [op,ho];done) | exact absurd rfl h1 | exact absurd rfl h2 | exact absurd (.inl rfl) h3 | exact absurd (.inr rfl) h3
    ·obtain ⟨z,g1,g2⟩:=zzi (P:=P) hp (t:=t) ⟨h1,h2⟩ (fun h=>absurd h h3) hnb
     exact ⟨z,g1,fun {ν a a'} ha ha'=>g2 ha ha'⟩
theorem zAz {b:B} (h:zIO b=true):∃ l n el gr mn,b=.row l n el gr mn 0 0∧n≠0:=by
 cases b with
 | row l n el gr mn f1 f2 =>
  have e:zIO (.row l n el gr mn f1 f2)=(match Nat.beq n 0 with | true=>false | false=>Nat.beq f1 0 && Nat.beq f2 0):=rfl
  rw [e] at h
  cases hn:Nat.beq n 0 with
  | true=>rw [hn] at h;cases h
  | false =>
   rw [hn] at h
   simp only [kas] at h
   obtain rfl:=kaa h.1
   obtain rfl:=kaa h.2
   exact ⟨l,n,el,gr,mn,rfl,fun k=>by rw [k] at hn;cases hn⟩
 | _=>cases h
variable {b:Nat} {fz:Nat × Nat} {e el:TypeId} {w:World}
theorem zNM (h:P.underlying t=some (.pointer e)) (hs:P.info? e=some i) (hz:i.size≠0) {b':Nat} (hb:b≠b') (o p:Nat) {c c':Array Value} {el':TypeId} {fz':Nat × Nat}
  (h1:w.heap[b]?=some (.cells c el fz)) (h2:w.heap[b']?=some (.cells c' el' fz')) (f1:fz.1=fz.2) (f2:fz'.1=fz'.2):(Op.equal t (.pointer (some ⟨b,o,none⟩)) (.pointer (some ⟨b',p,none⟩))).run P w=.ok false w:=by
 have g1:=zLD h1 f1
 have g2:=zLD h2 f2
 refine zr t _ _ w _ fun d=>?_
 simp [Op.equalIn,run_underlying h,sizeOf,typeInfo,hs,hz,sameAddr,hb,g1,g2,noView,viewAt,World.shape?,mayBeOne,stringish,h1,h2]
variable {s:S}
theorem zIF {pc:PC} (hp:PcOk P pc) (hk:(pc.eqKind t).k=1) {neg:Bool} {x y:V} (hnb:¬(zbj (pc.eqKind t) neg x y s c).isBad) :
  ∃ v,c v=zbj (pc.eqKind t) neg x y s c∧∀ {ν:Val} {a b:Value} {w:World},zEx P ν s w→VR ν x a→VR ν y b→∃ z,VR ν v z∧∀ xo yo,((do eqGuard (if neg then .neq else .eql) t xo yo a b;binOp (if neg then .neq else .eql) t a b):Sem Value).run P w=.ok z w:=by
 have other:∀ {r:A},r=zk (pc.eqKind t) false (if neg then .neq else .eql) x y c→¬r.isBad→∃ v,c v=r∧∀ {ν:Val} {a b:Value} {w:World},zEx P ν s w→VR ν x a→VR ν y b→∃ z,VR ν v z∧∀ xo yo,((do eqGuard (if neg then .neq else .eql) t xo yo a b;binOp (if neg then .neq else .eql) t a b):Sem Value).run P w=.ok z w:=by
  intro r hr hnb
  subst hr
  obtain ⟨v,h1,h2⟩:=zzi (P:=P) hp (t:=t) (q:=pc.eqKind t) (op:=if neg then .neq else .eql) (by cases neg<;>simp) (fun _=>rfl) hnb
  refine ⟨v,h1,fun {ν a b w} _ ha hb=>?_⟩
  obtain ⟨z,h3,h4⟩:=h2 ha hb
  exact ⟨z,h3,fun xo yo=>h4 xo yo w (fun h=>by cases h)⟩
 have nm:(match neg with | true=>BinOp.neq | false=>.eql)=(if neg then .neq else .eql):=by cases neg<;>rfl
 unfold zbj at hnb ⊢
 split at hnb
 ·rename_i ka v o kb u p
  cases hb:K.beq ka kb with
  | true =>
   rw [hb] at hnb
   exact other (by cases neg<;>rfl) hnb
  | false =>
   rw [hb] at hnb
   simp only [zK] at hnb ⊢
   cases hl:zIO (Tr.get B.none ka s.h) && zIO (Tr.get B.none kb s.h) with
   | false=>rw [hl] at hnb;exact absurd trivial hnb
   | true =>
    refine ⟨.bool neg,rfl,fun {ν a b w} hw ha hb'=>⟨.bool neg,rfl,fun xo yo=>?_⟩⟩
    obtain ⟨b1,δ1,g1,rfl⟩:=ha
    obtain ⟨b2,δ2,g2,rfl⟩:=hb'
    rw [kas] at hl
    obtain ⟨l1,n1,el1,gr1,mn1,r1,z1⟩:=zAz hl.1
    obtain ⟨l2,n2,el2,gr2,mn2,r2,z2⟩:=zAz hl.2
    have hne:b1≠b2:=by
     rintro rfl
     have:=hw.2 _ _ _ _ _ _ _ g1 g2 (by rw [r1];trivial) (by rw [r2];trivial)
     rw [(K.beq_iff _ _).2 this] at hb
     cases hb
    have q1:=hw.1 ka
    have q2:=hw.1 kb
    rw [r1] at q1
    rw [r2] at q2
    obtain ⟨c1,fz1,m1,-,m2,-⟩:=RowR.at_ q1 v b1 δ1 g1
    obtain ⟨c2,fz2,m3,-,m4,-⟩:=RowR.at_ q2 u b2 δ2 g2
    have f1:fz1.1=fz1.2:=by
     rcases m2 with h | h | h<;>omega
    have f2:fz2.1=fz2.2:=by
     rcases m4 with h | h | h<;>omega
    unfold PC.eqKind at hk
    cases hu:pc.und t with
    | none=>rw [hu] at hk;cases hk
    | some d =>
     rw [hu] at hk
     have hU:=hp.und hu
     cases d with
     | pointer e =>
      simp only at hk
      cases hz:Nat.beq (pc.size e) 0 with
      | true=>rw [hz] at hk;cases hk
      | false =>
       have hz':pc.size e≠0:=fun k=>by rw [k] at hz;cases hz
       obtain ⟨i,hi,his⟩:=PC.size_ne hp hz'
       have hq:=zNM (P:=P) (w:=w) hU hi (by rw [his];exact hz') hne (δ1+o) (δ2+p) m1 m3 f1 f2
       have hf:zIp P t false (.pointer (some ⟨b1,δ1+o,none⟩)) (.pointer (some ⟨b2,δ2+p,none⟩)):=jI (fun e=>by cases e) (fun _ _ e=>by cases e)
       rw [Sem.run_bind,hf _ _ _ _ (fun h=>by cases h)]
       cases neg<;>simp [binOp,hq]
     | _ =>
      first
      | (cases hk;done)
      | (simp only at hk;split at hk<;>cases hk)
 ·exact other (by cases neg<;>rfl) hnb
theorem zCA {pc:PC} (hp:PcOk P pc) {b:BinOp} (ho:o.op=.binOp b t x y yt):wV P pc fi ds o:=by
 by_cases hk:b=.eql∨b=.neq→(isC x || isC y || !(Nat.beq (pc.eqKind t).k 1))=true
 ·exact (zEg hp ho hk).read
 ·have hb:b=.eql∨b=.neq:=Classical.byContradiction fun h=>hk fun h2=>absurd h2 h
  have hc:(isC x || isC y || !(Nat.beq (pc.eqKind t).k 1))=false:=by
   cases hc:(isC x || isC y || !(Nat.beq (pc.eqKind t).k 1)) with
   | false=>rfl
   | true=>exact absurd (fun _=>hc) hk
  have h1:(pc.eqKind t).k=1:=by
   cases h:Nat.beq (pc.eqKind t).k 1 with
   | true=>exact kaa h
   | false=>rw [h] at hc;simp at hc
  obtain ⟨neg,hneg⟩:∃ neg:Bool,b=if neg then .neq else .eql:=by
   rcases hb with rfl | rfl
   ·exact ⟨false,rfl⟩
   ·exact ⟨true,rfl⟩
  refine zKX (X:=zbj (pc.eqKind t) neg) (x:=x) (y:=y) ?_ (by simp [ho,Op.operands]) (by simp [ho,Op.operands]) (fun u v s c hnb=>?_)
  ·subst hneg
   cases neg<;>simp only [op,ho,zCL,zGQ,hc,Bool.false_eq_true,if_false,if_true]
  ·obtain ⟨z,g1,g2⟩:=zIF hp h1 hnb
   refine ⟨z,g1,fun ν w tmps hw hx hy=>?_⟩
   obtain ⟨z',g3,g4⟩:=g2 hw hx hy
   refine ⟨z',g3,?_⟩
   have:=g4 x y
   rw [←hneg] at this
   simp only [execOp,ho]
   rw [Sem.run_bind,this];rfl
theorem zAq {p:V} {k:V→S→A} (hnb:¬(zd ag sz p s k).isBad):∃ z,k z s=zd ag sz p s k∧∀ (ν:Val) (w:World) (x:Value),zcm P ν s w→VR ν p x →
  ∃ a,x=.pointer (some a)∧∀ t u,P.underlying t=some u→zti u=ag→(ag=true→(P.info? t).map (·.size)=some sz)→∃ z',VR ν z z'∧(loadVar t a).run P w=.ok z' w:=by
 cases p with
 | ptr a v o =>
  cases ag with
  | true =>
   have e:zd true sz (.ptr a v o) s k=zM s a v o sz (fun l=>k (.ls 0 l) s):=rfl
   rw [e] at hnb ⊢
   obtain ⟨l,h1,h2⟩:=ww (P:=P) hnb
   refine ⟨_,h1,fun ν w x hw hx=>?_⟩
   obtain ⟨b,δ,h3,h4⟩:=hx
   obtain ⟨cs,h5,h6,h7,h8⟩:=h2 hw b δ h3
   refine ⟨_,h4,fun t u hu hag hi=>⟨.agg cs.toArray,⟨cs,h7,rfl,h8⟩,?_⟩⟩
   exact run_loadVar_mid w b (δ+o) t cs u h6 hu (by cases u<;>simp [zti] at hag<;>rfl) (by rw [h5];exact hi rfl)
  | false =>
   have e:zd false sz (.ptr a v o) s k=zbh s a v o (fun x=>k x s):=rfl
   rw [e] at hnb ⊢
   obtain ⟨l,h1,h2⟩:=zBz (P:=P) hnb
   refine ⟨_,h1,fun ν w x hw hx=>?_⟩
   obtain ⟨b,δ,h3,h4⟩:=hx
   obtain ⟨y,h5,h6,h7⟩:=h2 hw b δ h3
   refine ⟨_,h4,fun t u hu hag hi=>⟨y,h6,?_⟩⟩
   simp [loadVar,zFV hu,hag,h5]
 | _=>exact absurd trivial hnb
theorem qS {pc:PC} (h:op pc fi ds o=zX m):wV P pc fi ds o:=(qg h).read
theorem zwI {pc:PC} (hp:PcOk P pc) (ho:o.op=.load t x):wV P pc fi ds o:=by
 have e:op pc fi ds o=op pc fi ds o:=rfl
 conv at e=>rhs;simp only [op,ho]
 have fin:∀ (u:TypeDesc) (ag:Bool) (sz:Nat),P.underlying t=some u→zti u=ag→(ag=true→(P.info? t).map (·.size)=some sz)→op pc fi ds o=un fi ds x (fun p s k=>zd ag sz p s k)→wV P pc fi ds o:=by
  intro u ag sz hu hag hi e r tm le s k hnb
  rw [e,zdq] at hnb ⊢
  obtain ⟨v,h1,h2⟩:=qc fi ds x tm le _ hnb
  rw [←h1] at hnb ⊢
  obtain ⟨z,h3,h4⟩:=zAq (P:=P) hnb
  refine ⟨z,h3,fun ν w tmps hw hG hf=>?_⟩
  obtain ⟨a,h5,h6⟩:=h4 ν w _ hw.1 (h2 ν tmps hG (hf x (by simp [ho,Op.operands])))
  obtain ⟨z',h7,h8⟩:=h6 t u hu hag hi
  exact ⟨z',h7,by simp [execOp,ho,h5,Instr.loadAt,Instr.sureAddr,h8]⟩
 rcases PC.ag_or pc t (zX 0) _ with h | ⟨u,hu,h⟩
 ·exact qS (e.trans h)
 ·rw [h] at e
  cases hag:zti u with
  | true =>
   rw [hag] at e
   simp only at e
   rcases PC.sz_or pc t (zX 0) _ with h | ⟨i,hi,h⟩
   ·exact qS (e.trans h)
   ·rw [h] at e
    exact fin u true i.size (hp.und hu) hag (fun _=>by rw [hp.info _ _ hi];rfl) e
  | false =>
   rw [hag] at e
   exact fin u false 1 (hp.und hu) hag (fun h=>by cases h) e
theorem ym {x:Option V} {d:Nat} {c:Nat→A} (hnb:¬(yD x d c).isBad):∃ n,c n=yD x d c∧((x=none∧n=d)∨∃ k,x=some (.nat k n)):=by
 cases x with
 | none=>exact ⟨d,rfl,.inl ⟨rfl,rfl⟩⟩
 | some v=>cases v with
  | nat k n=>exact ⟨n,rfl,.inr ⟨k,rfl⟩⟩
  | _=>exact absurd trivial hnb
def zbu (x:Option Value) (d n:Nat):Prop:=(x=none∧n=d)∨∃ k,x=some (.int k (Int.ofNat n))
def OpR (ν:Val) (x:Option V) (y:Option Value):Prop:=(x=none∧y=none)∨∃ v z,x=some v∧y=some z∧VR ν v z
theorem zbu.of {x:Option V} {y:Option Value} {d:Nat} (h:(x=none∧n=d)∨∃ k,x=some (.nat k n)) (hr:OpR ν x y):zbu y d n:=by
 rcases h with ⟨rfl,rfl⟩ | ⟨k,rfl⟩
 ·rcases hr with ⟨_,rfl⟩ | ⟨v,z,h,_⟩
  ·exact .inl ⟨rfl,rfl⟩
  ·cases h
 ·rcases hr with ⟨h,_⟩ | ⟨v,z,h1,h2,h3⟩
  ·cases h
  ·simp only [Option.some.injEq] at h1
   subst h1
   simp only [VR] at h3
   exact .inr ⟨k,by rw [h2,h3]⟩
theorem zIe {y:Nat} (h:n≤y) (code:BoundsCode) (w:World):(Instr.sliceBound (.int k (n:Int)) y code).run P w=.ok n w:=by
 simp [Instr.sliceBound,asIntOf,h]
variable {cap len:Nat}
theorem j5 {sl:Bool} {l h:Nat} {lo hi mx:Option Value} (hl:zbu lo 0 l) (hh:zbu hi len h) (hm:zbu mx cap m) (h1:l≤h) (h2:h≤m) (h3:m≤cap) (h4:mx.isSome=true→hi.isSome=true) (w:World) :
  (Instr.sliceBounds sl len cap lo hi mx).run P w=.ok (l,h,m) w:=by
 rcases hl with ⟨rfl,rfl⟩ | ⟨kl,rfl⟩<;>rcases hh with ⟨rfl,rfl⟩ | ⟨kh,rfl⟩<;>rcases hm with ⟨rfl,rfl⟩ | ⟨km,rfl⟩ <;>
  first
   | (simp at h4;done)
   | simp [Instr.sliceBounds,zIe,h1,h2,h3]
theorem zzy (fi:FI) (ds:List Nat) (x:Option Operand) (tm:T) (le:List V) (c:List V→A) (hnb:¬((zze fi ds x).run tm le c).isBad) :
  ∃ l,c l=(zze fi ds x).run tm le c∧∀ (ν:Val) (tmps:Array Value),yq ν fi.ng→(∀ y,x=some y→OdR ν fi ds tm le tmps y)→OpR ν (zy6 l) (x.map (ev tmps)):=by
 cases x with
 | none=>exact ⟨[],rfl,fun ν tmps _ _=>.inl ⟨rfl,rfl⟩⟩
 | some x =>
  have e:(zze fi ds (some x)).run tm le c=(opd fi ds x).run tm le fun v=>c [v]:=rfl
  rw [e] at hnb ⊢
  obtain ⟨v,h1,h2⟩:=qc fi ds x tm le _ hnb
  exact ⟨[v],h1,fun ν tmps hG hf=>.inr ⟨v,_,rfl,rfl,h2 ν tmps hG (hf x rfl)⟩⟩
theorem zh {a b:Bool} (h:zq a b=true):a=true∧b=true:=by cases a<;>cases b<;>simp_all [zq]
variable {a:K} {hi lo mx:Option V}
theorem zIR {v o:Nat} (hnb:¬(zbY sz a v o len cap lo hi mx c).isBad) :
  ∃ l h m,((lo=none∧l=0)∨∃ k,lo=some (.nat k l))∧((hi=none∧h=len)∨∃ k,hi=some (.nat k h))∧((mx=none∧m=cap)∨∃ k,mx=some (.nat k m))∧l≤h∧h≤m∧m≤cap ∧
   c (.sl a v (if m=l then o else o+l*sz) (h - l) (m - l))=zbY sz a v o len cap lo hi mx c:=by
 unfold zbY at hnb ⊢
 obtain ⟨l,h1,h2⟩:=ym hnb
 rw [←h1] at hnb ⊢
 obtain ⟨h,h3,h4⟩:=ym hnb
 rw [←h3] at hnb ⊢
 obtain ⟨m,h5,h6⟩:=ym hnb
 rw [←h5] at hnb ⊢
 cases hc:zq (Nat.ble l h) (zq (Nat.ble h m) (Nat.ble m cap)) with
 | false=>simp only [hc] at hnb;exact absurd trivial hnb
 | true =>
  obtain ⟨g1,g2⟩:=zh hc
  obtain ⟨g2,g3⟩:=zh g2
  refine ⟨l,h,m,h2,h4,h6,kaA.mp g1,kaA.mp g2,kaA.mp g3,?_⟩
  simp only [zH]
  congr 2
  cases hb:Nat.beq m l with
  | true=>rw [if_pos (kaa hb)]
  | false=>rw [if_neg (fun e=>by subst e;simp at hb)];rfl
theorem yy {c:B→A}:zY s a c=c (Tr.get B.none a s.h):=zK s a c
theorem ze5 {x l:Nat}:(if m=l then (some ⟨b,x,none⟩:Option Addr) else (some ⟨b,x,none⟩:Option Addr).map (·.add (l*sz)))=some ⟨b,if m=l then x else x+l*sz,none⟩:=by
 split<;>simp [zaC]
theorem zJc {el:Nat} {x:V} (hnb:¬(yg el sz x lo hi mx s c).isBad) :
  ∃ z,c z=yg el sz x lo hi mx s c∧∀ (ν:Val) (w:World) (y:Value) (lo' hi' mx':Option Value),zcm P ν s w→VR ν x y →
   OpR ν lo lo'→OpR ν hi hi'→OpR ν mx mx' →
   (mx'.isSome=true→hi'.isSome=true)→∀ t i,P.underlying t=some (.slice el)→P.info? el=some i→i.size=sz→∃ z',VR ν z z'∧(Instr.slice t y lo' hi' mx').run P w=.ok z' w:=by
 cases x with
 | nil t =>
  unfold yg at hnb ⊢
  simp only at hnb ⊢
  obtain ⟨l,h1,h2⟩:=ym hnb
  rw [←h1] at hnb ⊢
  obtain ⟨h,h3,h4⟩:=ym hnb
  rw [←h3] at hnb ⊢
  obtain ⟨m,h5,h6⟩:=ym hnb
  rw [←h5] at hnb ⊢
  cases hc:zq (Nat.beq t 1) (zq (Nat.beq l 0) (zq (Nat.beq h 0) (Nat.beq m 0))) with
  | false=>simp only [hc] at hnb;exact absurd trivial hnb
  | true =>
   obtain ⟨g1,g2⟩:=zh hc
   obtain ⟨g2,g3⟩:=zh g2
   obtain ⟨g3,g4⟩:=zh g3
   have e1:=kaa g1
   have e2:=kaa g2
   have e3:=kaa g3
   have e4:=kaa g4
   subst e1 e2 e3 e4
   refine ⟨.nil 1,by simp only,fun ν w y lo' hi' mx' _ hy q1 q2 q3 q4 t i ht hi hs=>⟨.slice none 0 0,rfl,?_⟩⟩
   simp only [VR] at hy
   subst hy
   have hb:=j5 (P:=P) (sl:=true) (len:=0) (cap:=0) (zbu.of h2 q1) (zbu.of h4 q2) (zbu.of h6 q3) (kab _) (kab _) (kab _) q4 w
   simp [Instr.slice,zy ht,hb,yw hi]
 | sl a v o len cap =>
  have e:yg el sz (.sl a v o len cap) lo hi mx s c=zbY sz a v o len cap lo hi mx c:=rfl
  rw [e] at hnb ⊢
  obtain ⟨l,h,m,h1,h2,h3,h4,h5,h6,h7⟩:=zIR hnb
  refine ⟨_,h7,fun ν w y lo' hi' mx' _ hy q1 q2 q3 q4 t i ht hi hs=>?_⟩
  obtain ⟨b,δ,g1,g2,g3⟩:=hy
  refine ⟨_,⟨b,δ,g1,rfl,by omega⟩,?_⟩
  have hb:=j5 (P:=P) (sl:=true) (len:=len) (cap:=cap) (zbu.of h1 q1) (zbu.of h2 q2) (zbu.of h3 q3) h4 h5 h6 q4 w
  subst g2
  simp only [Instr.slice,Sem.run_bind,zy ht,Result.andThen_ok,hb,yw hi,hs,Sem.run_pure,ze5]
  congr 3
  split<;>simp [Nat.add_assoc]
 | so a v o len e0 =>
  unfold yg at hnb ⊢
  simp only [yy] at hnb ⊢
  generalize hB:Tr.get B.none a s.h=B' at hnb ⊢
  cases B' with
  | row l0 n el' gr mn f1 f2 =>
   simp only [] at hnb ⊢
   cases hel:Nat.beq el el' with
   | false=>rw [hel] at hnb;exact absurd trivial hnb
   | true =>
    have hel':=kaa hel
    subst hel'
    simp only [hel,zH] at hnb ⊢
    generalize hsu:(Bool.rec len ((n.sub o).div sz) (zq gr (Nat.beq v n)):Nat)=sure at hnb ⊢
    -- what the machine's capacity is worth
    have hsure:∀ (ν:Val) (w:World) (b δ cap:Nat) (i:TypeInfo),zcm P ν s w→ν.blk a v=some (b,δ)→len≤cap→ν.cap a v=e0+cap→o=e0*ν.sz a→P.info? el=some i→i.size=sz→sure≤cap∧ν.sz a=sz:=by
     intro ν w b δ cap i hw hb hlen hcap ho hi hs
     have hrow:=hw a
     rw [hB] at hrow
     obtain ⟨cc,fz,g1,g2,g3,g4,g5⟩:=hrow.at_ v b δ hb
     have hsz:ν.sz a=sz:=by rw [g2,Program.cellsOf,hi];exact hs
     refine ⟨?_,hsz⟩
     cases hq:zq gr (Nat.beq v n) with
     | false=>rw [hq] at hsu;rw [←hsu];exact hlen
     | true =>
      rw [hq] at hsu
      obtain ⟨k1,k2⟩:=zh hq
      have k3:=kaa k2
      obtain ⟨_,k4⟩:=g4 k1
      rw [hsz,hcap,k3] at k4
      have hsu:(n - o) / sz=sure:=hsu
      rw [←hsu]
      rcases Nat.eq_zero_or_pos sz with hz | hz
      ·rw [hz];simp
      ·rw [Nat.div_le_iff_le_mul_add_pred hz]
       rw [ho,hsz]
       have:(e0+cap)*sz=e0*sz+cap*sz:=Nat.add_mul _ _ _
       rw [Nat.mul_comm sz cap]
       omega
    obtain ⟨l,h1,h2⟩:=ym hnb
    rw [←h1] at hnb ⊢
    obtain ⟨h,h3,h4⟩:=ym hnb
    rw [←h3] at hnb ⊢
    cases mx with
    | none =>
     simp only at hnb ⊢
     cases hc:zq (Nat.ble l h) (Nat.ble h sure) with
     | false=>rw [hc] at hnb;exact absurd trivial hnb
     | true =>
      obtain ⟨g1,g2⟩:=zh hc
      have g1:=kaA.mp g1
      have g2:=kaA.mp g2
      simp only [hc] at hnb ⊢
      have core:∀ (ν:Val) (w:World) (y:Value) (lo' hi' mx':Option Value),zcm P ν s w→VR ν (.so a v o len e0) y →
        OpR ν lo lo'→OpR ν hi hi'→OpR ν none mx' →
        ∀ t i,P.underlying t=some (.slice el)→P.info? el=some i→i.size=sz→∃ b δ cap,ν.blk a v=some (b,δ)∧h≤cap∧len≤cap∧ν.cap a v=e0+cap∧o=e0*ν.sz a∧ν.sz a=sz ∧
         (Instr.slice t y lo' hi' mx').run P w=.ok (.slice (some ⟨b,if cap=l then δ+o else δ+o+l*sz,none⟩) (h - l) (cap - l)) w:=by
       intro ν w y lo' hi' mx' hw hy q1 q2 q3 t i ht hi hs
       obtain ⟨b,δ,cap,k1,k2,k3,k4,k5⟩:=hy
       obtain ⟨k6,k7⟩:=hsure ν w b δ cap i hw k1 k3 k4 k5 hi hs
       rcases q3 with ⟨_,rfl⟩ | ⟨_,_,q,_⟩
       ·refine ⟨b,δ,cap,k1,by omega,k3,k4,k5,k7,?_⟩
        subst k2
        have hb:=j5 (P:=P) (sl:=true) (len:=len) (cap:=cap) (zbu.of h2 q1) (zbu.of h4 q2) (.inl ⟨rfl,rfl⟩) g1 (by omega) (kab _) (by simp) w
        simp only [Instr.slice,Sem.run_bind,zy ht,Result.andThen_ok,hb,yw hi,hs,Sem.run_pure,ze5]
       ·cases q
      cases hlh:Nat.beq l h with
      | true =>
       have elh:=kaa hlh
       simp only [hlh] at hnb ⊢
       cases hl0:Nat.beq l 0 with
       | true =>
        have el0:=kaa hl0
        refine ⟨_,rfl,fun ν w y lo' hi' mx' hw hy q1 q2 q3 q4 t i ht hi hs=>?_⟩
        obtain ⟨b,δ,cap,k1,k2,k3,k4,k5,k6,k7⟩:=core ν w y lo' hi' mx' hw hy q1 q2 q3 t i ht hi hs
        refine ⟨_,?_,k7⟩
        subst el0
        refine ⟨b,δ,cap,k1,?_,by omega,k4,k5⟩
        rw [←elh]
        simp
       | false =>
        refine ⟨_,rfl,fun ν w y lo' hi' mx' hw hy q1 q2 q3 q4 t i ht hi hs=>?_⟩
        obtain ⟨b,δ,cap,k1,k2,k3,k4,k5,k6,k7⟩:=core ν w y lo' hi' mx' hw hy q1 q2 q3 t i ht hi hs
        refine ⟨_,?_,k7⟩
        have e1:(e0+cap)*sz=e0*sz+cap*sz:=Nat.add_mul _ _ _
        have e2:(cap - l)*sz=cap*sz - l*sz:=Nat.sub_mul _ _ _
        have e3:l*sz≤cap*sz:=kaL _ (by omega)
        refine .inr ⟨v,b,δ,if cap=l then δ+o else δ+o+l*sz,cap - l,k1,by rw [elh];simp,by split<;>omega,?_⟩
        rw [k6,k4,e1,e2,k5,k6]
        split
        ·rename_i h;subst h;omega
        ·omega
      | false =>
       have elh:l≠h:=fun e=>by subst e;simp at hlh
       refine ⟨_,rfl,fun ν w y lo' hi' mx' hw hy q1 q2 q3 q4 t i ht hi hs=>?_⟩
       obtain ⟨b,δ,cap,k1,k2,k3,k4,k5,k6,k7⟩:=core ν w y lo' hi' mx' hw hy q1 q2 q3 t i ht hi hs
       refine ⟨_,?_,k7⟩
       refine ⟨b,δ,cap - l,k1,?_,by show h - l≤cap - l;omega,by show ν.cap a v=e0+l+(cap - l);omega,?_⟩
       ·rw [if_neg (by omega)]
        show _=Value.slice (some ⟨b,δ+(o+l*sz),none⟩) (h - l) (cap - l)
        rw [Nat.add_assoc]
       ·show o+l*sz=(e0+l)*ν.sz a
        rw [k6,Nat.add_mul,k5,k6]
    | some mv =>
     simp only at hnb ⊢
     obtain ⟨m,h5,h6⟩:=ym hnb
     rw [←h5] at hnb ⊢
     cases hc:zq (Nat.ble l h) (zq (Nat.ble h m) (Nat.ble m sure)) with
     | false=>simp only [hc] at hnb;exact absurd trivial hnb
     | true =>
      obtain ⟨g1,g2⟩:=zh hc
      obtain ⟨g2,g3⟩:=zh g2
      have g1:=kaA.mp g1
      have g2:=kaA.mp g2
      have g3:=kaA.mp g3
      refine ⟨.sl a v (if m=l then o else o+l*sz) (h - l) (m - l),?_,fun ν w y lo' hi' mx' hw hy q1 q2 q3 q4 t i ht hi hs=>?_⟩
      ·simp only
       congr 2
       cases hb:Nat.beq m l with
       | true=>rw [if_pos (kaa hb)]
       | false=>rw [if_neg (fun e=>by subst e;simp at hb)];rfl
      ·obtain ⟨b,δ,cap,k1,k2,k3,k4,k5⟩:=hy
       obtain ⟨k6,k7⟩:=hsure ν w b δ cap i hw k1 k3 k4 k5 hi hs
       refine ⟨_,⟨b,δ,k1,rfl,by omega⟩,?_⟩
       have hmx:zbu mx' cap m:=by
        rcases h6 with ⟨h,_⟩ | ⟨k,h⟩
        ·cases h
        ·exact zbu.of (.inr ⟨k,h⟩) q3
       have hb:=j5 (P:=P) (sl:=true) (len:=len) (cap:=cap) (zbu.of h2 q1) (zbu.of h4 q2) hmx g1 g2 (by omega) q4 w
       subst k2
       simp only [Instr.slice,Sem.run_bind,zy ht,Result.andThen_ok,hb,yw hi,hs,Sem.run_pure,ze5]
       congr 3
       split<;>simp [Nat.add_assoc]
  | _=>exact absurd trivial hnb
 | ref t a =>
  unfold yg at hnb ⊢
  simp only at hnb ⊢
  obtain ⟨l,h1,h2⟩:=ym hnb
  rw [←h1] at hnb ⊢
  obtain ⟨h,h3,h4⟩:=ym hnb
  rw [←h3] at hnb ⊢
  cases mx with
  | some m=>exact absurd trivial hnb
  | none =>
   simp only at hnb ⊢
   cases hc:zq (Nat.beq t 1) (zq (Nat.beq l 0) (Nat.beq h 0)) with
   | false=>rw [hc] at hnb;exact absurd trivial hnb
   | true =>
    obtain ⟨g1,g2⟩:=zh hc
    obtain ⟨g2,g3⟩:=zh g2
    have e1:=kaa g1
    have e2:=kaa g2
    have e3:=kaa g3
    subst e1 e2 e3
    refine ⟨.ref 1 a,by simp only,fun ν w y lo' hi' mx' _ hy q1 q2 q3 q4 t i ht hi hs=>⟨y,hy,?_⟩⟩
    rcases hy with ⟨ad,k2⟩ | ⟨v,b,δ,off,cap,k1,k2,k3,k4⟩
    ·subst k2
     rcases q3 with ⟨_,rfl⟩ | ⟨_,_,q,_⟩
     ·have hb:=j5 (P:=P) (sl:=true) (len:=0) (cap:=0) (zbu.of h2 q1) (zbu.of h4 q2) (.inl ⟨rfl,rfl⟩) (kab _) (Nat.zero_le _) (kab _) (by simp) w
      simp only [Instr.slice,Sem.run_bind,zy ht,Result.andThen_ok,hb,yw hi,hs,Sem.run_pure]
      simp
     ·cases q
    subst k2
    rcases q3 with ⟨_,rfl⟩ | ⟨_,_,q,_⟩
    ·have hb:=j5 (P:=P) (sl:=true) (len:=0) (cap:=cap) (zbu.of h2 q1) (zbu.of h4 q2) (.inl ⟨rfl,rfl⟩) (kab _) (Nat.zero_le _) (kab _) (by simp) w
     simp only [Instr.slice,Sem.run_bind,zy ht,Result.andThen_ok,hb,yw hi,hs,Sem.run_pure,ze5]
     simp
    ·cases q
 | _=>exact absurd trivial hnb
theorem zel (s:ByteArray) (a b:Nat):qm (s.extract a b)=((qm s).drop a).take (b - a):=by
 unfold qm
 have:(s.extract a b).data.toList=(s.data.toList.drop a).take (b - a):=by
  rw [ByteArray.data_extract];simp [List.extract_eq_take_drop]
 rw [this,List.map_take,List.map_drop]
theorem zFi {x:V} (hnb:¬(zam x lo hi c).isBad):∃ z,c z=zam x lo hi c∧∀ (ν:Val) (y:Value) (lo' hi':Option Value),VR ν x y→OpR ν lo lo'→OpR ν hi hi' →
  ∀ t,P.underlying t=some .string→∃ z',VR ν z z'∧∀ w,(Instr.slice t y lo' hi' none).run P w=.ok z' w:=by
 cases x with
 | str l0 =>
  unfold zam at hnb ⊢
  simp only [jn] at hnb ⊢
  obtain ⟨l,h1,h2⟩:=ym hnb
  rw [←h1] at hnb ⊢
  obtain ⟨h,h3,h4⟩:=ym hnb
  rw [←h3] at hnb ⊢
  cases hc:zq (Nat.ble l h) (Nat.ble h l0.length) with
  | false=>simp only [hc] at hnb;exact absurd trivial hnb
  | true =>
   obtain ⟨g1,g2⟩:=zh hc
   have g1:=kaA.mp g1
   have g2:=kaA.mp g2
   refine ⟨_,by simp only [wv,ziJ];rfl,fun ν y lo' hi' hy q1 q2 t ht=>?_⟩
   obtain ⟨s,e1,e2⟩:=hy
   subst e1
   refine ⟨.string (s.extract l h),⟨_,rfl,by rw [zel,e2];rfl⟩,fun w=>?_⟩
   have hsz:l0.length=s.size:=by rw [←e2,jX]
   rw [hsz] at h4 g2
   have hb:=j5 (P:=P) (sl:=false) (len:=s.size) (cap:=s.size) (zbu.of h2 q1) (zbu.of h4 q2) (.inl ⟨rfl,rfl⟩) g1 g2 (kab _) (by simp) w
   simp [Instr.slice,zy ht,hb]
 | _=>exact absurd trivial hnb
theorem zsx {pc:PC} (hp:PcOk P pc) {lo hi mx:Option Operand} (ho:o.op=.slice t x lo hi mx):wV P pc fi ds o:=by
 have e:op pc fi ds o=op pc fi ds o:=rfl
 conv at e=>rhs;simp only [op,ho]
 rcases zac (zJl hi mx) (zX 0) _ with h | ⟨hopt,h⟩
 ·exact qS (e.trans h)
 rw [h] at e
 have hm4:∀ ρ:Operand→Value,(mx.map ρ).isSome=true→(hi.map ρ).isSome=true:=by
  intro ρ;cases mx<;>cases hi<;>simp_all [zJl]
 have mem:∀ {ν:Val} {tmps:Array Value} {tm:T} {le:List V},zeS ν fi ds tm le tmps o→OdR ν fi ds tm le tmps x∧(∀ y,lo=some y→OdR ν fi ds tm le tmps y)∧(∀ y,hi=some y→OdR ν fi ds tm le tmps y)∧(∀ y,mx=some y→OdR ν fi ds tm le tmps y):=by
  intro ν tmps tm le hf
  refine ⟨hf x (by simp [ho,Op.operands]),fun y hy=>hf y (by simp [ho,Op.operands,hy]),fun y hy=>hf y (by simp [ho,Op.operands,hy]),fun y hy=>hf y (by simp [ho,Op.operands,hy])⟩
 have fin:∀ (X:V→Option V→Option V→Option V→S→(V→A)→A),
   (∀ r tm le s k,(op pc fi ds o).run r tm le s k=(opd fi ds x).run tm le fun x=>(zze fi ds lo).run tm le fun l=>(zze fi ds hi).run tm le fun h=>(zze fi ds mx).run tm le fun m=>X x (zy6 l) (zy6 h) (zy6 m) s fun v=>k v s) →
   (∀ u l h m s c,¬(X u l h m s c).isBad→∃ z,c z=X u l h m s c∧∀ (ν:Val) (w:World) (tmps:Array Value),zcm P ν s w→VR ν u (ev tmps x)→OpR ν l (lo.map (ev tmps))→OpR ν h (hi.map (ev tmps))→OpR ν m (mx.map (ev tmps)) →
    ∃ z',VR ν z z'∧(execOp (ev tmps) o).run P w=.ok (.value z') w)→wV P pc fi ds o:=by
  intro X e hX r tm le s k hnb
  rw [e] at hnb ⊢
  obtain ⟨u,h1,h2⟩:=qc fi ds x tm le _ hnb
  rw [←h1] at hnb ⊢
  obtain ⟨l,h3,h4⟩:=zzy fi ds lo tm le _ hnb
  rw [←h3] at hnb ⊢
  obtain ⟨h,h5,h6⟩:=zzy fi ds hi tm le _ hnb
  rw [←h5] at hnb ⊢
  obtain ⟨m,h7,h8⟩:=zzy fi ds mx tm le _ hnb
  rw [←h7] at hnb ⊢
  obtain ⟨z,h9,h10⟩:=hX _ _ _ _ _ _ hnb
  refine ⟨z,h9,fun ν w tmps hw hG hf=>?_⟩
  obtain ⟨m1,m2,m3,m4⟩:=mem hf
  exact h10 ν w tmps hw.1 (h2 ν tmps hG m1) (h4 ν tmps hG m2) (h6 ν tmps hG m3) (h8 ν tmps hG m4)
 cases hu:pc.und t with
 | none=>rw [hu] at e;exact qS e
 | some d =>
  rw [hu] at e
  cases d with
  | slice el =>
   simp only at e
   rcases PC.sz_or pc el (zX 0) _ with h | ⟨j,hj,h⟩
   ·exact qS (e.trans h)
   ·rw [h] at e
    simp only [zH] at e
    refine fin (fun x l h m s c=>yg el j.size x l h m s c) (fun r tm le s k=>by rw [e]) (fun u l h m s c hnb=>?_)
    obtain ⟨z,h1,h2⟩:=zJc (P:=P) hnb
    refine ⟨z,h1,fun ν w tmps hw hx hl hh hm=>?_⟩
    obtain ⟨z',h3,h4⟩:=h2 ν w _ _ _ _ hw hx hl hh hm (hm4 _) t j (hp.und hu) (hp.info _ _ hj) rfl
    refine ⟨z',h3,?_⟩
    simp [execOp,ho,Instr.sliceAt,zy (hp.und hu),h4]
  | string =>
   simp only at e
   cases mx with
   | some m=>exact qS e
   | none =>
    refine fin (fun x l h m s c=>zam x l h c) (fun r tm le s k=>by rw [e];rfl) (fun u l h m s c hnb=>?_)
    obtain ⟨z,h1,h2⟩:=zFi (P:=P) hnb
    refine ⟨z,h1,fun ν w tmps hw hx hl hh hm=>?_⟩
    obtain ⟨z',h3,h4⟩:=h2 ν _ _ _ hx hl hh t (hp.und hu)
    refine ⟨z',h3,?_⟩
    simp [execOp,ho,Instr.sliceAt,zy (hp.und hu),h4]
  | _=>exact qS e
theorem zI1 {c:List Nat→A} (hnb:¬(zgg l c).isBad):∃ bs:List Nat,c bs=zgg l c∧(∀ b∈bs,b<256)∧l=bs.map fun b=>V.nat .u8 b:=by
 induction l generalizing c with
 | nil=>exact ⟨[],rfl,by simp,rfl⟩
 | cons x l ih =>
  cases x with
  | nat k n =>
   have e:zgg (.nat k n::l) c=@Bool.rec (fun _=>A) eA (zgg l fun l=>c (n::l)) (zq (yl k .u8) (Nat.blt n 256)):=rfl
   rw [e] at hnb ⊢
   cases hc:zq (yl k .u8) (Nat.blt n 256) with
   | false=>rw [hc] at hnb;exact absurd trivial hnb
   | true =>
    rw [hc] at hnb
    obtain ⟨g1,g2⟩:=zh hc
    have g1:=(qU _ _).1 g1
    have g2:n<256:=by simpa [Nat.blt_eq] using g2
    obtain ⟨bs,h1,h2,h3⟩:=ih hnb
    subst g1
    exact ⟨n::bs,h1,fun b hb=>(by
     rcases kaj.1 hb with h | h
     ·rw [h];exact g2
     ·exact h2 b h),by rw [h3];rfl⟩
  | _=>exact absurd trivial hnb
theorem zv6 {ν:Val}:∀ {bs:List Nat} {cs:List Value},VRs ν (bs.map fun b=>V.nat .u8 b) cs→cs=bs.map fun b=>Value.int .u8 (Int.ofNat b)
 | [],_,h=>h
 | b::bs,_,⟨x,r,e,h1,h2⟩=>by
  subst e
  simp only [VR] at h1
  rw [h1,zv6 h2];rfl
theorem zEz:∀ (bs:List Nat) (s:ByteArray),(∀ b∈bs,b<256)→qm (bs.foldl (fun s b=>s.push (UInt8.ofNat b)) s)=qm s++bs
 | [],s,_=>by simp
 | b::bs,s,h=>by
  simp only [List.foldl_cons]
  rw [zEz bs _ (fun x hx=>h x (by simp [hx]))]
  have:qm (s.push (UInt8.ofNat b))=qm s++[b]:=by
   unfold qm
   have:(s.push (UInt8.ofNat b)).data.toList=s.data.toList++[UInt8.ofNat b]:=by simp [ByteArray.push]
   rw [this,kaE]
   have:=h b (by simp)
   simp;omega
  rw [this];simp
theorem zou {c:Array Value} (h:w.heap[b]?=some (.cells c el fz)):w.shape? b=some (el,c.size):=by simp [World.shape?,h]
theorem zkc (hc:P.cellsOf e≠0) (count off n:Nat) (h0:off % P.cellsOf e=0) (hn:off / P.cellsOf e+n≤count):liesAt P P.depth e count off e n=true:=by
 have hd:P.depth=(2*(P.types.size+Made.depth)+1)+1:=rfl
 rw [hd]
 simp only [liesAt,Bool.or_eq_true]
 left
 rw [hd]
 simp [rowAt,hc,hn,h0,sameLayout]
theorem zJt {el:Nat} {gr:Bool} {mn f1 f2 v δ o:Nat} (h:RowR P ν w a l n el gr mn f1 f2) (hb:ν.blk a v=some (b,δ)) (hr:j9 n gr mn v (Nat.succ o)=true) :
  ∃ c fz,w.heap[b]?=some (.cells c el fz)∧δ+o<c.size:=by
 obtain ⟨h1,h2⟩:=(zeT _ _ _ _ _).1 hr
 obtain ⟨c,fz,hc,_,_,_,hcell⟩:=h.at_ v b δ hb
 have hlen:=h.len
 have ho:o<l.length:=by
  rw [hlen]
  cases gr
  ·have:=h2 rfl;omega
  ·have:=h1 rfl;omega
 obtain ⟨y,hy,_⟩:=hcell (fun g=>(h1 g).1) o _ (kac ho) (fun g=>by have:=h1 g;omega)
 exact ⟨c,fz,hc,(kaB.1 hy).1⟩
theorem zs8 {pc:PC} (hp:PcOk P pc) (ho:o.op=.convert src dst x) (h1:pc.und src=some (.pointer el)) (h2:pc.und dst=some .unsafePointer):wV P pc fi ds o:=by
 have e:op pc fi ds o=op pc fi ds o:=rfl
 conv at e=>rhs;simp only [op,ho,h1,h2]
 rcases PC.sz_or pc el (zX 0) _ with h | ⟨i,hi,h⟩
 ·exact qS (e.trans h)
 ·rw [h] at e
  rcases zac (!(Nat.beq i.size 0)) (zX 0) _ with h | ⟨hz,h⟩
  ·exact qS (e.trans h)
  ·rw [h] at e
   have hz:i.size≠0:=by intro h0;rw [h0] at hz;cases hz
   refine zHu (x:=x) (X:=fun p s c=>zfu p s fun v _=>c v) (by rw [e];rfl) (by simp [ho,Op.operands]) (fun v s c hnb=>?_)
   cases v with
   | nil t =>
    unfold zfu at hnb ⊢
    simp only at hnb ⊢
    cases ht:Nat.beq t 0 with
    | false=>rw [ht] at hnb;exact absurd trivial hnb
    | true =>
     have:=kaa ht
     subst this
     refine ⟨.nil 0,rfl,fun ν w tmps hw hv=>⟨_,hv,?_⟩⟩
     simp only [VR] at hv
     simp [execOp,ho,hv,convert,run_underlying (hp.und h1),run_underlying (hp.und h2),Conv.unsafePointer]
   | ptr a v0 off =>
    unfold zfu at hnb ⊢
    simp only [yy] at hnb ⊢
    generalize hB:Tr.get B.none a s.h=B' at hnb ⊢
    cases B' with
    | row l n el' gr mn f1 f2 =>
     simp only at hnb ⊢
     cases hr:j9 n gr mn v0 (Nat.succ off) with
     | false=>rw [hr] at hnb;exact absurd trivial hnb
     | true =>
      refine ⟨.ptr a v0 off,rfl,fun ν w tmps hw hv=>⟨_,hv,?_⟩⟩
      obtain ⟨b,δ,hb,hx⟩:=hv
      have hrow:=hw a
      rw [hB] at hrow
      obtain ⟨c,fz,g1,g2⟩:=zJt hrow hb hr
      have:=Lib.run_to_unsafe (P:=P) w (src:=src) (dst:=dst) ⟨b,δ+off,none⟩ (hp.und h1) (hp.und h2) (hp.info _ _ hi) hz (zou g1) g2
      simp [execOp,ho,hx,this]
    | _=>exact absurd trivial hnb
   | _=>exact absurd trivial hnb
theorem zs7 {pc:PC} (hp:PcOk P pc) (ho:o.op=.convert src dst x) (h1:pc.und src=some .unsafePointer) (h2:pc.und dst=some (.pointer el)):wV P pc fi ds o:=by
 have e:op pc fi ds o=op pc fi ds o:=rfl
 conv at e=>rhs;simp only [op,ho,h1,h2]
 rcases PC.sz_or pc el (zX 0) _ with h | ⟨i,hi,h⟩
 ·exact qS (e.trans h)
 ·rw [h] at e
  rcases zac (!(Nat.beq i.size 0)) (zX 0) _ with h | ⟨hz,h⟩
  ·exact qS (e.trans h)
  ·rw [h] at e
   have hz:i.size≠0:=by intro h0;rw [h0] at hz;cases hz
   have hcell:P.cellsOf el=i.size:=by simp [Program.cellsOf,hp.info _ _ hi]
   simp only [zH] at e
   refine zHu (x:=x) (X:=fun p s c=>zfe el i.size p s fun v _=>c v) (by rw [e];rfl) (by simp [ho,Op.operands]) (fun v s c hnb=>?_)
   cases v with
   | nil t =>
    unfold zfe at hnb ⊢
    simp only at hnb ⊢
    cases ht:Nat.beq t 0 with
    | false=>rw [ht] at hnb;exact absurd trivial hnb
    | true =>
     have:=kaa ht
     subst this
     refine ⟨.nil 0,rfl,fun ν w tmps hw hv=>⟨_,hv,?_⟩⟩
     simp only [VR] at hv
     simp [execOp,ho,hv,convert,run_underlying (hp.und h1),run_underlying (hp.und h2),Conv.unsafePointer]
   | ptr a v0 off =>
    unfold zfe at hnb ⊢
    simp only [yy] at hnb ⊢
    generalize hB:Tr.get B.none a s.h=B' at hnb ⊢
    cases B' with
    | row l n el' gr mn f1 f2 =>
     simp only at hnb ⊢
     cases hr:zq (zat gr) (zq (Nat.beq el' el) (zq (Nat.beq off 0) (Nat.ble i.size n))) with
     | false=>rw [hr] at hnb;exact absurd trivial hnb
     | true =>
      obtain ⟨r1,hr⟩:=zh hr
      obtain ⟨r2,hr⟩:=zh hr
      obtain ⟨r3,r4⟩:=zh hr
      have r1:gr=false:=by cases gr<;>first | rfl | cases r1
      have r2:=kaa r2
      have r3:=kaa r3
      have r4:=kaA.mp r4
      subst r1 r2 r3
      refine ⟨.ptr a v0 0,rfl,fun ν w tmps hw hv=>⟨_,hv,?_⟩⟩
      obtain ⟨b,δ,hb,hx⟩:=hv
      have hrow:=hw a
      rw [hB] at hrow
      obtain ⟨q1,q2⟩:=hrow.v0 rfl _ _ hb
      simp only at q2
      subst q2
      obtain ⟨c,fz,g1,_⟩:=hrow.at_ v0 b 0 hb
      have hn:n≤c.size:=by
       rcases Nat.eq_zero_or_pos n with h0 | h0
       ·omega
       ·obtain ⟨c',fz',g1',g2⟩:=zJt (o:=n - 1) hrow hb ((zeT _ _ _ _ _).2 ⟨fun h=>(by cases h),fun _=>by omega⟩)
        rw [g1] at g1'
        simp only [Option.some.injEq,Obj.cells.injEq] at g1'
        rw [←g1'.1] at g2
        omega
      have hdiv:0<c.size / i.size:=Nat.div_pos (by omega) (by omega)
      have:=Lib.run_from_unsafe (P:=P) w (src:=src) (dst:=dst) ⟨b,0,none⟩ (hp.und h1) (hp.und h2) (hp.info _ _ hi) (zou g1)
       (zkc (by rw [hcell];exact hz) _ _ _ (by simp) (by rw [hcell];simp;omega))
      simp [execOp,ho,hx,this]
    | _=>exact absurd trivial hnb
   | _=>exact absurd trivial hnb
theorem zzH {pc:PC} (hp:PcOk P pc) (ho:o.op=.convert src dst x):wV P pc fi ds o:=by
 have e:op pc fi ds o=op pc fi ds o:=rfl
 conv at e=>rhs;simp only [op,ho]
 cases h1:pc.und src with
 | none=>rw [h1] at e;exact qS e
 | some a =>
  cases h2:pc.und dst with
  | none=>rw [h1,h2] at e;cases a<;>exact qS e
  | some b =>
   rw [h1,h2] at e
   cases a<;>cases b<;>first
    | exact qS e
    | exact (zz4 hp ho h1 h2).read
    | exact zs8 hp ho h1 h2
    | exact zs7 hp ho h1 h2
def zd1 (P:Program) (pc:PC) (b:Builtin) (ts:List TypeId):Prop:=∀ args s k,¬((buC pc b ts).run args s k).isBad→∃ z,k z s=(buC pc b ts).run args s k ∧
 ∀ (ν:Val) (w:World) (cargs:Array Value) (ty:TypeId) (cst:Array Bool),zcm P ν s w→VRs ν args cargs.toList→∃ z',VR ν z z'∧(builtin b ts.toArray ty cst cargs).run P w=.ok (.value z') w
variable {b:Builtin} {c:Call}
theorem zie {pc:PC} (ho:o.op=.call c) (hc:c.callee=.builtin b) (hb:b≠.recover) (r:R) (tm:T) (le:List V) (s:S) (k:V→S→A) :
  (op pc fi ds o).run r tm le s k=(zaJ fi ds c.args.toList).run tm le fun args=>(buC pc b c.argTypes.toList).run args s k:=by
 simp only [op,ho,hc]
theorem zil (ho:o.op=.call c) (hc:c.callee=.builtin b) (ρ:Operand→Value) (w:World) :
  ∃ cst,(execOp ρ o).run P w=(builtin b c.argTypes o.type cst (c.args.map ρ)).run P w:=by
 refine ⟨c.args.map fun | .const _=>true | _=>false,?_⟩
 simp only [execOp,ho,resolve,hc,Sem.run_bind,Sem.run_pure,Result.andThen_ok,invoke]
 rfl
theorem zaw (ho:o.op=.call c) (hx:x∈c.args.toList):x∈o.op.operands.toList:=by
 simp only [ho,Op.operands,Call.operands]
 cases c.callee<;>simp<;>first | (right;simpa using hx) | (simpa using hx)
theorem zaR {pc:PC} (ho:o.op=.call c) (hc:c.callee=.builtin b) (hb:b≠.recover) (h:zd1 P pc b c.argTypes.toList):wV P pc fi ds o:=by
 intro r tm le s k hnb
 rw [zie ho hc hb] at hnb ⊢
 obtain ⟨args,h1,h2⟩:=jm fi ds c.args.toList tm le _ hnb
 rw [←h1] at hnb ⊢
 obtain ⟨z,h3,h4⟩:=h args s k hnb
 refine ⟨z,h3,fun ν w tmps hw hG hf=>?_⟩
 obtain ⟨cst,h5⟩:=zil (P:=P) ho hc (ev tmps) w
 obtain ⟨z',h6,h7⟩:=h4 ν w (c.args.map (ev tmps)) o.type cst hw.1 (by simpa using h2 ν tmps hG (fun x hx=>hf x (zaw ho hx)))
 exact ⟨z',h6,by rw [h5];simpa using h7⟩
variable {c:V→A}
theorem zif (hnb:¬(zEo l c).isBad):∃ x r,l=x::r∧c x=zEo l c:=by
 cases l with
 | nil=>exact absurd trivial hnb
 | cons x r=>exact ⟨x,r,rfl,rfl⟩
theorem zzq {c:V→V→A} (hnb:¬(zEC l c).isBad):∃ x y r,l=x::y::r∧c x y=zEC l c:=by
 cases l with
 | nil=>exact absurd trivial hnb
 | cons x r=>cases r with
  | nil=>exact absurd trivial hnb
  | cons y r=>exact ⟨x,y,r,rfl,rfl⟩
variable {r:List V} {x:V}
theorem VRs.first {c:Array Value} (h:VRs ν (x::r) c.toList):∃ y,c[0]?=some y∧VR ν x y:=by
 obtain ⟨y,hy,h1⟩:=h.get 0 x rfl
 exact ⟨y,by simpa using hy,h1⟩
variable {y:V}
theorem VRs.second {c:Array Value} (h:VRs ν (x::y::r) c.toList):∃ z,c[1]?=some z∧VR ν y z:=by
 obtain ⟨z,hz,h1⟩:=h.get 1 y rfl
 exact ⟨z,by simpa using hz,h1⟩
theorem MRs.length {ν:Val}:∀ {es:List ME} {c:List MapEntry},MRs ν es c→c.length=es.length
 | [],_,h=>by simp [MRs] at h;simp [h]
 | _::_,_,⟨x,r,e,_,h⟩=>by rw [e];simp [MRs.length h]
variable {b ck:Nat}
theorem zgS {es:List ME} (hw:zcm P ν s w) (hB:Tr.get B.none a s.h=.map es ck) (hb:ν.blk a 0=some (b,0)):∃ es',w.heap[b]?=some (.map es' ck)∧MRs ν es es'.toList:=by
 have:=hw a
 rw [hB] at this
 exact (this 0 b 0 hb).2
variable {es:Array MapEntry}
theorem yR (h:w.heap[b]?=some (.map es ck)):(getObj b).run P w=.ok (.map es ck) w:=MapKept.run_getObj_map h
theorem zKy {pc:PC} (hp:PcOk P pc) (ts:List TypeId):zd1 P pc .len ts:=by
 intro args s k hnb
 cases ts with
 | nil=>exact absurd trivial hnb
 | cons t ts =>
  simp only [buC] at hnb ⊢
  cases hu:pc.und t with
  | none=>rw [hu] at hnb;exact absurd trivial hnb
  | some d =>
   have hU:=hp.und hu
   have fin:∀ (n:Nat) (cargs:Array Value) (ty:TypeId) (cst:Array Bool) (w:World),(Builtin.len_ (t::ts).toArray ty cargs).run P w=.ok (.int .i64 (Int.ofNat n)) w→(builtin .len (t::ts).toArray ty cst cargs).run P w=.ok (.value (.int .i64 (Int.ofNat n))) w:=by
    intro n cargs ty cst w h
    simp only [builtin,Sem.run_bind,h,Result.andThen_ok,Sem.run_pure]
   rw [hu] at hnb
   cases d with
   | slice el =>
    simp only at hnb ⊢
    obtain ⟨x,r,e,h1⟩:=zif hnb
    subst e
    rw [←h1] at hnb ⊢
    have go:∀ n,(∀ (ν:Val) (y:Value),VR ν x y→∃ a c,y=.slice a n c)→∀ (ν:Val) (w:World) (cargs:Array Value) (ty:TypeId) (cst:Array Bool),zcm P ν s w→VRs ν (x::r) cargs.toList →
      ∃ z',VR ν (.nat .i64 n) z'∧(builtin .len (t::ts).toArray ty cst cargs).run P w=.ok (.value z') w:=by
     intro n h ν w cargs ty cst hw hv
     obtain ⟨y,hy,h2⟩:=hv.first
     obtain ⟨a,c,e⟩:=h ν y h2
     refine ⟨_,rfl,fin n _ _ _ _ ?_⟩
     simp [Builtin.len_,hy,e,zy hU,goInt]
    cases x with
    | nil u =>
     unfold zz at hnb ⊢
     simp only at hnb ⊢
     cases ht:Nat.beq u 1 with
     | false=>rw [ht] at hnb;exact absurd trivial hnb
     | true =>
      have:=kaa ht
      subst this
      exact ⟨_,rfl,go 0 fun ν y h=>by simp only [VR] at h;exact ⟨_,_,h⟩⟩
    | ref u a =>
     unfold zz at hnb ⊢
     simp only at hnb ⊢
     cases ht:Nat.beq u 1 with
     | false=>rw [ht] at hnb;exact absurd trivial hnb
     | true =>
      have:=kaa ht
      subst this
      exact ⟨_,rfl,go 0 fun ν y h=>by exact VR.ref1 h |>.elim fun _ h=>h.elim fun _ e=>⟨_,_,e⟩⟩
    | sl a v o len cap=>exact ⟨_,rfl,go len fun ν y h=>by obtain ⟨b,δ,_,e,_⟩:=h;exact ⟨_,_,e⟩⟩
    | so a v o len e0=>exact ⟨_,rfl,go len fun ν y h=>by obtain ⟨b,δ,cap,_,e,_⟩:=h;exact ⟨_,_,e⟩⟩
    | _=>exact absurd trivial hnb
   | string =>
    simp only at hnb ⊢
    obtain ⟨x,r,e,h1⟩:=zif hnb
    subst e
    rw [←h1] at hnb ⊢
    cases x with
    | str l =>
     refine ⟨.nat .i64 l.length,by simp only [zNj,jn],fun ν w cargs ty cst hw hv=>?_⟩
     obtain ⟨y,hy,h2⟩:=hv.first
     obtain ⟨s',e,h3⟩:=h2
     refine ⟨_,rfl,fin l.length _ _ _ _ ?_⟩
     have:l.length=s'.size:=by rw [←h3,jX]
     simp [Builtin.len_,hy,e,zy hU,goInt,this]
    | _=>exact absurd trivial hnb
   | map j el =>
    simp only at hnb ⊢
    obtain ⟨x,r,e,h1⟩:=zif hnb
    subst e
    rw [←h1] at hnb ⊢
    cases x with
    | nil u =>
     unfold zJK at hnb ⊢
     simp only at hnb ⊢
     cases ht:Nat.beq u 2 with
     | false=>rw [ht] at hnb;exact absurd trivial hnb
     | true =>
      have:=kaa ht
      subst this
      refine ⟨_,rfl,fun ν w cargs ty cst hw hv=>?_⟩
      obtain ⟨y,hy,h2⟩:=hv.first
      simp only [VR] at h2
      refine ⟨_,rfl,fin 0 _ _ _ _ ?_⟩
      simp [Builtin.len_,hy,h2,zy hU,goInt]
    | ref u a =>
     unfold zJK at hnb ⊢
     simp only at hnb ⊢
     cases ht:Nat.beq u 0 with
     | false=>rw [ht] at hnb;exact absurd trivial hnb
     | true =>
      have:=kaa ht
      subst this
      simp only [ht,yy] at hnb ⊢
      generalize hB:Tr.get B.none a s.h=B' at hnb ⊢
      cases B' with
      | map es ck =>
       refine ⟨.nat .i64 es.length,by simp only [jn],fun ν w cargs ty cst hw hv=>?_⟩
       obtain ⟨y,hy,h2⟩:=hv.first
       obtain ⟨b,h3,h4⟩:=h2
       obtain ⟨es',h5,h6⟩:=zgS hw hB h3
       refine ⟨_,rfl,fin es.length _ _ _ _ ?_⟩
       have:es'.size=es.length:=by have:=h6.length;simpa using this
       simp [Builtin.len_,hy,h4,zy hU,yR h5,goInt,this]
      | _=>exact absurd trivial hnb
    | _=>exact absurd trivial hnb
   | _=>exact absurd trivial hnb
theorem zJD {pc:PC} (hp:PcOk P pc) (ts:List TypeId):zd1 P pc .cap ts:=by
 intro args s k hnb
 cases ts with
 | nil=>exact absurd trivial hnb
 | cons t ts =>
  simp only [buC] at hnb ⊢
  cases hu:pc.und t with
  | none=>rw [hu] at hnb;exact absurd trivial hnb
  | some d =>
   have hU:=hp.und hu
   rw [hu] at hnb
   cases d with
   | slice el =>
    simp only at hnb ⊢
    obtain ⟨x,r,e,h1⟩:=zif hnb
    subst e
    rw [←h1] at hnb ⊢
    have go:∀ n,(∀ (ν:Val) (y:Value),VR ν x y→∃ a l,y=.slice a l n)→∀ (ν:Val) (w:World) (cargs:Array Value) (ty:TypeId) (cst:Array Bool),zcm P ν s w→VRs ν (x::r) cargs.toList →
      ∃ z',VR ν (.nat .i64 n) z'∧(builtin .cap (t::ts).toArray ty cst cargs).run P w=.ok (.value z') w:=by
     intro n h ν w cargs ty cst hw hv
     obtain ⟨y,hy,h2⟩:=hv.first
     obtain ⟨a,c,e⟩:=h ν y h2
     refine ⟨.int .i64 (Int.ofNat n),rfl,?_⟩
     have:(Builtin.cap_ (t::ts).toArray ty cargs).run P w=.ok (.int .i64 (Int.ofNat n)) w:=by simp [Builtin.cap_,hy,e,zy hU,goInt]
     simp only [builtin,Sem.run_bind,this,Result.andThen_ok,Sem.run_pure]
    cases x with
    | nil u =>
     unfold zKh at hnb ⊢
     simp only at hnb ⊢
     cases ht:Nat.beq u 1 with
     | false=>rw [ht] at hnb;exact absurd trivial hnb
     | true =>
      have:=kaa ht
      subst this
      exact ⟨_,rfl,go 0 fun ν y h=>by simp only [VR] at h;exact ⟨_,_,h⟩⟩
    | sl a v o len cap=>exact ⟨_,rfl,go cap fun ν y h=>by obtain ⟨b,δ,_,e,_⟩:=h;exact ⟨_,_,e⟩⟩
    | _=>exact absurd trivial hnb
   | _=>exact absurd trivial hnb
theorem zm9 {op lt:Bool} {a b:Int} (hx:∀ (ν:Val) z,VR ν x z→z=.int j a) (hy:∀ (ν:Val) z,VR ν y z→z=.int j b) (hlt:lt=true↔b<a) :
  ∃ z,c z=zJS op lt x y c∧∀ (ν:Val) (a b:Value),VR ν x a→VR ν y b→∃ z',VR ν z z'∧∀ w,((if op then Builtin.min2 a b else Builtin.max2 a b).run P w=.ok z' w):=by
 cases lt with
 | true =>
  have h:b<a:=hlt.1 rfl
  cases op
  ·refine ⟨x,rfl,fun ν a' b' ha hb=>⟨a',ha,fun w=>?_⟩⟩
   rw [hx ν _ ha,hy ν _ hb]
   have h2:¬(a<b):=by omega
   simp [Builtin.max2,h2]
  ·refine ⟨y,rfl,fun ν a' b' ha hb=>⟨b',hb,fun w=>?_⟩⟩
   rw [hx ν _ ha,hy ν _ hb]
   simp [Builtin.min2,h]
 | false =>
  have h:¬b<a:=fun h=>by have:=hlt.2 h;cases this
  cases op
  ·refine ⟨y,rfl,fun ν a' b' ha hb=>⟨b',hb,fun w=>?_⟩⟩
   rw [hx ν _ ha,hy ν _ hb]
   by_cases h2:a<b
   ·simp [Builtin.max2,h2]
   ·have:a=b:=by omega
    subst this
    simp [Builtin.max2]
  ·refine ⟨x,rfl,fun ν a' b' ha hb=>⟨a',ha,fun w=>?_⟩⟩
   rw [hx ν _ ha,hy ν _ hb]
   simp [Builtin.min2,h]
theorem zL7 {op:Bool} (hnb:¬(min2 op x y c).isBad):∃ z,c z=min2 op x y c∧∀ (ν:Val) (a b:Value),VR ν x a→VR ν y b→∃ z',VR ν z z'∧∀ w,((if op then Builtin.min2 a b else Builtin.max2 a b).run P w=.ok z' w):=by
 cases x with
 | nat j a =>
  cases y with
  | nat k b =>
   unfold min2 at hnb ⊢
   simp only at hnb ⊢
   cases hjk:yl j k with
   | false=>rw [hjk] at hnb;exact absurd trivial hnb
   | true =>
    have e:=(qU _ _).1 hjk
    subst e
    simp only
    exact zm9 (j:=j) (a:=Int.ofNat a) (b:=Int.ofNat b) (fun _ _ h=>h) (fun _ _ h=>h) (by rw [Nat.blt_eq];simp)
  | neg k b =>
   unfold min2 at hnb ⊢
   simp only at hnb ⊢
   cases hjk:yl j k with
   | false=>rw [hjk] at hnb;exact absurd trivial hnb
   | true =>
    have e:=(qU _ _).1 hjk
    subst e
    simp only
    exact zm9 (j:=j) (a:=Int.ofNat a) (b:=Int.negSucc b) (fun _ _ h=>h) (fun _ _ h=>h) (by simp only [true_iff,Int.ofNat_eq_natCast];omega)
  | _=>exact absurd trivial hnb
 | neg j a =>
  cases y with
  | nat k b =>
   unfold min2 at hnb ⊢
   simp only at hnb ⊢
   cases hjk:yl j k with
   | false=>rw [hjk] at hnb;exact absurd trivial hnb
   | true =>
    have e:=(qU _ _).1 hjk
    subst e
    simp only
    exact zm9 (j:=j) (a:=Int.negSucc a) (b:=Int.ofNat b) (fun _ _ h=>h) (fun _ _ h=>h) (by simp only [Int.ofNat_eq_natCast];constructor<;>intro h<;>first | (cases h;done) | (exfalso;omega))
  | neg k b =>
   unfold min2 at hnb ⊢
   simp only at hnb ⊢
   cases hjk:yl j k with
   | false=>rw [hjk] at hnb;exact absurd trivial hnb
   | true =>
    have e:=(qU _ _).1 hjk
    subst e
    simp only
    exact zm9 (j:=j) (a:=Int.negSucc a) (b:=Int.negSucc b) (fun _ _ h=>h) (fun _ _ h=>h) (by rw [Nat.blt_eq];omega)
  | _=>exact absurd trivial hnb
 | _=>exact absurd trivial hnb
theorem zgM {op:Bool}:∀ {l:List V} {x:V} {c:V→A},¬(zbW op l x c).isBad→∃ z,c z=zbW op l x c∧∀ (ν:Val) (a:Value) (bs:List Value),VR ν x a→VRs ν l bs →
  ∃ z',VR ν z z'∧∀ w,((if op then bs.foldlM Builtin.min2 a else bs.foldlM Builtin.max2 a).run P w=.ok z' w)
 | [],x,c,_=>⟨x,rfl,fun ν a bs ha hb=>⟨a,ha,fun w=>by simp only [VRs] at hb;subst hb;cases op<;>simp⟩⟩
 | y::l,x,c,hnb=>by
  have e:zbW op (y::l) x c=min2 op x y fun z=>zbW op l z c:=rfl
  rw [e] at hnb ⊢
  obtain ⟨z,h1,h2⟩:=zL7 (P:=P) hnb
  rw [←h1] at hnb ⊢
  obtain ⟨u,h3,h4⟩:=zgM hnb
  refine ⟨u,h3,fun ν a bs ha hb=>?_⟩
  obtain ⟨b,r,e,hb1,hb2⟩:=hb
  subst e
  obtain ⟨z',h5,h6⟩:=h2 ν a b ha hb1
  obtain ⟨u',h7,h8⟩:=h4 ν z' r h5 hb2
  refine ⟨u',h7,fun w=>?_⟩
  have h6:=h6 w
  have h8:=h8 w
  cases op
  ·simp only [Bool.false_eq_true,if_false] at h6 h8 ⊢
   simp [List.foldlM_cons,h6,h8]
  ·simp only [if_true] at h6 h8 ⊢
   simp [List.foldlM_cons,h6,h8]
theorem zLC {pc:PC} (ts:List TypeId):zd1 P pc .min ts:=by
 intro args s k hnb
 cases args with
 | nil=>exact absurd (by cases ts<;>trivial) hnb
 | cons x l =>
  have e:(buC pc .min ts).run (x::l) s k=zbW true l x (fun v=>k v s):=by cases ts<;>rfl
  rw [e] at hnb ⊢
  obtain ⟨z,h1,h2⟩:=zgM (P:=P) hnb
  refine ⟨z,h1,fun ν w cargs ty cst hw hv=>?_⟩
  obtain ⟨a,bs,h3,h4,h5⟩:=hv
  obtain ⟨z',h6,h7⟩:=h2 ν a bs h4 h5
  refine ⟨z',h6,?_⟩
  have h7:=h7 w
  simp only [if_true] at h7
  simp [builtin,Builtin.min_,h3,h7]
theorem zJ9 {pc:PC} (ts:List TypeId):zd1 P pc .max ts:=by
 intro args s k hnb
 cases args with
 | nil=>exact absurd (by cases ts<;>trivial) hnb
 | cons x l =>
  have e:(buC pc .max ts).run (x::l) s k=zbW false l x (fun v=>k v s):=by cases ts<;>rfl
  rw [e] at hnb ⊢
  obtain ⟨z,h1,h2⟩:=zgM (P:=P) hnb
  refine ⟨z,h1,fun ν w cargs ty cst hw hv=>?_⟩
  obtain ⟨a,bs,h3,h4,h5⟩:=hv
  obtain ⟨z',h6,h7⟩:=h2 ν a bs h4 h5
  refine ⟨z',h6,?_⟩
  have h7:=h7 w
  simp only [Bool.false_eq_true,if_false] at h7
  simp [builtin,Builtin.max_,h3,h7]
variable {b:Bool} {j:TypeId} {x y:Value}
theorem zr0 (hd:P.underlying j=some d) (h:Instr.sameNow d x y=some b) (w:World):(Op.equal j x y).run P w=.ok b w:=by
 unfold Instr.sameNow at h
 split at h
 ·split at h
  ·rename_i e
   simp only [Option.some.injEq] at h
   subst h;subst e
   exact zN0 hd _ _ _
  ·cases h
 ·simp only [Option.some.injEq] at h
  subst h
  exact zN5 hd _ _
 ·simp only [Option.some.injEq] at h
  subst h
  exact zM2 hd _ _
 ·cases h
theorem zsZ {j:TypeId} {d:TypeDesc} (hd:P.underlying j=some d) (k:Value) (w:World):∀ (es:List MapEntry) (i:Nat) (r:Option (Nat × Value)),Instr.findNow d k es i=some r→(Instr.findAsking j k es i).run P w=.ok r w
 | [],i,r,h=>by
  simp only [Instr.findNow,Option.some.injEq] at h
  subst h;rfl
 | e::es,i,r,h=>by
  simp only [Instr.findNow] at h
  split at h
  ·rename_i hs
   simp only [Option.some.injEq] at h
   subst h
   simp [Instr.findAsking,zr0 hd hs w]
  ·rename_i hs
   simp [Instr.findAsking,zr0 hd hs w,zsZ hd k w es (i+1) r h]
  ·cases h
variable {r:Option (Nat × Value)}
theorem zgT (hd:P.underlying j=some d) (k:Value) (es:List MapEntry) (w:World) (h:(Instr.findAsking j k es 0).run P w=.ok r w):(Instr.findKey j k es).run P w=.ok r w:=by
 simp only [Instr.findKey,Sem.run_bind,zy hd,Result.andThen_ok]
 cases hn:Instr.findNow d k es 0 with
 | none=>exact h
 | some r' =>
  have:=zsZ hd k w es 0 r' hn
  rw [h] at this
  simp only [Result.ok.injEq,and_true] at this
  subst this
  rfl
def zJI (ν:Val):Option V→Option (Nat × Value)→Prop
 | none,none=>True
 | some v,some (_,y)=>VR ν v y
 | _,_=>False
theorem zCd {pc:PC} (hp:PcOk P pc) {j:TypeId} {key:V}:∀ {es:List ME} {c:Option V→A},¬(zbK (pc.eqKind j) key es c).isBad→∃ r,c r=zbK (pc.eqKind j) key es c ∧
  ∀ (ν:Val) (k:Value) (es':List MapEntry),VR ν key k→MRs ν es es'→∀ i,∃ r',zJI ν r r'∧∀ w,(Instr.findAsking j k es' i).run P w=.ok r' w
 | [],c,_=>⟨none,rfl,fun ν k es' _ he i=>⟨none,trivial,fun w=>by simp only [MRs] at he;subst he;rfl⟩⟩
 | e::es,c,hnb=>by
  have eq:zbK (pc.eqKind j) key (e::es) c=(match eqV (pc.eqKind j) false key e.key with | some true=>c (some e.val) | some false=>zbK (pc.eqKind j) key es c | none=>.bad 0):=rfl
  rw [eq] at hnb ⊢
  cases hq:eqV (pc.eqKind j) false key e.key with
  | none=>rw [hq] at hnb;exact absurd trivial hnb
  | some b =>
   rw [hq] at hnb
   cases b with
   | true =>
    refine ⟨some e.val,rfl,fun ν k es' hk he i=>?_⟩
    obtain ⟨x,r,e1,⟨m1,m2,m3⟩,h2⟩:=he
    subst e1
    obtain ⟨h3,_⟩:=zgx hp hq hk m1
    exact ⟨some (i,x.val),m2,fun w=>by simp [Instr.findAsking,h3 w]⟩
   | false =>
    obtain ⟨r0,h0,h1⟩:=zCd hp hnb
    refine ⟨r0,h0,fun ν k es' hk he i=>?_⟩
    obtain ⟨x,r,e1,⟨m1,m2,m3⟩,h2⟩:=he
    subst e1
    obtain ⟨h3,_⟩:=zgx hp hq hk m1
    obtain ⟨r',h4,h5⟩:=h1 ν k r hk h2 (i+1)
    exact ⟨r',h4,fun w=>by simp [Instr.findAsking,h3 w,h5 w]⟩
theorem zd7 {q:Nat} (h:QTy P t q) (b:Bool) (d:Nat) (v:Value) (w:World):(Instr.checkKey b (d+1) t v).run P w=.ok () w:=by
 rcases h with ⟨_,h⟩ | ⟨_,k,h⟩ | ⟨_,h⟩
 all_goals
  simp only [Instr.checkKey,Sem.run_bind,zy h,Result.andThen_ok]
  rfl
theorem zhb {pc:PC} (hp:PcOk P pc) (h:(pc.eqKind t).k=0∨(pc.eqKind t).k=7∨(pc.eqKind t).k=8):∃ q,QTy P t q:=by
 unfold PC.eqKind at h
 cases hu:pc.und t with
 | none=>rw [hu] at h;simp at h
 | some d =>
  have hU:=hp.und hu
  rw [hu] at h
  cases d with
  | bool=>exact ⟨0,.inl ⟨rfl,hU⟩⟩
  | int k=>exact ⟨7,.inr (.inl ⟨rfl,k,hU⟩)⟩
  | string=>exact ⟨8,.inr (.inr ⟨rfl,hU⟩)⟩
  | pointer e =>
   simp only at h
   cases hz:Nat.beq (pc.size e) 0<;>rw [hz] at h<;>simp at h
  | struct fs =>
   simp only at h
   cases hq:zbP t pc.eqs<;>rw [hq] at h<;>simp at h
  | _=>simp at h
theorem zb6 {pc:PC} (hp:PcOk P pc) (h:(pc.eqKind t).k=6):∃ fs,P.underlying t=some (.struct fs)∧jc P 0 fs.toList (pc.eqKind t).qs:=by
 unfold PC.eqKind at h ⊢
 cases hu:pc.und t with
 | none=>rw [hu] at h;simp at h
 | some d =>
  have hU:=hp.und hu
  rw [hu] at h
  cases d with
  | struct fs =>
   simp only at h ⊢
   cases hq:zbP t pc.eqs with
   | none=>rw [hq] at h;simp at h
   | some qs =>
    simp only
    obtain ⟨_,h0⟩:=hp.eqs t qs hq
    rcases h0 with ⟨_,fs',h1,h2⟩ | ⟨n,e,q,i,h0,_⟩
    ·exact ⟨fs',h1,h2⟩
    ·rw [hU] at h0;cases h0
  | pointer e =>
   simp only at h
   cases hz:Nat.beq (pc.size e) 0<;>rw [hz] at h<;>simp at h
  | _=>simp at h
theorem jc.length:∀ {n:Nat} {fs:List Field} {qs:List Nat},jc P n fs qs→fs.length=qs.length
 | _,[],[],_=>rfl
 | _,f::fs,q::qs,⟨_,_,_,h⟩=>by simp [jc.length h]
 | _,[],_::_,h=>h.elim
 | _,_::_,[],h=>h.elim
theorem zlK {b:Bool} {d:Nat} (cs:Array Value) (w:World):∀ (fs:List Field) (qs:List Nat) (n:Nat),jc P n fs qs→n+fs.length≤cs.size →
  (forIn (m := Sem) fs PUnit.unit (fun (f : Field) (_ : PUnit) => if f.name ≠ "_" then (do Instr.checkKey b (d + 1) f.type (← part f.type cs f.offset); pure (ForInStep.yield PUnit.unit)) else pure (ForInStep.yield PUnit.unit))).run P w = .ok PUnit.unit w
 | [],_,_,_,_=>by simp
 | f::fs,[],_,h,_=>h.elim
 | f::fs,q::qs,n,⟨h1,h2,h3,h4⟩,hl=>by
  simp only [kaH] at hl
  obtain ⟨x,hx⟩:∃ x,cs[n]?=some x:=⟨cs[n]'(by omega),Array.getElem?_eq_getElem _⟩
  have hpart:=zeu (P:=P) h3 cs n _ hx w
  rw [←h2] at hpart
  have ih:=zlK (b:=b) (d:=d) cs w fs qs (n+1) h4 (by omega)
  rw [List.forIn_cons]
  simp only [ne_eq,h1,not_false_eq_true,if_true,Sem.run_bind,hpart,zd7 h3,Result.andThen_ok,Sem.run_pure]
  exact ih
theorem zmT {d:Nat} {fs:Array Field} {qs:List Nat} (hj:P.underlying j=some (.struct fs)) (hf:jc P 0 fs.toList qs) (cs:Array Value) (hl:fs.size≤cs.size) (w:World):(Instr.checkKey b (d+1+1) j (.agg cs)).run P w=.ok () w:=by
 have:=zlK (b:=b) (d:=d) cs w fs.toList _ 0 hf (by simpa using hl)
 rw [Instr.checkKey]
 simp only [Sem.run_bind,zy hj,Result.andThen_ok]
 rw [←Array.forIn_toList]
 rw [this];rfl
theorem zzw {pc:PC} (hp:PcOk P pc) (hk:zaz (pc.eqKind j)=true) {key:V} {c:A} (hnb:¬(zzk (pc.eqKind j) key c).isBad):zzk (pc.eqKind j) key c=c∧∀ (ν:Val) (k:Value),VR ν key k→∀ b w,(Instr.checkKey b 10000 j k).run P w=.ok () w:=by
 have plain:(pc.eqKind j).k=0∨(pc.eqKind j).k=7∨(pc.eqKind j).k=8→zzk (pc.eqKind j) key c=c∧∀ (ν:Val) (k:Value),VR ν key k→∀ b w,(Instr.checkKey b 10000 j k).run P w=.ok () w:=by
  intro h
  obtain ⟨q,hq⟩:=zhb hp h
  refine ⟨?_,fun ν k _ b w=>zd7 hq b 9999 k w⟩
  unfold zzk
  rcases h with h | h | h<;>rw [h]<;>rfl
 by_cases h6:(pc.eqKind j).k=6
 ·unfold zzk at hnb ⊢
  rw [h6] at hnb ⊢
  cases key with
  | ls t l =>
   simp only at hnb ⊢
   cases ht:Nat.beq t 0 with
   | false=>rw [ht] at hnb;exact absurd trivial hnb
   | true =>
    have:=kaa ht
    subst this
    simp only [ht,jn] at hnb ⊢
    cases hl:Nat.beq l.length (pc.eqKind j).qs.length with
    | false=>rw [hl] at hnb;exact absurd trivial hnb
    | true =>
     have hl:=kaa hl
     refine ⟨rfl,fun ν k hv b w=>?_⟩
     obtain ⟨cs,h1,h2,_⟩:=hv
     subst h2
     obtain ⟨fs,h3,h4⟩:=zb6 hp h6
     have hlen:=h4.length
     exact zmT (d:=9998) h3 h4 ⟨cs⟩ (by have:=h1.length;simp at hlen ⊢;omega) w
  | _=>exact absurd trivial hnb
 ·refine plain ?_
  unfold zaz at hk
  simp only [Bool.or_eq_true] at hk
  rcases hk with ((hk | hk) | hk) | hk
  ·exact .inl (kaa hk)
  ·exact absurd (kaa hk) h6
  ·exact .inr (.inl (kaa hk))
  ·exact .inr (.inr (kaa hk))
theorem VR.pair (h:VR ν v y):VR ν (.ls 1 [v,.bool b]) (.tuple #[y,.bool b]):=⟨[y,.bool b],⟨y,_,rfl,h,_,_,rfl,rfl,rfl⟩,rfl⟩
variable {ok:Bool}
theorem zDQ {z:V} {r:Option V}:∃ u,c u=zvP z ok r c∧∀ (ν:Val) (r':Option (Nat × Value)) (zv:Value),zJI ν r r'→VR ν z zv →
  VR ν u (if ok then .tuple #[(r'.map (·.2)).getD zv,.bool r'.isSome] else (r'.map (·.2)).getD zv):=by
 cases r with
 | none=>cases ok with
  | true=>exact ⟨_,rfl,fun ν r' zv h1 h2=>by cases r' with | none=>exact VR.pair h2 | some p=>exact h1.elim⟩
  | false=>exact ⟨_,rfl,fun ν r' zv h1 h2=>by cases r' with | none=>exact h2 | some p=>exact h1.elim⟩
 | some v=>cases ok with
  | true=>exact ⟨_,rfl,fun ν r' zv h1 h2=>by cases r' with | none=>exact h1.elim | some p=>exact VR.pair h1⟩
  | false=>exact ⟨_,rfl,fun ν r' zv h1 h2=>by cases r' with | none=>exact h1.elim | some p=>exact h1⟩
theorem zsc {k zv:Value} (ok:Bool) (ht:P.underlying t=some (.map j el)) (hd:P.underlying j=some d)
  (hx:(x=.map none∧es=#[])∨∃ b ck,x=.map (some b)∧w.heap[b]?=some (.map es ck)) (hk:∀ b w,(Instr.checkKey b 10000 j k).run P w=.ok () w) (hf:(Instr.findAsking j k es.toList 0).run P w=.ok r w) (hz:(zeroValue el).run P w=.ok zv w) :
  (Instr.lookup t x k ok).run P w=.ok (if ok then .tuple #[(r.map (·.2)).getD zv,.bool r.isSome] else (r.map (·.2)).getD zv) w:=by
 have hf':=zgT hd k es.toList w hf
 rcases hx with ⟨rfl,rfl⟩ | ⟨b,ck,rfl,hb⟩
 ·have hf':(Instr.findKey j k []).run P w=.ok r w:=hf'
  cases r with
  | none=>simp [Instr.lookup,zy ht,hk,hf',hz]
  | some p=>simp [Instr.lookup,zy ht,hk,hf']
 ·cases r with
  | none=>simp [Instr.lookup,zy ht,yR hb,hk,hf',hz]
  | some p=>simp [Instr.lookup,zy ht,yR hb,hk,hf']
theorem zjD {pc:PC} (hp:PcOk P pc) (hk:zaz (pc.eqKind j)=true):∃ d,P.underlying j=some d:=by
 by_cases h6:(pc.eqKind j).k=6
 ·obtain ⟨fs,h,_⟩:=zb6 hp h6;exact ⟨_,h⟩
 ·unfold zaz at hk
  simp only [Bool.or_eq_true] at hk
  have:∃ q,QTy P j q:=by
   refine zhb hp ?_
   rcases hk with ((hk | hk) | hk) | hk
   ·exact .inl (kaa hk)
   ·exact absurd (kaa hk) h6
   ·exact .inr (.inl (kaa hk))
   ·exact .inr (.inr (kaa hk))
  obtain ⟨q,⟨_,h⟩ | ⟨_,k,h⟩ | ⟨_,h⟩⟩:=this<;>exact ⟨_,h⟩
theorem zme {pc:PC} (hp:PcOk P pc) {x i:Operand} (ho:o.op=.lookup t x i ok):wV P pc fi ds o:=by
 have e:op pc fi ds o=op pc fi ds o:=rfl
 conv at e=>rhs;simp only [op,ho]
 cases hu:pc.und t with
 | none=>rw [hu] at e;exact qS e
 | some d =>
  rw [hu] at e
  cases d with
  | map j el =>
   simp only [zCL] at e
   rcases zac (zaz (pc.eqKind j)) (zX 0) _ with h | ⟨hk,h⟩
   ·exact qS (e.trans h)
   ·rw [h] at e
    obtain ⟨dj,hdj⟩:=zjD hp hk
    by_cases hz:pc.zero el=.bad
    ·rw [hz] at e;exact qS e
    ·have e:op pc fi ds o=bi fi ds x i (fun x i s k=>z4 (pc.eqKind j) (pc.zero el) ok x i s fun v=>k v s):=by
      rw [e]
      cases hz':pc.zero el<;>first | exact absurd hz' hz | simp only [zGQ]
     obtain ⟨zv,hzv⟩:=PC.zero_ok hp hz
     refine zMD (X:=z4 (pc.eqKind j) (pc.zero el) ok) e (by simp [ho,Op.operands]) (by simp [ho,Op.operands]) (fun u v s c hnb=>?_)
     unfold z4 at hnb ⊢
     obtain ⟨q1,q2⟩:=zzw hp hk hnb
     rw [q1] at hnb ⊢
     cases u with
     | nil n =>
      simp only at hnb ⊢
      cases ht:Nat.beq n 2 with
      | false=>rw [ht] at hnb;exact absurd trivial hnb
      | true =>
       have:=kaa ht
       subst this
       obtain ⟨z,h1,h2⟩:=zDQ (z:=pc.zero el) (ok:=ok) (r:=none) (c:=c)
       refine ⟨z,by simp only;exact h1,fun ν w tmps hw hx hi=>?_⟩
       simp only [VR] at hx
       refine ⟨_,h2 ν none zv trivial ((hzv w).2 ν),?_⟩
       have:=zsc (P:=P) (w:=w) (es:=#[]) (r:=none) (k:=ev tmps i) ok (hp.und hu) hdj (.inl ⟨hx,rfl⟩) (q2 ν _ hi) rfl (hzv w).1
       simp [execOp,ho,this]
     | ref n a =>
      simp only at hnb ⊢
      cases ht:Nat.beq n 0 with
      | false=>rw [ht] at hnb;exact absurd trivial hnb
      | true =>
       have:=kaa ht
       subst this
       simp only [ht,yy] at hnb ⊢
       generalize hB:Tr.get B.none a s.h=B' at hnb ⊢
       cases B' with
       | map es ck =>
        simp only at hnb ⊢
        obtain ⟨r,h1,h2⟩:=zCd hp hnb
        obtain ⟨z,h3,h4⟩:=zDQ (z:=pc.zero el) (ok:=ok) (r:=r) (c:=c)
        refine ⟨z,by rw [←h1];exact h3,fun ν w tmps hw hx hi=>?_⟩
        obtain ⟨b,h5,h6⟩:=hx
        obtain ⟨es',h7,h8⟩:=zgS hw hB h5
        obtain ⟨r',h9,h10⟩:=h2 ν _ _ hi h8 0
        refine ⟨_,h4 ν r' zv h9 ((hzv w).2 ν),?_⟩
        have:=zsc (P:=P) (w:=w) ok (hp.und hu) hdj (.inr ⟨b,ck,h6,h7⟩) (q2 ν _ hi) (h10 w) (hzv w).1
        simp [execOp,ho,this]
       | _=>exact absurd trivial hnb
     | _=>exact absurd trivial hnb
  | _=>exact qS e
end Go.Ev
