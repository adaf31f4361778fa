/- The evaluator is right on new blocks, stores, maps, append, copy, clear. No statement of the seat stands here. No condition. By an AI agent. -/
import Derived.Test.YtlklljjppambpaaGreatDoorEvC
namespace Go.Ev
open Go.RowKit
variable {P:Program}
def yh (P:Program) (pc:PC) (fi:FI) (ds:List Nat) (o:Oper):Prop:=∀ r tm le s k,¬((op pc fi ds o).run r tm le s k).isBad →
 ∃ v b,k v ⟨Tr.set B.none b s.nx s.h,s.nx.succ⟩=(op pc fi ds o).run r tm le s k∧(∀ ν w,(∀ u,ν.blk s.nx u=none)→BR P ν w s.nx b) ∧
  ∀ n0 w0 ν tmps s2 w,St P n0 w0 ν s2 w→yq ν fi.ng→zeS ν fi ds tm le tmps o→(∀ u,ν.blk s.nx u=none)→s.nx.toNat<s2.nx.toNat→(Tr.get B.none s.nx s2.h=b∨Tr.get B.none s.nx s2.h=.none) →
   ∃ ν' y w',ν.le ν'∧St P n0 w0 ν' s2 w'∧(∀ a,a≠s.nx→∀ u,ν'.blk a u=ν.blk a u)∧VR ν' v y∧(execOp (ev tmps) o).run P w=.ok (.value y) w'
def zOt (P:Program) (x:Sem Next) (w:World) (y:Value) (w':World):Prop:=x.run P w=.ok (.value y) w'∨(y=Go.undef∧x.run P w=.ok .skip w')
def OpS (P:Program) (pc:PC) (fi:FI) (ds:List Nat) (o:Oper):Prop:=∀ r tm le s k,¬((op pc fi ds o).run r tm le s k).isBad →
 ∃ v s',k v s'=(op pc fi ds o).run r tm le s k∧∀ n0 w0 ν w tmps,St P n0 w0 ν s w→yq ν fi.ng→zeS ν fi ds tm le tmps o →
  ∃ ν' y w',Out P n0 w0 ν s ν' s' w'∧VR ν' v y∧zOt P (execOp (ev tmps) o) w y w'
variable {fi:FI} {ds:List Nat} {m:Nat} {o:Oper}
theorem OpS.bad {pc:PC} (h:op pc fi ds o=zX m):OpS P pc fi ds o:=fun r tm le s k hnb=>by rw [h] at hnb;exact absurd trivial hnb
theorem yh.bad {pc:PC} (h:op pc fi ds o=zX m):yh P pc fi ds o:=fun r tm le s k hnb=>by rw [h] at hnb;exact absurd trivial hnb
theorem wV.op {pc:PC} (h:wV P pc fi ds o):OpS P pc fi ds o:=fun r tm le s k hnb=>by
 obtain ⟨v,h1,h2⟩:=h r tm le s k hnb
 refine ⟨v,s,h1,fun n0 w0 ν w tmps hst hG hf=>?_⟩
 obtain ⟨y,h3,h4⟩:=h2 ν w tmps ⟨hst.rows,hst.sep⟩ hG hf
 exact ⟨ν,y,w,Out.refl hst,h3,.inl h4⟩
theorem yh.op {pc:PC} (h:yh P pc fi ds o):OpS P pc fi ds o:=fun r tm le s k hnb=>by
 obtain ⟨v,b,h1,h2,h3⟩:=h r tm le s k hnb
 refine ⟨v,_,h1,fun n0 w0 ν w tmps hst hG hf=>?_⟩
 obtain ⟨hn,_⟩:=hst.fresh s.nx (kab _)
 have hst2:=zhl hst b (h2 ν w hn)
 obtain ⟨ν',y,w',g1,g2,g3,g4,g5⟩:=h3 n0 w0 ν tmps _ w hst2 hG hf hn (by show _<s.nx.succ.toNat;rw [K.toNat_succ];omega) (.inl (by simp only [get_set,if_true]))
 refine ⟨ν',y,w',⟨g1,g2,by show _≤s.nx.succ.toNat;rw [K.toNat_succ];omega,fun a ha hlt=>?_⟩,g4,.inl g5⟩
 have hne:a≠s.nx:=by intro e;subst e;omega
 exact ⟨fun u=>by rw [g3 a hne u];exact ha u,.inl (by simp only [get_set,if_neg hne])⟩
theorem zcG (w:World) (o:Obj):w.heap.size<(w.alloc o).heap.size:=by show _<(w.heap.push o).size;rw [Array.size_push];omega
theorem zaW (w:World) (o:Obj):(w.alloc o).heap[w.heap.size]?=some o:=by show (w.heap.push o)[w.heap.size]?=_;rw [Array.getElem?_push,if_pos rfl]
variable {s:S} {ν:Val}
theorem zEV {n0:Nat} {w0 w:World} (hst:St P n0 w0 ν s w) (a:K) (ha:∀ v,ν.blk a v=none) (hlt:a.toNat<s.nx.toNat) (l:List V) (el:Nat)
  (hrow:Tr.get B.none a s.h=.row l l.length el false 0 0 0∨Tr.get B.none a s.h=.none) (c:Array Value) (hcs:VRs ν l c.toList) (hone:∀ y∈c.toList,y.oneCell'=true) :
  St P n0 w0 (ν.add a 0 w.heap.size 0 (P.cellsOf el)) s (w.alloc (.cells c el)):=by
 have hsize:n0≤w.heap.size:=kar hst.n0le hst.below.size
 have hh:∀ k,k<w.heap.size→(w.alloc (.cells c el)).heap[k]?=w.heap[k]?:=fun k hk=>Below.heap_alloc w _ k hk
 have hb:=hst.below.alloc hsize (.cells c el)
 rcases hrow with h | h
 ·exact zC8 hst a ha hlt l el false 0 h c c.toList hcs (fun i y hy=>by simpa using hy) hone (fun g=>by cases g) (zcG _ _) hh hb (zaW _ _)
 ·exact zeC hst a ha hlt 0 0 _ (zcG _ _) hh hb (by rw [h];trivial)
variable {l:List V}
theorem zcq {el:Nat} {gr:Bool} {c:K→Nat→S→A}:newRow s el l gr c=c s.nx l.length ⟨Tr.set B.none (.row l l.length el gr 0 0 0) s.nx s.h,s.nx.succ⟩:=by
 unfold newRow;rw [jn,zdy]
variable {le:List V} {tm:T} {k:V→S→A}
theorem zfv {pc:PC} {r:R} {el:Nat} {v:V}
  (e:k v ⟨Tr.set B.none (.row l l.length el false 0 0 0) s.nx s.h,s.nx.succ⟩=(op pc fi ds o).run r tm le s k)
  (h:∀ (ν:Val) (tmps:Array Value),yq ν fi.ng→zeS ν fi ds tm le tmps o→∃ c:Array Value,VRs ν l c.toList∧(∀ y∈c.toList,y.oneCell'=true) ∧
   ∀ w,∃ y,(∀ ν',ν'.blk s.nx 0=some (w.heap.size,0)→VR ν' v y)∧(execOp (ev tmps) o).run P w=.ok (.value y) (w.alloc (.cells c el))) :
  ∃ v b,k v ⟨Tr.set B.none b s.nx s.h,s.nx.succ⟩=(op pc fi ds o).run r tm le s k∧(∀ ν w,(∀ u,ν.blk s.nx u=none)→BR P ν w s.nx b) ∧
  ∀ n0 w0 ν tmps s2 w,St P n0 w0 ν s2 w→yq ν fi.ng→zeS ν fi ds tm le tmps o→(∀ u,ν.blk s.nx u=none)→s.nx.toNat<s2.nx.toNat→(Tr.get B.none s.nx s2.h=b∨Tr.get B.none s.nx s2.h=.none) →
   ∃ ν' y w',ν.le ν'∧St P n0 w0 ν' s2 w'∧(∀ a,a≠s.nx→∀ u,ν'.blk a u=ν.blk a u)∧VR ν' v y∧(execOp (ev tmps) o).run P w=.ok (.value y) w':=by
 refine ⟨v,_,e,fun ν w hn=>BR.newRow hn l el false,fun n0 w0 ν tmps s2 w hst hG hf hn hlt hB=>?_⟩
 obtain ⟨c,h1,h2,h3⟩:=h ν tmps hG hf
 obtain ⟨y,h4,h5⟩:=h3 w
 exact ⟨_,y,_,Val.le_add hn,zEV hst s.nx hn hlt l el hB c h1 h2,fun a ha u=>Val.add_other ha,h4 _ Val.add_self,h5⟩
theorem znD (el:TypeId) (z:Value) (w:World):(newVar el z).run P w=.ok ⟨w.heap.size,0,none⟩ (w.alloc (.cells z.cells el)):=by simp [newVar,Go.newRow]
theorem zab (el:TypeId) (c:Array Value) (w:World):(Go.newRow el c).run P w=.ok ⟨w.heap.size,0,none⟩ (w.alloc (.cells c el)):=by simp [Go.newRow]
variable {b:Nat}
theorem zz6 {a:K} (h:ν.blk a 0=some (b,0)):VR ν (.ptr a 0 0) (.pointer (some ⟨b,0,none⟩)):=⟨b,0,h,rfl⟩
theorem zkT {pc:PC} (hp:PcOk P pc) {el:TypeId} (ho:o.op=.alloc el):yh P pc fi ds o:=by
 have e:op pc fi ds o=op pc fi ds o:=rfl
 conv at e=>rhs;simp only [op,ho]
 rcases PC.zc_or hp el (zX 0) _ with h | ⟨zc,h,z,hz,hz1,hz2⟩
 ·exact yh.bad (e.trans h)
 ·rw [h] at e
  simp only [zH] at e
  intro r tm le s k hnb
  refine zfv (l:=zc) (el:=el) (v:=.ptr s.nx 0 0) (by rw [e];exact (zcq (c:=fun a _ s=>k (.ptr a 0 0) s)).symm) (fun ν tmps _ _=>⟨z.cells,hz1 ν,hz2,fun w=>⟨_,fun ν' h=>zz6 h,?_⟩⟩)
  simp [execOp,ho,Instr.alloc,hz,znD]
theorem zwD {pc:PC} {el:TypeId} {x:Operand} (ho:o.op=.box el x):yh P pc fi ds o:=by
 have e:op pc fi ds o=op pc fi ds o:=rfl
 conv at e=>rhs;simp only [op,ho]
 rcases PC.sz_or pc el (zX 0) _ with h | ⟨i,hi,h⟩
 ·exact yh.bad (e.trans h)
 ·rw [h] at e
  simp only [zH] at e
  intro r tm le s k hnb
  rw [e,zdq] at hnb
  obtain ⟨u,h1,h2⟩:=qc fi ds x tm le _ hnb
  rw [←h1] at hnb
  obtain ⟨xs,h3,h4,h5⟩:=zjv hnb
  refine zfv (l:=xs) (el:=el) (v:=.ptr s.nx 0 0) (by rw [e,zdq,←h1,←h3,zcq]) (fun ν tmps hG hf=>?_)
  obtain ⟨g1,g2⟩:=h5 ν _ (h2 ν tmps hG (hf x (by simp [ho,Op.operands])))
  refine ⟨_,g1,g2,fun w=>⟨_,fun ν' h=>zz6 h,?_⟩⟩
  simp [execOp,ho,Instr.box,znD]
theorem zjU {z:Array Value} {n:Nat}:((Array.range (n*z.size)).map (fun i=>z[i % z.size]!)).toList=(List.range n).flatMap fun _=>z.toList:=by
 induction n with
 | zero=>simp
 | succ n ih =>
  rw [List.range_succ,List.flatMap_append,←ih]
  have e:(n+1)*z.size=n*z.size+z.size:=Nat.succ_mul _ _
  simp only [Array.toList_map,Array.toList_range,e,List.range_add,kaE,List.map_map,List.flatMap_cons,List.flatMap_nil,List.append_nil]
  congr 1
  apply List.ext_getElem
  ·simp
  ·intro i h1 h2
   simp at h1 h2
   have:(n*z.size+i) % z.size=i:=by rw [Nat.add_comm,Nat.add_mul_mod_self_right,Nat.mod_eq_of_lt h1]
   simp [this,h1]
theorem zfj {ν:Val} {l:List V} {c:List Value} (h:VRs ν l c):∀ n,VRs ν (rep l n) ((List.range n).flatMap fun _=>c)
 | 0=>rfl
 | n+1=>by
  have:(List.range (n+1)).flatMap (fun _=>c)=c++(List.range n).flatMap fun _=>c:=by
   rw [List.range_succ_eq_map,List.flatMap_cons,List.flatMap_map]
  rw [this]
  exact h.append (zfj h n)
theorem zic {c:List Value} {n:Nat} (h:∀ y∈c,y.oneCell'=true):∀ y∈(List.range n).flatMap (fun _=>c),y.oneCell'=true:=by
 intro y hy
 rw [List.mem_flatMap] at hy
 obtain ⟨_,_,hy⟩:=hy
 exact h y hy
theorem zb9 {pc:PC} (hp:PcOk P pc) {t:TypeId} {len:Nat} {parts:Array (Nat × Operand)} (ho:o.op=.buildSlice t len parts):yh P pc fi ds o:=by
 have e:op pc fi ds o=op pc fi ds o:=rfl
 conv at e=>rhs;simp only [op,ho]
 cases hu:pc.und t with
 | none=>rw [hu] at e;exact yh.bad e
 | some d =>
  rw [hu] at e
  cases d with
  | slice el =>
   simp only at e
   rcases PC.sz_or pc el (zX 0) _ with h | ⟨i,hi,h⟩
   ·exact yh.bad (e.trans h)
   ·rw [h] at e
    rcases PC.zc_or hp el (zX 0) _ with h | ⟨zc,h,z,hz,hz1,hz2⟩
    ·exact yh.bad (e.trans h)
    ·rw [h] at e
     rcases zac (Nat.beq (zjX zc) i.size && Nat.ble (len*i.size) 16777216) (zX 0) _ with h | ⟨hc,h⟩
     ·exact yh.bad (e.trans h)
     ·rw [h] at e
      simp only [zH,ziR] at e
      rw [kas] at hc
      have hzl:zc.length=i.size:=by rw [←zg1];exact kaa hc.1
      have hlim:len*i.size≤16777216:=kaA.mp hc.2
      have hrl:(rep zc len).length=len*i.size:=by rw [zaZ,hzl]
      intro r tm le s k hnb
      have e2:(op pc fi ds o).run r tm le s k=(paC fi ds (len*i.size) (fun j=>some (j*i.size,i.size)) parts.toList).run tm le (rep zc len) fun l=>newRow s el l false fun a _ s=>k (.sl a 0 0 len len) s:=by rw [e]
      rw [e2] at hnb
      obtain ⟨out,g1,g2,g3⟩:=zFA _ tm le (rep zc len) _ hrl hnb
      refine zfv (l:=out) (el:=el) (v:=.sl s.nx 0 0 len len) (by rw [e2,←g1,zcq]) (fun ν tmps hG hf=>?_)
      have hzsz:z.cells.size=i.size:=by have:=(hz1 ν).length;simp at this;omega
      have hrep:((Array.range (len*z.cells.size)).map (fun i=>z.cells[i % z.cells.size]!)).toList=(List.range len).flatMap fun _=>z.cells.toList:=zjU
      rw [hzsz] at hrep
      obtain ⟨cells',g4,g5,g6⟩:=g3 ν tmps ((Array.range (len*i.size)).map (fun i=>z.cells[i % z.cells.size]!)) hG (fun p hp=>hf p.2 (by simp [ho,Op.operands];exact ⟨p.1,by simpa using hp⟩))
       (by rw [hzsz,hrep];exact zfj (hz1 ν) len) (by rw [hzsz,hrep];exact zic hz2)
      refine ⟨cells',g5,g6,fun w=>⟨.slice (some ⟨w.heap.size,0,none⟩) len len,fun ν' h=>⟨_,0,h,rfl,kab _⟩,?_⟩⟩
      simp only [execOp,ho]
      have hb:(Instr.buildSlice t len (parts.map fun p=>(p.1,ev tmps p.2))).run P w=.ok (.slice (some ⟨w.heap.size,0,none⟩) len len) (w.alloc (.cells cells' el)):=by
       have hlim':¬(2 ^ 24<len*i.size):=by omega
       simp only [Instr.buildSlice,Sem.run_bind,zy (hp.und hu),Result.andThen_ok,yw (hp.info _ _ hi),gt_iff_lt,hlim',if_false]
       by_cases h0:len*i.size=0
       ·have e0:∀ f:Nat→Value,(Array.range 0).map f=#[]:=fun f=>by simp
        simp only [h0,if_true,Sem.run_pure,Sem.run_bind,Result.andThen_ok,e0]
        have g4':Instr.fill (fun j=>some (j*i.size,i.size)) #[] (parts.toList.map fun p=>(p.1,ev tmps p.2))=some cells':=by
         rw [←g4];congr 1;rw [h0];simp
        have:(parts.map fun p=>(p.1,ev tmps p.2)).toList=parts.toList.map fun p=>(p.1,ev tmps p.2):=by simp
        rw [this,g4']
        simp [zab]
       ·simp only [h0,if_false,Sem.run_bind,hz,Sem.run_pure,Result.andThen_ok]
        have:(parts.map fun p=>(p.1,ev tmps p.2)).toList=parts.toList.map fun p=>(p.1,ev tmps p.2):=by simp
        rw [this,g4]
        simp [zab]
      simp [hb]
  | _=>exact yh.bad e
variable {y:Operand}
theorem zdJ {pc:PC} (hp:PcOk P pc) {t:TypeId} {x:Operand} (ho:o.op=.makeSlice t x y):yh P pc fi ds o:=by
 have e:op pc fi ds o=op pc fi ds o:=rfl
 conv at e=>rhs;simp only [op,ho]
 cases hu:pc.und t with
 | none=>rw [hu] at e;exact yh.bad e
 | some d =>
  rw [hu] at e
  cases d with
  | slice el =>
   simp only at e
   rcases PC.sz_or pc el (zX 0) _ with h | ⟨i,hi,h⟩
   ·exact yh.bad (e.trans h)
   ·rw [h] at e
    rcases PC.by_or pc el (zX 0) _ with h | ⟨i',hi',h⟩
    ·exact yh.bad (e.trans h)
    ·rw [h] at e
     rw [hi] at hi'
     simp only [Option.some.injEq] at hi'
     subst hi'
     rcases PC.zc_or hp el (zX 0) _ with h | ⟨zc,h,z,hz,hz1,hz2⟩
     ·exact yh.bad (e.trans h)
     ·rw [h] at e
      rcases zac (Nat.beq (zjX zc) i.size) (zX 0) _ with h | ⟨hc,h⟩
      ·exact yh.bad (e.trans h)
      ·rw [h] at e
       simp only [zH] at e
       have hzl:zc.length=i.size:=by rw [←zg1];exact kaa hc
       intro r tm le s k hnb
       rw [e,zd2] at hnb
       obtain ⟨u,h1,h2⟩:=qc fi ds x tm le _ hnb
       rw [←h1] at hnb
       obtain ⟨v,h3,h4⟩:=qc fi ds y tm le _ hnb
       rw [←h3] at hnb
       cases u with
       | nat k1 l =>
        cases v with
        | nat k2 c =>
         unfold zgN at hnb
         simp only at hnb
         cases hcond:zq (Nat.ble l c) (zq (Nat.ble c 281474976710656) (Nat.ble (Nat.mul i.bytes c) 281474976710656)) with
         | false=>rw [hcond] at hnb;exact absurd trivial hnb
         | true =>
          obtain ⟨q1,q2⟩:=zh hcond
          obtain ⟨q2,q3⟩:=zh q2
          have q1:=kaA.mp q1
          have q2:=kaA.mp q2
          have q3:i.bytes*c≤281474976710656:=kaA.mp q3
          refine zfv (l:=rep zc c) (el:=el) (v:=.sl s.nx 0 0 l c) (by rw [e,zd2,←h1,←h3];simp only [zgN,hcond,ziR,zcq]) (fun ν tmps hG hf=>?_)
          have hx:=h2 ν tmps hG (hf x (by simp [ho,Op.operands]))
          have hy:=h4 ν tmps hG (hf y (by simp [ho,Op.operands]))
          simp only [VR] at hx hy
          have hzsz:z.cells.size=i.size:=by have:=(hz1 ν).length;simp at this;omega
          have hrep:((Array.range (c*z.cells.size)).map (fun i=>z.cells[i % z.cells.size]!)).toList=(List.range c).flatMap fun _=>z.cells.toList:=zjU
          rw [hzsz] at hrep
          refine ⟨(Array.range (c*i.size)).map (fun i=>z.cells[i % z.cells.size]!),by rw [hzsz,hrep];exact zfj (hz1 ν) c,by rw [hzsz,hrep];exact zic hz2,fun w=>⟨.slice (some ⟨w.heap.size,0,none⟩) l c,fun ν' h=>⟨_,0,h,rfl,q1⟩,?_⟩⟩
          have wl:IntKind.i64.wrap (l:Int)=(l:Int):=zax (by show l<9223372036854775808;omega)
          have wc:IntKind.i64.wrap (c:Int)=(c:Int):=zax (by show c<9223372036854775808;omega)
          have b1:¬((l:Int)<0):=by omega
          have b2:¬((c:Int)<0):=by omega
          have b3:¬((l:Int) > c):=by omega
          have b4:¬((i.bytes:Int)*c > 2 ^ 48):=by
           have:((i.bytes*c:Nat):Int)≤281474976710656:=Int.ofNat_le.2 q3
           rw [Int.natCast_mul] at this
           omega
          have hb:(Instr.makeSlice t (ev tmps x) (ev tmps y)).run P w=.ok (.slice (some ⟨w.heap.size,0,none⟩) l c) (w.alloc (.cells ((Array.range (c*i.size)).map (fun i=>z.cells[i % z.cells.size]!)) el)):=by
           rw [hx,hy]
           have hcond2:(decide ((c:Int)<0) || decide ((i.bytes:Int)*c > 2 ^ 48) || decide ((l:Int)<0) || decide ((l:Int) > c))=false:=by rw [decide_eq_false b1,decide_eq_false b2,decide_eq_false b3,decide_eq_false b4];rfl
           simp only [Instr.makeSlice,Sem.run_bind,zy (hp.und hu),Result.andThen_ok,asInt,asIntOf,Sem.run_pure,zbw (hp.info _ _ hi),Int.ofNat_eq_natCast,wl,wc,hcond2,Bool.false_eq_true,if_false,run_askRoom,yw (hp.info _ _ hi),Int.toNat_natCast]
           by_cases h0:c*i.size=0
           ·have e0:∀ f:Nat→Value,(Array.range 0).map f=#[]:=fun f=>by simp
            simp only [h0,if_true,Sem.run_pure,Sem.run_bind,Result.andThen_ok,e0,zab]
           ·simp only [h0,if_false,Sem.run_bind,hz,Sem.run_pure,Result.andThen_ok,zab]
          simp [execOp,ho,hb]
        | _=>exact absurd trivial hnb
       | _=>exact absurd trivial hnb
  | _=>exact yh.bad e
theorem zGX {pc:PC} {r:R}
  (e:k (.ref 0 s.nx) ⟨Tr.set B.none (.map [] 0) s.nx s.h,s.nx.succ⟩=(op pc fi ds o).run r tm le s k)
  (h:∀ (ν:Val) (tmps:Array Value) w,yq ν fi.ng→zeS ν fi ds tm le tmps o→(execOp (ev tmps) o).run P w=.ok (.value (.map (some w.heap.size))) (w.alloc (.map #[] 0))) :
  ∃ v b,k v ⟨Tr.set B.none b s.nx s.h,s.nx.succ⟩=(op pc fi ds o).run r tm le s k∧(∀ ν w,(∀ u,ν.blk s.nx u=none)→BR P ν w s.nx b) ∧
  ∀ n0 w0 ν tmps s2 w,St P n0 w0 ν s2 w→yq ν fi.ng→zeS ν fi ds tm le tmps o→(∀ u,ν.blk s.nx u=none)→s.nx.toNat<s2.nx.toNat→(Tr.get B.none s.nx s2.h=b∨Tr.get B.none s.nx s2.h=.none) →
   ∃ ν' y w',ν.le ν'∧St P n0 w0 ν' s2 w'∧(∀ a,a≠s.nx→∀ u,ν'.blk a u=ν.blk a u)∧VR ν' v y∧(execOp (ev tmps) o).run P w=.ok (.value y) w':=by
 refine ⟨.ref 0 s.nx,.map [] 0,e,fun ν w hn v b δ h=>(by rw [hn] at h;cases h),fun n0 w0 ν tmps s2 w hst hG hf hn hlt hB=>?_⟩
 have hsize:n0≤w.heap.size:=kar hst.n0le hst.below.size
 refine ⟨ν.add s.nx 0 w.heap.size 0 0,.map (some w.heap.size),w.alloc (.map #[] 0),Val.le_add hn,?_,fun a ha u=>Val.add_other ha,⟨_,Val.add_self,rfl⟩,h ν tmps w hG hf⟩
 refine zeC hst s.nx hn hlt 0 0 0 (zcG _ _) (fun k hk=>Below.heap_alloc w _ k hk) (hst.below.alloc hsize _) ?_
 rcases hB with h | h
 ·rw [h]
  intro v b δ hb
  obtain ⟨e1,e2⟩:=Val.add_only hn hb
  simp only [Prod.mk.injEq] at e2
  obtain ⟨rfl,rfl⟩:=e2
  exact ⟨e1,#[],zaW _ _,rfl⟩
 ·rw [h];trivial
theorem zfS {pc:PC} (hp:PcOk P pc) {t:TypeId} {rs:Option Operand} (ho:o.op=.makeMap t rs):yh P pc fi ds o:=by
 have e:op pc fi ds o=op pc fi ds o:=rfl
 conv at e=>rhs;simp only [op,ho]
 cases rs with
 | some x =>
  simp only at e
  cases hu:pc.und t with
  | none=>rw [hu] at e;exact yh.bad e
  | some d =>
   rw [hu] at e
   cases d with
   | map j el =>
    simp only at e
    intro r tm le s k hnb
    rw [e,zdq] at hnb
    obtain ⟨u,h1,h2⟩:=qc fi ds x tm le _ hnb
    rw [←h1] at hnb
    cases u with
    | nat kk n =>
     refine zGX (by rw [e,zdq,←h1];simp only [zdy]) (fun ν tmps w hG hf=>?_)
     have hv:=h2 ν tmps hG (hf x (by simp [ho,Op.operands]))
     simp only [VR] at hv
     simp [execOp,ho,Instr.makeMap,hv,zy (hp.und hu),asInt,asIntOf]
    | _=>exact absurd trivial hnb
   | _=>exact yh.bad e
 | none =>
  intro r tm le s k hnb
  exact zGX (by rw [e];simp only [zdy]) (fun ν tmps w hG hf=>by simp [execOp,ho,Instr.makeMap])
theorem Out.write {n0:Nat} {w0 w':World} {s':S} (hst:St P n0 w0 ν s' w') (hnx:s'.nx=s.nx) (hk:zFF ν s s'):Out P n0 w0 ν s ν s' w' :=
 ⟨ν.le_refl,hst,by rw [hnx];exact kab _,fun a ha hlt=>⟨ha,.inl (hk a ha hlt)⟩⟩
theorem zc9 {w:World} {o:Nat} {cs:List Value} (ht:w.there b o cs.length) (h1:∀ y∈cs,y.oneCell'=true):(storeCells ⟨b,o,none⟩ cs).run P w=.ok () (w.setCells b o cs):=by
 have:=run_storeCells_cells (P:=P) b o cs 0 w (fun j hj=>by simpa using (ht j hj).1) (fun j hj=>by simpa using (ht j hj).2) h1
 simpa using this
theorem zKj {pc:PC} (hp:PcOk P pc) {t:TypeId} {x:Operand} (ho:o.op=.store t x y):OpS P pc fi ds o:=by
 have e:op pc fi ds o=op pc fi ds o:=rfl
 conv at e=>rhs;simp only [op,ho]
 rcases PC.sz_or pc t (zX 0) _ with h | ⟨i,hi,h⟩
 ·exact OpS.bad (e.trans h)
 ·rw [h] at e
  intro r tm le s k hnb
  rw [e,zd2] at hnb ⊢
  obtain ⟨u,h1,h2⟩:=qc fi ds x tm le _ hnb
  rw [←h1] at hnb ⊢
  obtain ⟨v,h3,h4⟩:=qc fi ds y tm le _ hnb
  rw [←h3] at hnb ⊢
  cases u with
  | ptr a vv p =>
   have e2:zJ i.size (.ptr a vv p) v s k=zp i.size v (fun l=>qf s a vv p i.size l (fun s=>k undef s)):=rfl
   rw [e2] at hnb ⊢
   obtain ⟨xs,g1,g2,g3⟩:=zjv hnb
   rw [←g1] at hnb ⊢
   obtain ⟨s',g4,g5,g6⟩:=jT (P:=P) hnb
   refine ⟨undef,s',g4,fun n0 w0 ν w tmps hst hG hf=>?_⟩
   obtain ⟨b,δ,q1,q2⟩:=h2 ν tmps hG (hf x (by simp [ho,Op.operands]))
   obtain ⟨q3,q4⟩:=g3 ν _ (h4 ν tmps hG (hf y (by simp [ho,Op.operands])))
   obtain ⟨q5,q6,q7⟩:=g6 hst b δ q1 _ q3 g2 q4
   have hlen:=q3.length
   refine ⟨ν,Go.undef,_,Out.write q6 g5 q7,VR.undef,.inr ⟨rfl,?_⟩⟩
   have hsz:(ev tmps y).cells.size=i.size:=by simpa [g2] using hlen
   have hs:=zc9 (P:=P) (w:=w) (b:=b) (o:=δ+p) (cs:=(ev tmps y).cells.toList) (by simpa [hsz] using q5) q4
   simp [execOp,ho,q2,Instr.storeAt,Instr.sureAddr,storeVar,yw (hp.info _ _ hi),hsz,hs]
  | _=>exact absurd trivial hnb
theorem ziv {n0:Nat} {w0 w:World} (hst:St P n0 w0 ν s w) {a:K} {B':B} {o:Obj} (hb:ν.blk a 0=some (b,0)) (hl:(Tr.get B.none a s.h).live) (hnl:¬zpJ (Tr.get B.none a s.h)) (hv:∀ v p,ν.blk a v=some p→v=0) (_:¬zpJ B')
  (hB:∀ w':World,w'.heap[b]?=some o→BR P ν w' a B') :
  St P n0 w0 ν ⟨Tr.set B.none B' a s.h,s.nx⟩ { w with heap:=w.heap.setIfInBounds b o }:=by
 have hlt:b<w.heap.size:=(hst.rows a).there hl hb
 have zY:∀ a',Tr.get B.none a' (Tr.set B.none B' a s.h)=if a'=a then B' else Tr.get B.none a' s.h:=fun a'=>get_set _ _ _ _ _
 have hliv:∀ a',(Tr.get B.none a' (Tr.set B.none B' a s.h)).live→(Tr.get B.none a' s.h).live:=by
  intro a' h
  rw [zY] at h
  by_cases e:a'=a
  ·rw [e];exact hl
  ·rwa [if_neg e] at h
 have hn0:n0≤b:=by
  rcases hst.own a 0 b 0 hb hl with h | h
  ·exact h
  ·exact absurd h hnl
 have hheap:∀ k,k≠b→(w.heap.setIfInBounds b o)[k]?=w.heap[k]?:=fun k hk=>Array.getElem?_setIfInBounds_ne (fun e=>hk e.symm)
 have jU:(w.heap.setIfInBounds b o)[b]?=some o:=by simp [hlt]
 refine ⟨hst.below.trans ⟨rfl,rfl,rfl,by simp,fun k hk=>hheap k (by omega)⟩,hst.n0le,fun a'=>?_,fun a' ha'=>?_,fun a1 v1 b1 δ1 a2 v2 δ2 h1 h2 l1 l2=>hst.sep _ _ _ _ _ _ _ h1 h2 (hliv _ l1) (hliv _ l2),fun a' v' b' δ' hb' hlv=>?_⟩
 ·simp only [zY]
  by_cases e:a'=a
  ·subst e;rw [if_pos rfl];exact hB _ jU
  ·rw [if_neg e]
   refine (hst.rows a').frame fun v' b' δ' hb' hl2=>hheap _ ?_
   intro eb;subst eb
   exact e (hst.sep _ _ _ _ _ _ _ hb' hb hl2 hl)
 ·obtain ⟨h1,h2⟩:=hst.fresh a' ha'
  refine ⟨h1,?_⟩
  simp only [zY]
  rw [if_neg]
  ·exact h2
  ·intro e;subst e;rw [h1] at hb;cases hb
 ·by_cases e:a'=a
  ·subst e
   have:=hv _ _ hb'
   subst this
   rw [hb] at hb'
   simp only [Option.some.injEq,Prod.mk.injEq] at hb'
   left;omega
  ·rcases hst.own a' v' b' δ' hb' (hliv _ hlv) with h | h
   ·exact .inl h
   ·right;simp only [zY,if_neg e];exact h
theorem zBg {a b:ByteArray} (h:qm a=qm b):a=b:=by
 have h1:=zgk.1 h
 rw [zaO,zaO] at h1
 cases a;cases b
 simp at h1
 congr
variable {y:Value}
theorem zhX {q:Nat} {a b:V} (h:eqP q a b=some true) (hq:q=0∨q=7∨q=8) {x:Value} (hx:VR ν a x) (hy:VR ν b y) (d:Nat):Instr.sameBits d y x=true:=by
 rcases hq with rfl | rfl | rfl
 ·cases a<;>first | (cases h;done) | skip
  rename_i p
  cases b<;>first | (cases h;done) | skip
  rename_i p'
  simp only [VR] at hx hy
  subst hx hy
  cases p<;>cases p'<;>first | (simp [eqP,zat] at h;done) | simp [Instr.sameBits]
 ·cases a<;>first | (cases h;done) | skip
  ·rename_i k n
   cases b<;>first | (cases h;done) | skip
   ·rename_i k' n'
    simp only [VR] at hx hy
    subst hx hy
    simp only [eqP] at h
    cases hk:yl k k' with
    | false=>rw [hk] at h;cases h
    | true =>
     rw [hk] at h
     have:=(qU _ _).1 hk
     subst this
     simp only [Option.some.injEq] at h
     have:=kaa h
     subst this
     simp [Instr.sameBits]
   ·rename_i k' n'
    simp only [eqP] at h
    cases hk:yl k k'<;>rw [hk] at h<;>simp at h
  ·rename_i k n
   cases b<;>first | (cases h;done) | skip
   ·rename_i k' n'
    simp only [eqP] at h
    cases hk:yl k k'<;>rw [hk] at h<;>simp at h
   ·rename_i k' n'
    simp only [VR] at hx hy
    subst hx hy
    simp only [eqP] at h
    cases hk:yl k k' with
    | false=>rw [hk] at h;cases h
    | true =>
     rw [hk] at h
     have:=(qU _ _).1 hk
     subst this
     simp only [Option.some.injEq] at h
     have:=kaa h
     subst this
     simp [Instr.sameBits]
 ·cases a<;>first | (cases h;done) | skip
  rename_i l
  cases b<;>first | (cases h;done) | skip
  rename_i l'
  obtain ⟨s,rfl,h1⟩:=hx
  obtain ⟨t,rfl,h2⟩:=hy
  simp only [eqP,Option.some.injEq] at h
  have:=(zm6 _ _).1 h
  subst this
  have:=zBg (h1.trans h2.symm)
  subst this
  have hss:(s == s)=true:=(MapKept.bytes_beq s s).2 rfl
  cases d<;>simp only [Instr.sameBits,hss]
theorem QTy.q {t:TypeId} {q:Nat} (h:QTy P t q):q=0∨q=7∨q=8:=by
 rcases h with ⟨h,_⟩ | ⟨h,_⟩ | ⟨h,_⟩
 ·exact .inl h
 ·exact .inr (.inl h)
 ·exact .inr (.inr h)
theorem jc.kinds:∀ {n:Nat} {fs:List Field} {qs:List Nat},jc P n fs qs→∀ q∈qs,q=0∨q=7∨q=8
 | _,[],[],_,q,h=>by cases h
 | _,f::fs,q0::qs,⟨_,_,h1,h2⟩,q,h=>by
  rcases kaj.1 h with rfl | h
  ·exact h1.q
  ·exact h2.kinds q h
 | _,[],_::_,h,_,_=>h.elim
 | _,_::_,[],h,_,_=>h.elim
theorem zxk:∀ {qs:List Nat} {a b:List V},(∀ q∈qs,q=0∨q=7∨q=8)→zis qs a b=some true→∀ {ν:Val} {xs ys:List Value},VRs ν a xs→VRs ν b ys→∀ d,ys.length=xs.length∧∀ p∈ys.zip xs,Instr.sameBits d p.1 p.2=true
 | [],a,b,_,h,ν,xs,ys,hx,hy,d=>by
  cases a with
  | nil=>cases b with
   | nil=>simp only [VRs] at hx hy;subst hx hy;simp
   | cons _ _=>cases h
  | cons _ _=>cases b<;>cases h
 | q::qs,a,b,hf,h,ν,xs,ys,hx,hy,d=>by
  have hq:=hf q List.mem_cons_self
  have hf:∀ q∈qs,q=0∨q=7∨q=8:=fun q h=>hf q (kaC _ h)
  cases a with
  | nil=>cases h
  | cons u a=>cases b with
   | nil=>cases h
   | cons v b =>
    have e:zis (q::qs) (u::a) (v::b)=(match eqP q u v with | some true=>zis qs a b | some false=>some false | none=>none):=rfl
    rw [e] at h
    cases h1:eqP q u v with
    | none=>rw [h1] at h;cases h
    | some t =>
     rw [h1] at h
     cases t with
     | false=>cases h
     | true =>
      obtain ⟨x,r,e1,hx1,hx2⟩:=hx
      obtain ⟨y,r',e2,hy1,hy2⟩:=hy
      subst e1 e2
      obtain ⟨g1,g2⟩:=zxk hf h hx2 hy2 d
      refine ⟨by simp [g1],fun p hp=>?_⟩
      simp only [List.zip_cons_cons,kaj] at hp
      rcases hp with rfl | hp
      ·exact zhX h1 hq hx1 hy1 d
      ·exact g2 p hp
theorem zBC {pc:PC} (hp:PcOk P pc) {j:TypeId} (hk:zaz (pc.eqKind j)=true) {a b:V} (h:eqV (pc.eqKind j) false a b=some true) {x:Value} (hx:VR ν a x) (hy:VR ν b y):Instr.sameBits 10000 y x=true:=by
 unfold zaz at hk
 simp only [Bool.or_eq_true] at hk
 rcases hk with ((hk | hk) | hk) | hk
 ·have:=kaa hk
  unfold eqV at h
  rw [this] at h
  exact zhX h (.inl rfl) hx hy _
 ·have h6:=kaa hk
  have h4:∀ q∈(pc.eqKind j).qs,q=0∨q=7∨q=8:=by
   obtain ⟨fs,_,h4⟩:=zb6 hp h6
   exact h4.kinds
  unfold eqV at h
  rw [h6] at h
  cases a with
  | ls t l=>cases b with
   | ls t' l' =>
    simp only at h
    cases ht:zq (Nat.beq t 0) (Nat.beq t' 0) with
    | false=>rw [ht] at h;cases h
    | true =>
     rw [ht] at h
     obtain ⟨e1,e2⟩:=zh ht
     have e1:=kaa e1
     have e2:=kaa e2
     subst e1 e2
     obtain ⟨cx,q1,q2,_⟩:=hx
     obtain ⟨cy,q3,q4,_⟩:=hy
     subst q2 q4
     obtain ⟨g1,g2⟩:=zxk h4 h q1 q3 9999
     show Instr.sameBits (9999+1) _ _=true
     rw [Instr.sameBits.eq_def]
     simp only [kas,beq_iff_eq,kaD]
     exact ⟨by simpa using g1,fun p hp=>g2 p hp⟩
   | _=>cases h
  | _=>cases h
 ·have:=kaa hk
  unfold eqV at h
  rw [this] at h
  exact zhX h (.inr (.inl rfl)) hx hy _
 ·have:=kaa hk
  unfold eqV at h
  rw [this] at h
  exact zhX h (.inr (.inr rfl)) hx hy _
theorem MRs.append {ν:Val}:∀ {es:List ME} {c:List MapEntry} {e:ME} {x:MapEntry},MRs ν es c→MR ν e x→MRs ν (es++[e]) (c++[x])
 | [],_,e,x,h,k=>by simp only [MRs] at h;subst h;exact ⟨x,[],rfl,k,rfl⟩
 | _::_,_,e,x,⟨y,r,e1,h1,h2⟩,k=>by subst e1;exact ⟨y,_,rfl,h1,MRs.append h2 k⟩
theorem zG8 {pc:PC} (hp:PcOk P pc) {j:TypeId} (hk:zaz (pc.eqKind j)=true) {key val:V} {ck:Nat}:∀ {es:List ME} {c:Bool→List ME→A},¬(zjR (pc.eqKind j) key val ck es c).isBad→∃ b l',c b l'=zjR (pc.eqKind j) key val ck es c ∧
  ∀ (ν:Val) (k v:Value) (es':List MapEntry),VR ν key k→VR ν val v→MRs ν es es'→∀ i,∃ r',(∀ w,(Instr.findAsking j k es' i).run P w=.ok r' w) ∧
   match r' with
   | none=>b=true∧MRs ν l' (es'++[⟨k,v,ck⟩])
   | some (m,_)=>b=false∧i≤m∧∃ e,es'[m - i]?=some e∧Instr.sameBits 10000 e.key k=true∧MRs ν l' (es'.set (m - i) ⟨k,v,e.born⟩)
 | [],c,_=>⟨true,[⟨key,val,ck⟩],rfl,fun ν k v es' h1 h2 he i=>⟨none,fun w=>by simp only [MRs] at he;subst he;rfl,rfl,by simp only [MRs] at he;subst he;exact ⟨_,[],rfl,⟨h1,h2,rfl⟩,rfl⟩⟩⟩
 | e::es,c,hnb=>by
  have eq:zjR (pc.eqKind j) key val ck (e::es) c=(match eqV (pc.eqKind j) false key e.key with | some true=>c false (⟨key,val,e.born⟩::es) | some false=>zjR (pc.eqKind j) key val ck es (fun b l=>c b (e::l)) | none=>.bad 0):=rfl
  rw [eq] at hnb ⊢
  cases hq:eqV (pc.eqKind j) false key e.key with
  | none=>rw [hq] at hnb;exact absurd trivial hnb
  | some b =>
   rw [hq] at hnb
   cases b with
   | true =>
    refine ⟨false,_,rfl,fun ν k v es' h1 h2 he i=>?_⟩
    obtain ⟨x,r,e1,⟨m1,m2,m3⟩,h3⟩:=he
    subst e1
    obtain ⟨h4,_⟩:=zgx hp hq h1 m1
    refine ⟨some (i,x.val),fun w=>by simp [Instr.findAsking,h4 w],rfl,kab _,x,by simp,zBC hp hk hq h1 m1,?_⟩
    simp only [Nat.sub_self,List.set_cons_zero]
    exact ⟨_,_,rfl,⟨h1,h2,m3⟩,h3⟩
   | false =>
    obtain ⟨b0,l0,h0,h1⟩:=zG8 hp hk hnb
    refine ⟨b0,e::l0,h0,fun ν k v es' hk1 hv he i=>?_⟩
    obtain ⟨x,r,e1,⟨m1,m2,m3⟩,h3⟩:=he
    subst e1
    obtain ⟨h4,_⟩:=zgx hp hq hk1 m1
    obtain ⟨r',h5,h6⟩:=h1 ν k v r hk1 hv h3 (i+1)
    refine ⟨r',fun w=>by simp [Instr.findAsking,h4 w,h5 w],?_⟩
    cases r' with
    | none=>exact ⟨h6.1,⟨x,_,rfl,⟨m1,m2,m3⟩,h6.2⟩⟩
    | some p =>
     obtain ⟨q1,q2,e',q3,q4,q5⟩:=h6
     refine ⟨q1,by omega,e',?_,q4,?_⟩
     ·rw [show p.1 - i=(p.1 - (i+1))+1 by omega];simpa using q3
     ·rw [show p.1 - i=(p.1 - (i+1))+1 by omega,List.set_cons_succ]
      exact ⟨x,_,rfl,⟨m1,m2,m3⟩,q5⟩
theorem zyH {pc:PC} (hp:PcOk P pc) {t:TypeId} {m kx x:Operand} (ho:o.op=.mapUpdate t m kx x∨o.op=.insert t m kx x):OpS P pc fi ds o:=by
 have e:op pc fi ds o=(match opd fi ds m,opd fi ds kx,opd fi ds x with | ⟨f⟩,⟨g⟩,⟨h⟩=>(match pc.und t with
  | some (.map j _)=>fK (pc.eqKind j) fun q=>chk (zaz q) (zX 0) ⟨fun _ tm le s c=>f tm le fun m=>g tm le fun k=>h tm le fun x=>qw q m k x s c⟩
  | _=>zX 0)):=by rcases ho with ho | ho<;>simp only [op,ho]<;>rfl
 have hops:m∈o.op.operands.toList∧kx∈o.op.operands.toList∧x∈o.op.operands.toList:=by rcases ho with ho | ho<;>simp [ho,Op.operands]
 have hex:∀ tmps,execOp (ev tmps) o=(do Instr.mapUpdate t (ev tmps m) (ev tmps kx) (ev tmps x);pure .skip):=by
  intro tmps;rcases ho with ho | ho<;>simp only [execOp,ho]
 cases hu:pc.und t with
 | none=>rw [hu] at e;exact OpS.bad e
 | some d =>
  rw [hu] at e
  cases d with
  | map j el =>
   simp only [zCL] at e
   rcases zac (zaz (pc.eqKind j)) (zX 0) _ with h | ⟨hk,h⟩
   ·exact OpS.bad (e.trans h)
   ·rw [h] at e
    obtain ⟨dj,hdj⟩:=zjD hp hk
    intro r tm le s k hnb
    have e2:(op pc fi ds o).run r tm le s k=(opd fi ds m).run tm le fun m=>(opd fi ds kx).run tm le fun kk=>(opd fi ds x).run tm le fun x=>qw (pc.eqKind j) m kk x s k:=by rw [e]
    rw [e2] at hnb ⊢
    obtain ⟨u1,h1,h2⟩:=qc fi ds m tm le _ hnb
    rw [←h1] at hnb ⊢
    obtain ⟨u2,h3,h4⟩:=qc fi ds kx tm le _ hnb
    rw [←h3] at hnb ⊢
    obtain ⟨u3,h5,h6⟩:=qc fi ds x tm le _ hnb
    rw [←h5] at hnb ⊢
    unfold qw at hnb ⊢
    obtain ⟨q1,q2⟩:=zzw hp hk hnb
    rw [q1] at hnb ⊢
    cases u1 with
    | ref n a =>
     simp only at hnb ⊢
     cases ht:Nat.beq n 0 with
     | false=>rw [ht] at hnb;exact absurd trivial hnb
     | true =>
      have:=kaa ht
      subst this
      simp only [ht,yy] at hnb ⊢
      cases hB:Tr.get B.none a s.h with
      | map es ck =>
       rw [hB] at hnb
       simp only [zH,qp] at hnb ⊢
       obtain ⟨b,l',g1,g2⟩:=zG8 hp hk hnb
       rw [←g1] at hnb ⊢
       refine ⟨undef,_,rfl,fun n0 w0 ν w tmps hst hG hf=>?_⟩
       obtain ⟨b0,v1,v2⟩:=h2 ν tmps hG (hf m hops.1)
       have v3:=h4 ν tmps hG (hf kx hops.2.1)
       have v4:=h6 ν tmps hG (hf x hops.2.2)
       have hv:∀ v p,ν.blk a v=some p→v=0:=by
        intro v p hvp
        have:=hst.rows a
        rw [hB] at this
        exact (this v p.1 p.2 hvp).1
       obtain ⟨es',q3,q4⟩:=zgS hst.rows hB v1
       obtain ⟨r',q5,q6⟩:=g2 ν _ _ es'.toList v3 v4 q4 0
       have q7:=zgT hdj _ es'.toList w (q5 w)
       have hlive:(Tr.get B.none a s.h).live:=by rw [hB];trivial
       have hnl:¬zpJ (Tr.get B.none a s.h):=by rw [hB];exact fun h=>h
       have fin:∀ (es2:Array MapEntry) (ck2:Nat),MRs ν l' es2.toList→(if b=true then ck+1 else ck)=ck2→(Instr.mapUpdate t (ev tmps m) (ev tmps kx) (ev tmps x)).run P w=.ok () { w with heap:=w.heap.setIfInBounds b0 (.map es2 ck2) } →
         ∃ ν' y w',Out P n0 w0 ν s ν' ⟨Tr.set B.none (.map l' (Bool.rec ck ck.succ b)) a s.h,s.nx⟩ w'∧VR ν' undef y∧zOt P (execOp (ev tmps) o) w y w':=by
        intro es2 ck2 hm hck hrun
        have hck':(Bool.rec ck ck.succ b:Nat)=ck2:=by rw [←hck];cases b<;>rfl
        refine ⟨ν,Go.undef,_,Out.write (ziv hst v1 hlive hnl hv (B':=.map l' (Bool.rec ck ck.succ b)) (o:=.map es2 ck2) (fun h=>h) (fun w' hw'=>?_)) rfl (wH v1 _),VR.undef,.inr ⟨rfl,by rw [hex];simp [hrun]⟩⟩
        intro v b' δ' hb'
        have hv0:=hv v _ hb'
        subst hv0
        rw [v1] at hb'
        simp only [Option.some.injEq,Prod.mk.injEq] at hb'
        rw [←hb'.1,hck']
        exact ⟨rfl,es2,hw',hm⟩
       cases r' with
       | none =>
        obtain ⟨p1,p2⟩:=q6
        refine fin (es'.push ⟨ev tmps kx,ev tmps x,ck⟩) (ck+1) (by simpa using p2) (by rw [p1];rfl) ?_
        simp [Instr.mapUpdate,zy (hp.und hu),v2,yR q3,q2 ν _ v3,q7,MapKept.run_setObj_map _ q3]
       | some p =>
        obtain ⟨p1,p2,e0,p3,p4,p5⟩:=q6
        simp only [Nat.sub_zero,kao] at p3 p5
        have hlt:p.1<es'.size:=(kaB.1 p3).1
        have hgete:es'[p.1]=e0:=(kaB.1 p3).2
        refine fin (es'.modify p.1 fun e=>{ e with key:=ev tmps kx,val:=ev tmps x }) ck ?_ (by rw [p1];rfl) ?_
        ·have:(es'.modify p.1 fun e=>{ e with key:=ev tmps kx,val:=ev tmps x }).toList=es'.toList.set p.1 ⟨ev tmps kx,ev tmps x,e0.born⟩:=by
          apply kaG
          intro i
          rw [kao,Array.getElem?_modify,List.getElem?_set]
          by_cases hi:p.1=i
          ·subst hi;simp [hlt,hgete]
          ·simp [hi]
         rw [this];exact p5
        ·simp [Instr.mapUpdate,zy (hp.und hu),v2,yR q3,q2 ν _ v3,q7,Instr.keyThatStays,p3,p4,MapKept.run_setObj_map _ q3]
      | _=>rw [hB] at hnb;exact absurd trivial hnb
    | _=>exact absurd trivial hnb
  | _=>exact OpS.bad e
def zBV (P:Program) (ats:Array TypeId) (size:Nat) (z:Value) (w:World) (zeros:Bool) (x:Value) (n:Nat) (cs:List Value):Prop :=
 if zeros then (∃ u k,ats[1]?=some u∧P.underlying u=some (.int k))∧(∃ k,x=.int k (n:Int))∧n≤68719476736∧cs=(List.range n).flatMap fun _=>z.cells.toList
 else (∃ u d,ats[1]?=some u∧P.underlying u=some d∧∀ k,d≠.int k)∧(∀ w',(Builtin.lenOf x).run P w'=.ok n w')∧∀ w':World,w'.heap=w.heap→(Builtin.firstCells size n x).run P w'=.ok cs.toArray w'
theorem zbb (z:Array Value) (n:Nat):(Builtin.zeroCells z n)=((List.range n).flatMap fun _=>z.toList).toArray:=by
 apply Array.ext'
 rw [←zjU]
 rfl
theorem zuy (newLen:Nat):∀ (r c:Nat),Builtin.growBy newLen r c≤max c (newLen+(newLen+768) / 4)
 | 0,c=>by simp [Builtin.growBy];omega
 | r+1,c=>by
  rw [Builtin.growBy]
  split
  ·omega
  ·have:=zuy newLen r (c+(c+768) / 4)
   omega
theorem zF6 {need cap:Nat} (h:cap<need) (h2:need≤68719476736):Builtin.nextslicecap need cap≤137438953472:=by
 unfold Builtin.nextslicecap
 split
 ·omega
 ·split
  ·omega
  ·have:=zuy need 4 cap
   omega
section
variable {ats:Array TypeId} {t el:TypeId} {i:TypeInfo} {z:Value} {w:World} {zeros:Bool} {x:Value} {n:Nat} {cs:List Value} {cargs:Array Value} {base:Option Addr} {sLen sCap:Nat}
variable {ty:TypeId}
theorem zbi {b off:Nat} (h0:ats[0]?=some t) (hu:P.underlying t=some (.slice el)) (hi:P.info? el=some i) (hz:∀ w,(zeroValue el).run P w=.ok z w) (hb:i.bytes≤1024)
  (c0:cargs[0]?=some (.slice (some ⟨b,off,none⟩) sLen sCap)) (c1:cargs[1]?=some x) (hs:zBV P ats i.size z w zeros x n cs) (hcl:cs.length=n*i.size) (_:z.cells.size=i.size) (hfit:sLen+n≤sCap) (ht:w.there b (off+sLen*i.size) cs.length) (h1:∀ y∈cs,y.oneCell'=true) :
  (Builtin.append_ ats ty cargs).run P w=.ok (.slice (some ⟨b,off,none⟩) (sLen+n) sCap) (w.setCells b (off+sLen*i.size) cs):=by
 have hst:=zc9 (P:=P) ht h1
 cases zeros with
 | false =>
  obtain ⟨⟨u,d,g1,g2,g3⟩,g4,g5⟩:=hs
  simp only [Builtin.append_,h0,c0,c1,Sem.run_bind,zy hu,Result.andThen_ok,yw hi,g1,zy g2,Sem.run_pure,Bool.false_eq_true,if_false,g4,hfit,if_true,Bool.not_false,g5 w rfl,zaC,hst]
 | true =>
  obtain ⟨⟨u,k,g1,g2⟩,⟨k',g3⟩,g4,g5⟩:=hs
  subst g3
  have wn:IntKind.i64.wrap (n:Int)=(n:Int):=zax (by show n<9223372036854775808;omega)
  have b1:¬((n:Int)<0):=by omega
  have b2:¬((n:Int)*(i.bytes:Int) > 2 ^ 48):=by
   have:n*i.bytes≤68719476736*1024:=Nat.mul_le_mul g4 hb
   have h2:((n*i.bytes:Nat):Int)≤((68719476736*1024:Nat):Int):=Int.ofNat_le.2 this
   rw [Int.natCast_mul] at h2
   omega
  simp only [Builtin.append_,h0,c0,c1,Sem.run_bind,zy hu,Result.andThen_ok,yw hi,g1,zy g2,Sem.run_pure,if_true,asInt,asIntOf,wn,b1,if_false,zbw hi,b2,Int.toNat_natCast,hfit,Bool.not_true,Bool.false_eq_true]
  by_cases h:n*i.size=0
  ·have:cs=[]:=kaw.1 (by rw [hcl];exact h)
   subst this
   simp only [h,if_true,Sem.run_pure,Result.andThen_ok,zaC]
   have:=hst
   simp only [this,Result.andThen_ok]
  ·simp only [h,if_false,Sem.run_bind,hz,Result.andThen_ok,Sem.run_pure,zbb,←g5,zaC,hst]
theorem zBL (h0:ats[0]?=some t) (hu:P.underlying t=some (.slice el)) (hi:P.info? el=some i) (_:i.bytes≤1024)
  (c0:cargs[0]?=some (.slice base sLen sCap)) (c1:cargs[1]?=some x) (hs:zBV P ats i.size z w zeros x 0 cs) (hcl:cs.length=0*i.size) (hfit:sLen≤sCap) :
  (Builtin.append_ ats ty cargs).run P w=.ok (.slice base sLen sCap) w:=by
 have hc0:cs=[]:=kaw.1 (by rw [hcl];simp)
 subst hc0
 have hst:∀ a,(storeCells a []).run P w=.ok () w:=fun a=>rfl
 cases zeros with
 | false =>
  obtain ⟨⟨u,d,g1,g2,g3⟩,g4,g5⟩:=hs
  cases base<;>simp only [Builtin.append_,h0,c0,c1,Sem.run_bind,zy hu,Result.andThen_ok,yw hi,g1,zy g2,Sem.run_pure,Bool.false_eq_true,if_false,g4,Nat.add_zero,hfit,if_true,Bool.not_false,g5 w rfl,hst]
 | true =>
  obtain ⟨⟨u,k,g1,g2⟩,⟨k',g3⟩,g4,g5⟩:=hs
  subst g3
  have wn:IntKind.i64.wrap ((0:Nat):Int)=((0:Nat):Int):=zax (by show 0<9223372036854775808;omega)
  have b1:¬(((0:Nat):Int)<0):=by omega
  have b2:¬(((0:Nat):Int)*(i.bytes:Int) > 2 ^ 48):=by
   have:((0:Nat):Int)*(i.bytes:Int)=0:=by simp
   rw [this];omega
  cases base<;>simp only [Builtin.append_,h0,c0,c1,Sem.run_bind,zy hu,Result.andThen_ok,yw hi,g1,zy g2,Sem.run_pure,if_true,asInt,asIntOf,wn,b1,if_false,zbw hi,b2,Int.toNat_natCast,Nat.add_zero,hfit,Bool.not_true,Bool.false_eq_true,Nat.zero_mul,hst]
theorem wi (h0:ats[0]?=some t) (hu:P.underlying t=some (.slice el)) (hi:P.info? el=some i) (hz:∀ w,(zeroValue el).run P w=.ok z w) (hb:i.bytes≤1024)
  (c0:cargs[0]?=some (.slice base sLen sCap)) (c1:cargs[1]?=some x) (hs:zBV P ats i.size z w zeros x n cs) (hcl:cs.length=n*i.size) (hzs:z.cells.size=i.size) (hbig:sCap<sLen+n) (hlim:sLen+n≤68719476736)
  {old:List Value} (hold:∀ w':World,w'.heap=w.heap→(Builtin.firstCells i.size sLen (.slice base sLen sCap)).run P w'=.ok old.toArray w') :
  ∃ newCap,sLen+n≤newCap∧∃ rest:List Value,rest.length=(newCap - (sLen+n))*i.size∧(Builtin.append_ ats ty cargs).run P w=.ok (.slice (some ⟨w.heap.size,0,none⟩) (sLen+n) newCap) (({ w with drawn:=w.drawn+1 }:World).alloc (.cells (old++cs++rest).toArray el)):=by
 have hnc:=zF6 hbig hlim
 have hnf:¬(sLen+n≤sCap):=by omega
 have m1:¬(((sLen+n:Nat):Int) > IntKind.i64.max):=by
  have e:IntKind.i64.max=9223372036854775807:=rfl
  rw [e];omega
 have m2:¬(Builtin.nextslicecap (sLen+n) sCap*i.bytes > 2 ^ 48):=by
  have:Builtin.nextslicecap (sLen+n) sCap*i.bytes≤137438953472*1024:=Nat.mul_le_mul hnc hb
  omega
 have hrest:∀ m,(Builtin.zeroCells z.cells m).toList.length=m*i.size:=by
  intro m;simp [Builtin.zeroCells,hzs]
 let q:Question:=.appendCap (sLen+n) sCap el
 have hcut:∀ t,q.cut t=sLen+n+t % (2 ^ 63 - (sLen+n)):=fun t=>rfl
 have hch:(choose (.appendCap (sLen+n) sCap el)).run P w=.ok (q.cut (w.tape w.drawn q)) { w with drawn:=w.drawn+1 }:=by
  simp [choose,Sem.run,Question.forced,q]
 generalize hN:q.cut (w.tape w.drawn q)=N at hch
 have hN1:sLen+n≤N:=by rw [←hN,hcut];omega
 refine ⟨N,hN1,(Builtin.zeroCells z.cells (N - (sLen+n))).toList,hrest _,?_⟩
 have hcat:(old.toArray++cs.toArray++Builtin.zeroCells z.cells (N - (sLen+n)))=(old++cs++(Builtin.zeroCells z.cells (N - (sLen+n))).toList).toArray:=by
  apply Array.ext';simp
 cases zeros with
 | false =>
  obtain ⟨⟨u,d,g1,g2,g3⟩,g4,g5⟩:=hs
  simp only [Builtin.append_,h0,c0,c1,Sem.run_bind,zy hu,Result.andThen_ok,yw hi,g1,zy g2,Sem.run_pure,Bool.false_eq_true,if_false,g4,hnf,zbw hi,m1,false_and,m2,hch,run_askRoom,
   hold { w with drawn:=w.drawn+1 } rfl,g5 { w with drawn:=w.drawn+1 } rfl,Bool.not_false,if_true,hz,hcat,zab]
 | true =>
  obtain ⟨⟨u,k,g1,g2⟩,⟨k',g3⟩,g4,g5⟩:=hs
  subst g3
  have wn:IntKind.i64.wrap (n:Int)=(n:Int):=zax (by show n<9223372036854775808;omega)
  have b1:¬((n:Int)<0):=by omega
  have b2:¬((n:Int)*(i.bytes:Int) > 2 ^ 48):=by
   have:n*i.bytes≤68719476736*1024:=Nat.mul_le_mul g4 hb
   have h2:((n*i.bytes:Nat):Int)≤((68719476736*1024:Nat):Int):=Int.ofNat_le.2 this
   rw [Int.natCast_mul] at h2
   omega
  have happ:∀ w:World,((if n*i.size=0 then pure #[] else do pure (Builtin.zeroCells (←zeroValue el).cells n):Sem (Array Value))).run P w=.ok cs.toArray w:=by
   intro w
   by_cases h:n*i.size=0
   ·have:cs=[]:=kaw.1 (by rw [hcl];exact h)
    subst this
    simp [h]
   ·simp [h,hz,zbb,←g5]
  simp only [Builtin.append_,h0,c0,c1,Sem.run_bind,zy hu,Result.andThen_ok,yw hi,g1,zy g2,Sem.run_pure,if_true,asInt,asIntOf,wn,b1,if_false,zbw hi,b2,Int.toNat_natCast,hnf,m1,false_and,m2,hch,run_askRoom,
   hold { w with drawn:=w.drawn+1 } rfl,Bool.not_true,Bool.false_eq_true,happ,hz,hcat,zab]
end
variable {P:Program} {n0:Nat} {w0:World}
variable {s:S} {ν:Val} {w':World}
theorem St.heap {w:World} (h:St P n0 w0 ν s w) (hh:w'.heap=w.heap) (ho:w'.os=w.os) (ht:w'.tape=w.tape) (hu:w'.output=w.output):St P n0 w0 ν s w' :=
 ⟨h.below.trans ⟨ho,ht,hu,by rw [hh];exact kab _,fun k _=>by rw [hh]⟩,h.n0le,fun a=>(h.rows a).frame fun v b δ _ _=>by rw [hh],h.fresh,h.sep,h.own⟩
theorem zwL {w:World} (h:w'.heap=w.heap) (a:Addr):w'.cell? a=w.cell? a:=by simp [World.cell?,h]
theorem zIE (s:ByteArray):VRs ν ((qm s).map fun b=>V.nat .u8 b) ((qm s).map fun b=>Value.int .u8 (Int.ofNat b))∧∀ y∈(qm s).map (fun b=>Value.int .u8 (Int.ofNat b)),y.oneCell'=true:=by
 constructor
 ·refine VRs.of_get (by simp) fun i x hi=>?_
  rw [kal] at hi
  cases h:(qm s)[i]? with
  | none=>rw [h] at hi;cases hi
  | some b=>rw [h] at hi;simp at hi;subst hi;exact ⟨.int .u8 (Int.ofNat b),by simp [h],rfl⟩
 ·intro y hy
  rw [kav] at hy
  obtain ⟨b,_,rfl⟩:=hy
  rfl
theorem zDP {β:Type} (l:List Nat) (c:List V→β):zBA l c=c (l.map fun b=>V.nat .u8 b):=by
 induction l generalizing c with
 | nil=>rfl
 | cons x l ih=>exact ih _
variable {sz:Nat}
theorem zeM {y:V} {c:Nat→List V→A} (hnb:¬(qy sz y s c).isBad):∃ n new,c n new=qy sz y s c ∧
  ∀ (ν:Val) (w:World) (y':Value),zcm P ν s w→VR ν y y'→∃ cs:List Value,VRs ν new cs∧(∀ v∈cs,v.oneCell'=true)∧cs.length=n*sz∧(∀ w',(Builtin.lenOf y').run P w'=.ok n w') ∧
   ∀ m,m≤n→∀ w':World,w'.heap=w.heap→(Builtin.firstCells sz m y').run P w'=.ok (cs.take (m*sz)).toArray w':=by
 have mem:∀ (a:K) (v o len:Nat),¬(zM s a v o (Nat.mul len sz) (fun l=>c len l)).isBad→(∀ (ν:Val) (y':Value),VR ν y y'→∃ b δ cap,ν.blk a v=some (b,δ)∧y'=.slice (some ⟨b,δ+o,none⟩) len cap) →
   ∃ n new,c n new=zM s a v o (Nat.mul len sz) (fun l=>c len l)∧∀ (ν:Val) (w:World) (y':Value),zcm P ν s w→VR ν y y'→∃ cs:List Value,VRs ν new cs∧(∀ v∈cs,v.oneCell'=true)∧cs.length=n*sz∧(∀ w',(Builtin.lenOf y').run P w'=.ok n w') ∧
   ∀ m,m≤n→∀ w':World,w'.heap=w.heap→(Builtin.firstCells sz m y').run P w'=.ok (cs.take (m*sz)).toArray w':=by
  intro a v o len hnb hy
  obtain ⟨l,h1,h2⟩:=ww (P:=P) hnb
  refine ⟨len,l,h1,fun ν w y' hw hv=>?_⟩
  obtain ⟨b,δ,cap,h3,h4⟩:=hy ν y' hv
  obtain ⟨cs,h5,h6,h7,h8⟩:=h2 hw b δ h3
  subst h4
  have h5:cs.length=len*sz:=h5
  refine ⟨cs,h7,h8,h5,fun w'=>rfl,fun m hm w' hw'=>?_⟩
  have hmul:m*sz≤len*sz:=kaL _ hm
  have:=run_loadCells_list (P:=P) (w:=w') ⟨b,δ+o,none⟩ (cs.take (m*sz)) (fun j v hv=>by
   rw [zaC,zwL hw']
   rw [List.getElem?_take] at hv
   split at hv
   ·exact h6 j v hv
   ·cases hv)
  rw [List.length_take,h5,Nat.min_eq_left hmul] at this
  exact this
 cases y with
 | nil t =>
  unfold qy at hnb ⊢
  simp only at hnb ⊢
  cases ht:Nat.beq t 1 with
  | false=>rw [ht] at hnb;exact absurd trivial hnb
  | true =>
   have:=kaa ht
   subst this
   refine ⟨0,[],by simp only,fun ν w y' hw hv=>⟨[],rfl,by simp,by simp,fun w'=>?_,fun m hm w' _=>?_⟩⟩
   ·simp only [VR] at hv;subst hv;rfl
   ·simp only [VR] at hv;subst hv;simp [Builtin.firstCells]
 | ref t a =>
  unfold qy at hnb ⊢
  simp only at hnb ⊢
  cases ht:Nat.beq t 1 with
  | false=>rw [ht] at hnb;exact absurd trivial hnb
  | true =>
   have:=kaa ht
   subst this
   refine ⟨0,[],by simp only,fun ν w y' hw hv=>⟨[],rfl,by simp,by simp,fun w'=>?_,fun m hm w' _=>?_⟩⟩
   ·obtain ⟨_,_,e⟩:=VR.ref1 hv;subst e;rfl
   ·obtain ⟨_,_,e⟩:=VR.ref1 hv;subst e
    have:m=0:=by omega
    subst this
    simp [Builtin.firstCells,loadCells,loadCellsFrom]
 | sl a v o len cap=>exact mem a v o len hnb (fun ν y' h=>by obtain ⟨b,δ,h1,h2,_⟩:=h;exact ⟨b,δ,cap,h1,h2⟩)
 | so a v o len e=>exact mem a v o len hnb (fun ν y' h=>by obtain ⟨b,δ,cap,h1,h2,_⟩:=h;exact ⟨b,δ,cap,h1,h2⟩)
 | str l =>
  unfold qy at hnb ⊢
  simp only at hnb ⊢
  cases hs:Nat.beq sz 1 with
  | false=>rw [hs] at hnb;exact absurd trivial hnb
  | true =>
   have:=kaa hs
   subst this
   refine ⟨l.length,l.map fun b=>V.nat .u8 b,by simp only [zDP,jn],fun ν w y' hw hv=>?_⟩
   obtain ⟨t,e1,e2⟩:=hv
   subst e1
   obtain ⟨g1,g2⟩:=zIE (ν:=ν) t
   rw [e2] at g1 g2
   refine ⟨_,g1,g2,by simp,fun w'=>?_,fun m hm w' _=>?_⟩
   ·have:l.length=t.size:=by rw [←e2,jX]
    rw [this];rfl
   ·simp only [Builtin.firstCells,Sem.run_pure]
    congr 1
    apply Array.ext'
    have h3:=zel t 0 m
    rw [e2] at h3
    unfold qm at h3
    simp only [List.drop_zero,Nat.sub_zero] at h3
    simp only [Array.toList_map,kaK,←List.map_take,←h3,List.map_map]
    rfl
 | _=>exact absurd trivial hnb
variable {l:List V}
theorem zep {w w1:World} (hst:St P n0 w0 ν s w) (hw1:w1.heap=w.heap) (ho:w1.os=w.os) (ht:w1.tape=w.tape) (hu:w1.output=w.output) {el need newCap:Nat} {i:TypeInfo} (hi:P.info? el=some i) {L rest:List Value} (hL:VRs ν l L) (hone:∀ y∈L,y.oneCell'=true)
  (hlen:l.length=need*i.size) (hcap:need≤newCap) (hrest:rest.length=(newCap - need)*i.size) :
  ∃ ν',Out P n0 w0 ν s ν' ⟨Tr.set B.none (.row l l.length el true 0 0 0) s.nx s.h,s.nx.succ⟩ (w1.alloc (.cells (L++rest).toArray el))∧VR ν' (.so s.nx l.length 0 need 0) (.slice (some ⟨w.heap.size,0,none⟩) need newCap):=by
 have hst1:=hst.heap hw1 ho ht hu
 obtain ⟨hn,_⟩:=hst.fresh s.nx (kab _)
 have hst2:=zhl hst1 _ (BR.newRow (P:=P) (w:=w1) hn l el true)
 have hsize:n0≤w1.heap.size:=kar hst1.n0le hst1.below.size
 have hcell:P.cellsOf el=i.size:=by simp [Program.cellsOf,hi]
 have hLl:=hL.length
 have hmul:need*i.size+(newCap - need)*i.size=newCap*i.size:=by rw [←Nat.add_mul];congr 1;omega
 have:=zC8 hst2 s.nx hn (by show _<s.nx.succ.toNat;rw [K.toNat_succ];omega) l el true newCap (by simp only [get_set,if_true]) (L++rest).toArray L hL
  (fun j y hy=>by
   simp only [List.getElem?_toArray]
   rw [kam (by have:=(kad.1 hy).1;exact this)]
   exact hy) hone (fun _=>by rw [hcell];simp only [List.size_toArray,kah];have:=kaL i.size hcap;omega) (zcG w1 _) (fun k hk=>Below.heap_alloc w1 _ k hk) (hst2.below.alloc hsize _) (zaW _ _)
 simp only [if_true] at this
 refine ⟨_,⟨Val.le_add hn,this,by show _≤s.nx.succ.toNat;rw [K.toNat_succ];omega,fun a ha hlt=>?_⟩,?_⟩
 ·have hne:a≠s.nx:=by intro e;subst e;omega
  exact ⟨fun v=>by rw [Val.add_other hne];exact ha v,.inl (by simp only [get_set,if_neg hne])⟩
 ·refine ⟨w.heap.size,0,newCap,?_,rfl,hcap,?_,?_⟩
  ·rw [←hw1];exact Val.add_self
  ·simp [Val.add]
  ·simp
noncomputable def Val.addS (ν:Val) (a:K) (v b δ cap sz:Nat):Val :=
 { blk:=fun a' v'=>if a'=a∧v'=v then some (b,δ) else ν.blk a' v',cap:=fun a' v'=>if a'=a∧v'=v then cap else ν.cap a' v',sz:=fun a'=>if a'=a then sz else ν.sz a' }
variable {a:K} {b cap v δ:Nat}
theorem Val.le_addS (h:ν.blk a v=none) (hs:∀ v p,ν.blk a v=some p→ν.sz a=sz):ν.le (ν.addS a v b δ cap sz):=by
 intro a' v' p hp
 have hne:¬(a'=a∧v'=v):=by rintro ⟨rfl,rfl⟩;rw [h] at hp;cases hp
 refine ⟨by simp [Val.addS,hne,hp],by simp [Val.addS,hne],?_⟩
 simp only [Val.addS]
 split
 ·rename_i e;subst e;exact (hs _ _ hp).symm
 ·rfl
theorem Val.addS_self:(ν.addS a v b δ cap sz).blk a v=some (b,δ):=by simp [Val.addS]
theorem Val.addS_ne {a':K} {v':Nat} (h:¬(a'=a∧v'=v)):(ν.addS a v b δ cap sz).blk a' v'=ν.blk a' v':=by simp [Val.addS,h]
variable {ln:List V} {old:List Value} {len m mn δ2:Nat}
theorem zK0 {w:World} (hst:St P n0 w0 ν s w) {el:Nat} (hb:ν.blk a v=some (b,δ)) (hB:Tr.get B.none a s.h=.row l m el true mn 0 0)
  {i:TypeInfo} (hi:P.info? el=some i) {n:Nat} {lo:List V} {cs:List Value} (hlo:VRs ν lo old) (hln:VRs ν ln cs) (h1:∀ y∈old,y.oneCell'=true) (h2:∀ y∈cs,y.oneCell'=true)
  (hol:old.length=len*i.size) (hcl:cs.length=n*i.size) (hra:w.rangeAt b δ2 old) (hfit:len+n≤cap) (hroom:∀ c fz,w.heap[b]?=some (.cells c el fz)→δ2+cap*i.size≤c.size) :
  w.there b (δ2+len*i.size) cs.length∧∃ ν',Out P n0 w0 ν s ν' ⟨Tr.set B.none (.row (lo++ln) (lo++ln).length el true 0 0 0) s.nx (Tr.set B.none .none a s.h),s.nx.succ⟩ (w.setCells b (δ2+len*i.size) cs) ∧
   VR ν' (.so s.nx (lo++ln).length 0 (len+n) 0) (.slice (some ⟨b,δ2,none⟩) (len+n) cap):=by
 have hlive:(Tr.get B.none a s.h).live:=by rw [hB];trivial
 have hrow:=hst.rows a
 rw [hB] at hrow
 obtain ⟨c,fz,hc,hsz,hfro,hcap,_⟩:=hrow.at_ v b δ hb
 have hroom2:=hroom c fz hc
 have hn0:n0≤b:=by
  rcases hst.own a v b δ hb hlive with h | h
  ·exact h
  ·rw [hB] at h;exact absurd h.1 (by simp)
 have hcell:P.cellsOf el=i.size:=by simp [Program.cellsOf,hi]
 have hmul:len*i.size+n*i.size≤cap*i.size:=by rw [←Nat.add_mul];exact kaL _ hfit
 have hfro:FzR fz δ 0 0:=by
  rcases hfro with ⟨h,_⟩ | h
  ·cases h
  ·exact h
 have hnofz:∀ j,j<c.size→w.frozen? ⟨b,j,none⟩=false:=by
  intro j hj
  cases hq:w.frozen? ⟨b,j,none⟩ with
  | false=>rfl
  | true=>have:=hfro.old hc j hq;omega
 have hthere:w.there b (δ2+len*i.size) cs.length:=by
  intro j hj
  have hlt:δ2+len*i.size+j<c.size:=by omega
  exact ⟨by rw [jK hc];simp [hlt],hnofz _ hlt⟩
 refine ⟨hthere,?_⟩
 obtain ⟨c',hc',hsz',hget'⟩:=wQ b cs (δ2+len*i.size) w c el fz hc
 have hfr':∀ x,(w.setCells b (δ2+len*i.size) cs).frozen? x=w.frozen? x:=fun x=>World.frozen?_setCells b cs _ w x
 have hloL:=hlo.length
 have hlnL:=hln.length
 obtain ⟨hn,hnB⟩:=hst.fresh s.nx (kab _)
 have hane:a≠s.nx:=by intro e;subst e;rw [hn] at hb;cases hb
 have halt:a.toNat<s.nx.toNat:=by
  rcases kaq a.toNat s.nx.toNat with h | h
  ·exact h
  ·have:=(hst.fresh a h).1 v;rw [this] at hb;cases hb
 have hle:ν.le (ν.addS s.nx (lo++ln).length b δ2 cap i.size):=Val.le_addS (hn _) (fun v p h=>by rw [hn] at h;cases h)
 have hself:(ν.addS s.nx (lo++ln).length b δ2 cap i.size).blk s.nx (lo++ln).length=some (b,δ2):=Val.addS_self
 have hother:∀ a',a'≠s.nx→∀ v',(ν.addS s.nx (lo++ln).length b δ2 cap i.size).blk a' v'=ν.blk a' v':=fun a' h v'=>Val.addS_ne (fun e=>h e.1)
 have honly:∀ v' p,(ν.addS s.nx (lo++ln).length b δ2 cap i.size).blk s.nx v'=some p→v'=(lo++ln).length∧p=(b,δ2):=by
  intro v' p hp
  by_cases e:v'=(lo++ln).length
  ·subst e;rw [hself] at hp;exact ⟨rfl,by simpa using hp.symm⟩
  ·rw [Val.addS_ne (fun h=>e h.2),hn] at hp;cases hp
 generalize hν:ν.addS s.nx (lo++ln).length b δ2 cap i.size=ν' at *
 have hgetS:∀ a',Tr.get B.none a' (Tr.set B.none (.row (lo++ln) (lo++ln).length el true 0 0 0) s.nx (Tr.set B.none .none a s.h))=if a'=s.nx then .row (lo++ln) (lo++ln).length el true 0 0 0 else if a'=a then .none else Tr.get B.none a' s.h:=by
  intro a';rw [get_set,get_set]
 have hlive2:∀ a',a'≠s.nx→(Tr.get B.none a' (Tr.set B.none (.row (lo++ln) (lo++ln).length el true 0 0 0) s.nx (Tr.set B.none .none a s.h))).live→a'≠a∧(Tr.get B.none a' s.h).live:=by
  intro a' h hl
  rw [hgetS,if_neg h] at hl
  by_cases e:a'=a
  ·rw [if_pos e] at hl;exact hl.elim
  ·rw [if_neg e] at hl;exact ⟨e,hl⟩
 refine ⟨ν',⟨hle,⟨Below.setCells hn0 cs _ w hst.below,hst.n0le,fun a'=>?_,fun a' ha'=>?_,fun a1 v1 b1 d1 a2 v2 d2 e1 e2 l1 l2=>?_,fun a' v' b' δ' hb' hl'=>?_⟩,by show _≤s.nx.succ.toNat;rw [K.toNat_succ];omega,fun a' ha' hlt=>?_⟩,?_⟩
 ·simp only [hgetS]
  by_cases e:a'=s.nx
  ·subst e
   rw [if_pos rfl]
   refine ⟨rfl,fun g=>(by cases g),fun _ v' p hp=>Nat.le_of_eq (honly v' p hp).1,fun _=>Nat.zero_le _,fun v1 v2 b' d1 d2 e1 e2=>?_,fun v' b' δ' hb'=>?_⟩
   ·have q1:=(honly _ _ e1).2
    have q2:=(honly _ _ e2).2
    simp only [Prod.mk.injEq] at q1 q2
    rw [q1.2,q2.2]
   ·obtain ⟨e1,e2⟩:=honly v' _ hb'
    simp only [Prod.mk.injEq] at e2
    obtain ⟨e3,e4⟩:=e2
    subst e1
    rw [e3,e4]
    have esz:ν'.sz s.nx=i.size:=by rw [←hν];simp [Val.addS]
    have ecap:ν'.cap s.nx (lo++ln).length=cap:=by rw [←hν];simp [Val.addS]
    refine ⟨c',fz,hc',by rw [esz,hcell],.inr (.inl (by unfold FzR at hfro;omega)),fun _=>?_,fun _ j x hj _=>?_⟩
    ·rw [esz,ecap,hsz']
     refine ⟨hroom2,?_⟩
     rw [kah];omega
    ·have hjl:j<(lo++ln).length:=(kad.1 hj).1
     rw [kah] at hjl
     rw [hget' _ (by omega)]
     by_cases hjo:j<lo.length
     ·rw [kam hjo] at hj
      obtain ⟨y,hy,hr⟩:=hlo.get j x hj
      rw [if_neg (by omega)]
      have:=hra j y hy
      rw [jK hc] at this
      exact ⟨y,this,fun _=>h1 y (kae hy),hr.mono' hle⟩
     ·rw [kax (by omega)] at hj
      obtain ⟨y,hy,hr⟩:=hln.get _ x hj
      rw [if_pos (by omega),show δ2+j - (δ2+len*i.size)=j - lo.length by omega]
      exact ⟨y,hy,fun _=>h2 y (kae hy),hr.mono' hle⟩
  ·rw [if_neg e]
   by_cases e2:a'=a
   ·rw [if_pos e2];trivial
   ·rw [if_neg e2]
    refine BR.frame (BR.mono hle (hother a' e) (hst.rows a')) fun v' b' δ' hb' hl'=>jS _ _ _ _ _ fun eb=>e2 ?_
    subst eb
    rw [hother a' e] at hb'
    exact hst.sep a' v' b' δ' a v δ hb' hb hl' hlive
 ·have ha2:s.nx.succ.toNat≤a'.toNat:=ha'
  rw [K.toNat_succ] at ha2
  have e:a'≠s.nx:=by intro e;subst e;omega
  have e2:a'≠a:=by intro e;subst e;omega
  obtain ⟨q1,q2⟩:=hst.fresh a' (by omega)
  exact ⟨fun v'=>by rw [hother a' e];exact q1 v',by simp only [hgetS];rw [if_neg e,if_neg e2];exact q2⟩
 ·by_cases n1:a1=s.nx
  ·by_cases n2:a2=s.nx
   ·rw [n1,n2]
   ·exfalso
    subst n1
    have q1:=(honly _ _ e1).2
    simp only [Prod.mk.injEq] at q1
    rw [hother a2 n2] at e2
    obtain ⟨k1,k2⟩:=hlive2 a2 n2 l2
    rw [q1.1] at e2
    exact k1 (hst.sep _ _ _ _ _ _ _ e2 hb k2 hlive)
  ·by_cases n2:a2=s.nx
   ·exfalso
    subst n2
    have q1:=(honly _ _ e2).2
    simp only [Prod.mk.injEq] at q1
    rw [hother a1 n1] at e1
    obtain ⟨k1,k2⟩:=hlive2 a1 n1 l1
    rw [q1.1] at e1
    exact k1 (hst.sep _ _ _ _ _ _ _ e1 hb k2 hlive)
   ·rw [hother a1 n1] at e1
    rw [hother a2 n2] at e2
    exact hst.sep _ _ _ _ _ _ _ e1 e2 (hlive2 a1 n1 l1).2 (hlive2 a2 n2 l2).2
 ·by_cases e:a'=s.nx
  ·subst e
   have q1:=(honly _ _ hb').2
   simp only [Prod.mk.injEq] at q1
   left;omega
  ·obtain ⟨k1,k2⟩:=hlive2 a' e hl'
   rw [hother a' e] at hb'
   simp only [hgetS,if_neg e,if_neg k1]
   exact hst.own a' v' b' δ' hb' k2
 ·have e:a'≠s.nx:=by intro e;subst e;omega
  refine ⟨fun v'=>by rw [hother a' e];exact ha' v',?_⟩
  simp only [hgetS,if_neg e]
  by_cases e2:a'=a
  ·rw [if_pos e2];exact .inr rfl
  ·rw [if_neg e2];exact .inl rfl
 ·refine ⟨b,δ2,cap,hself,by rw [Nat.add_zero],hfit,?_,?_⟩
  ·rw [←hν];simp [Val.addS]
  ·simp
theorem zHP {w w2:World} (hst:St P n0 w0 ν s w) {el:Nat} (hb:ν.blk a m=some (b,δ)) (hB:Tr.get B.none a s.h=.row l m el true mn 0 0)
  {i:TypeInfo} (hi:P.info? el=some i) (hpos:0<ln.length) {b2 cap2:Nat} {c2:Array Value} {fz2:Nat × Nat} (hbel:Below n0 w0 w2) (hn2:n0≤b2)
  (hoth:∀ k,k<w.heap.size→k≠b2→w2.heap[k]?=w.heap[k]?) (hc2:w2.heap[b2]?=some (.cells c2 el fz2)) (hfz:fz2.1=fz2.2)
  (hcap:δ2+cap2*i.size≤c2.size) (hm:m+ln.length≤cap2*i.size) (hcell:∀ j x,(l++ln)[j]?=some x→∃ y,c2[δ2+j]?=some y∧(x≠.bad→y.oneCell'=true)∧VR ν x y)
  (hwh:(b2=b∧δ2=δ∧∃ c fz,w.heap[b]?=some (.cells c el fz)∧c2.size=c.size∧∀ j,j<δ+m→c2[j]?=c[j]?)∨w.heap.size≤b2) :
  ∃ ν',Out P n0 w0 ν s ν' ⟨Tr.set B.none (.row (l++ln) (m+ln.length) el true mn 0 0) a s.h,s.nx⟩ w2∧ν'.blk a (m+ln.length)=some (b2,δ2)∧ν'.cap a (m+ln.length)=cap2∧ν'.sz a=i.size:=by
 have hlive:(Tr.get B.none a s.h).live:=by rw [hB];trivial
 have hrow:=hst.rows a
 rw [hB] at hrow
 have hlen:=hrow.len
 have hcs:P.cellsOf el=i.size:=by simp [Program.cellsOf,hi]
 have hsz:∀ v p,ν.blk a v=some p→ν.sz a=i.size:=by
  intro v p hp
  obtain ⟨c,fz,_,h,_⟩:=hrow.at_ v p.1 p.2 hp
  rw [h,hcs]
 have hnone:ν.blk a (m+ln.length)=none:=by
  cases h:ν.blk a (m+ln.length) with
  | none=>rfl
  | some p=>have:=hrow.vn rfl _ _ h;omega
 have hle:ν.le (ν.addS a (m+ln.length) b2 δ2 cap2 i.size):=Val.le_addS hnone hsz
 have hself:(ν.addS a (m+ln.length) b2 δ2 cap2 i.size).blk a (m+ln.length)=some (b2,δ2):=Val.addS_self
 have hne:∀ a' v',¬(a'=a∧v'=m+ln.length)→(ν.addS a (m+ln.length) b2 δ2 cap2 i.size).blk a' v'=ν.blk a' v':=fun a' v' h=>Val.addS_ne h
 have hcapn:(ν.addS a (m+ln.length) b2 δ2 cap2 i.size).cap a (m+ln.length)=cap2:=by simp [Val.addS]
 have hcapo:∀ v',v'≠m+ln.length→(ν.addS a (m+ln.length) b2 δ2 cap2 i.size).cap a v'=ν.cap a v':=fun v' h=>by simp [Val.addS,h]
 have hszn:(ν.addS a (m+ln.length) b2 δ2 cap2 i.size).sz a=i.size:=by simp [Val.addS]
 generalize ν.addS a (m+ln.length) b2 δ2 cap2 i.size=ν' at *
 have hother:∀ a',a'≠a→∀ v',ν'.blk a' v'=ν.blk a' v':=fun a' h v'=>hne a' v' (fun e=>h e.1)
 have hgetS:∀ a',Tr.get B.none a' (Tr.set B.none (.row (l++ln) (m+ln.length) el true mn 0 0) a s.h)=if a'=a then .row (l++ln) (m+ln.length) el true mn 0 0 else Tr.get B.none a' s.h:=fun a'=>get_set _ _ _ _ _
 have there:∀ a' v' b' δ',ν.blk a' v'=some (b',δ')→(Tr.get B.none a' s.h).live→b'<w.heap.size:=fun a' v' b' δ' h hl=>(hst.rows a').there hl h
 -- another block than this one's
 have hapart:∀ a' v' b' δ',a'≠a→ν.blk a' v'=some (b',δ')→(Tr.get B.none a' s.h).live→b'≠b2:=by
  intro a' v' b' δ' hne' hb' hl e
  rcases hwh with ⟨e2,_⟩ | h
  ·rw [e,e2] at hb'
   exact hne' (hst.sep _ _ _ _ _ _ _ hb' hb hl hlive)
  ·have:=there a' v' b' δ' hb' hl;omega
 refine ⟨ν',⟨hle,⟨hbel,hst.n0le,fun a'=>?_,fun a' ha'=>?_,fun a1 v1 b1 d1 a2 v2 d2 e1 e2 l1 l2=>?_,fun a' v' b' δ' hb' hl'=>?_⟩,kab _,fun a' ha' hlt=>?_⟩,hself,hcapn,hszn⟩
 ·simp only [hgetS]
  by_cases e:a'=a
  ·subst e
   rw [if_pos rfl]
   refine ⟨by rw [kah,hlen],fun g=>(by cases g),fun _ v' p hp=>?_,fun _=>by have:=hrow.mnn rfl;omega,fun v1 v2 b' d1 d2 e1 e2=>?_,fun v' b' δ' hb'=>?_⟩
   ·by_cases ev:v'=m+ln.length
    ·omega
    ·rw [hne _ _ (fun h=>ev h.2)] at hp
     have:=hrow.vn rfl _ _ hp;omega
   ·by_cases ev1:v1=m+ln.length
    ·by_cases ev2:v2=m+ln.length
     ·rw [ev1,hself] at e1;rw [ev2,hself] at e2
      simp only [Option.some.injEq,Prod.mk.injEq] at e1 e2
      omega
     ·rw [ev1,hself] at e1;rw [hne _ _ (fun h=>ev2 h.2)] at e2
      simp only [Option.some.injEq,Prod.mk.injEq] at e1
      rcases hwh with ⟨q1,q2,_⟩ | q
      ·rw [←e1.1,q1] at e2
       rw [←e1.2,q2]
       exact hrow.same _ _ _ _ _ hb e2
      ·have:=there _ _ _ _ e2 hlive;omega
    ·by_cases ev2:v2=m+ln.length
     ·rw [ev2,hself] at e2;rw [hne _ _ (fun h=>ev1 h.2)] at e1
      simp only [Option.some.injEq,Prod.mk.injEq] at e2
      rcases hwh with ⟨q1,q2,_⟩ | q
      ·rw [←e2.1,q1] at e1
       rw [←e2.2,q2]
       exact hrow.same _ _ _ _ _ e1 hb
      ·have:=there _ _ _ _ e1 hlive;omega
     ·rw [hne _ _ (fun h=>ev1 h.2)] at e1;rw [hne _ _ (fun h=>ev2 h.2)] at e2
      exact hrow.same _ _ _ _ _ e1 e2
   ·by_cases ev:v'=m+ln.length
    ·rw [ev,hself] at hb'
     simp only [Option.some.injEq,Prod.mk.injEq] at hb'
     obtain ⟨q1,q2⟩:=hb'
     rw [←q1,←q2]
     refine ⟨c2,fz2,hc2,by rw [hszn,hcs],.inr (.inl hfz),fun _=>by rw [hszn,ev,hcapn];exact ⟨hcap,hm⟩,fun _ j x hj _=>?_⟩
     ·obtain ⟨y,h1,h2,h3⟩:=hcell j x hj
      exact ⟨y,h1,h2,h3.mono' hle⟩
    ·rw [hne _ _ (fun h=>ev h.2)] at hb'
     have hvm:=hrow.vn rfl _ _ hb'
     obtain ⟨c,fz,k1,k2,k3,k4,k5⟩:=hrow.at_ v' b' δ' hb'
     have k3:FzR fz δ' 0 0:=by
      rcases k3 with ⟨h,_⟩ | h
      ·cases h
      ·exact h
     have hl5:(true=true→mn≤v')→∀ (j:Nat) (x:V),(l++ln)[j]?=some x→(true=true→j<v')→∃ y,c[δ'+j]?=some y∧(x≠.bad→y.oneCell'=true)∧VR ν' x y:=by
      intro g j x hj hv
      have:=hv rfl
      rw [kam (by omega)] at hj
      obtain ⟨y,h1,h2,h3⟩:=k5 g j x hj hv
      exact ⟨y,h1,h2,h3.mono' hle⟩
     by_cases eb:b'=b2
     ·rcases hwh with ⟨q1,q2,cc,ff,q3,q4,q5⟩ | q
      ·subst eb
       rw [q1] at k1 hb' ⊢
       rw [q1] at hc2
       rw [q3] at k1
       simp only [Option.some.injEq,Obj.cells.injEq] at k1
       obtain ⟨rfl,_,rfl⟩:=k1
       have hδ:=hrow.same _ _ _ _ _ hb' hb
       subst hδ
       refine ⟨c2,fz2,hc2,by rw [hszn,hcs],.inr (.inl hfz),fun g=>by rw [hszn,hcapo v' ev,q4,←hsz _ _ hb];exact k4 g,fun g j x hj hv=>?_⟩
       ·obtain ⟨y,h1,h2,h3⟩:=hl5 g j x hj hv
        have:=hv rfl
        exact ⟨y,by rw [q5 _ (by omega)];exact h1,h2,h3⟩
      ·have:=there _ _ _ _ hb' hlive;omega
     ·have hlt:=there _ _ _ _ hb' hlive
      have hh:=hoth b' hlt eb
      exact ⟨c,fz,by rw [hh];exact k1,by rw [hszn,hcs],.inr k3,fun g=>by rw [hszn,hcapo v' ev,←hsz _ _ hb];exact k4 g,hl5⟩
  ·rw [if_neg e]
   exact BR.frame (BR.mono hle (hother a' e) (hst.rows a')) fun v' b' δ' hb' hl'=>by
    rw [hother a' e] at hb'
    exact hoth b' (there _ _ _ _ hb' hl') (hapart a' v' b' δ' e hb' hl')
 ·have e:a'≠a:=by intro e;subst e;have:=(hst.fresh a' ha').1 m;rw [this] at hb;cases hb
  obtain ⟨q1,q2⟩:=hst.fresh a' ha'
  exact ⟨fun v'=>by rw [hother a' e];exact q1 v',by simp only [hgetS,if_neg e];exact q2⟩
 ·have hold:∀ a' v' b' δ',a'≠a→ν'.blk a' v'=some (b',δ')→(Tr.get B.none a' (Tr.set B.none (.row (l++ln) (m+ln.length) el true mn 0 0) a s.h)).live→ν.blk a' v'=some (b',δ')∧(Tr.get B.none a' s.h).live:=by
   intro a' v' b' δ' e h hl
   rw [hother a' e] at h
   rw [hgetS,if_neg e] at hl
   exact ⟨h,hl⟩
  have clash:∀ a' v' v'' b' δ' δ'',a'≠a→ν'.blk a' v'=some (b',δ')→(Tr.get B.none a' (Tr.set B.none (.row (l++ln) (m+ln.length) el true mn 0 0) a s.h)).live→ν'.blk a v''=some (b',δ'')→False:=by
   intro a' v' v'' b' δ' δ'' e h hl h2
   obtain ⟨g1,g2⟩:=hold a' v' b' δ' e h hl
   by_cases ev:v''=m+ln.length
   ·rw [ev,hself] at h2
    simp only [Option.some.injEq,Prod.mk.injEq] at h2
    exact hapart a' v' b' δ' e g1 g2 h2.1.symm
   ·rw [hne _ _ (fun h=>ev h.2)] at h2
    exact e (hst.sep _ _ _ _ _ _ _ g1 h2 g2 hlive)
  by_cases n1:a1=a
  ·by_cases n2:a2=a
   ·rw [n1,n2]
   ·subst n1;exact (clash a2 v2 v1 b1 d2 d1 n2 e2 l2 e1).elim
  ·by_cases n2:a2=a
   ·subst n2;exact (clash a1 v1 v2 b1 d1 d2 n1 e1 l1 e2).elim
   ·obtain ⟨g1,g2⟩:=hold a1 v1 b1 d1 n1 e1 l1
    obtain ⟨g3,g4⟩:=hold a2 v2 b1 d2 n2 e2 l2
    exact hst.sep _ _ _ _ _ _ _ g1 g3 g2 g4
 ·by_cases e:a'=a
  ·subst e
   left
   by_cases ev:v'=m+ln.length
   ·rw [ev,hself] at hb'
    simp only [Option.some.injEq,Prod.mk.injEq] at hb'
    omega
   ·rw [hne _ _ (fun h=>ev h.2)] at hb'
    rcases hst.own _ _ _ _ hb' hlive with h | h
    ·exact h
    ·rw [hB] at h;exact absurd h.1 (by simp)
  ·simp only [hgetS,if_neg e] at hl' ⊢
   rw [hother a' e] at hb'
   exact hst.own a' v' b' δ' hb' hl'
 ·have e:a'≠a:=by intro e;subst e;rw [ha'] at hb;cases hb
  exact ⟨fun v'=>by rw [hother a' e];exact ha' v',.inl (by simp only [hgetS,if_neg e])⟩
theorem zrR {w:World} {off:Nat} (hra:w.rangeAt b off old) (hl:old.length=len*sz):∀ w':World,w'.heap=w.heap→(Builtin.firstCells sz len (.slice (some ⟨b,off,none⟩) len cap)).run P w'=.ok old.toArray w':=by
 intro w' hw'
 have:=run_loadCells_list (P:=P) (w:=w') ⟨b,off,none⟩ old (fun j v hv=>by rw [zaC,zwL hw'];exact hra j v hv)
 rw [hl] at this
 exact this
theorem Out.kill0 {n0:Nat} {w0 w:World} (hst:St P n0 w0 ν s w) (halt:a.toNat<s.nx.toNat):Out P n0 w0 ν s ν ⟨Tr.set B.none .none a s.h,s.nx⟩ w:=by
 refine ⟨ν.le_refl,zrg hst a halt,kab _,fun a' ha' hlt=>⟨ha',?_⟩⟩
 simp only [get_set]
 split
 ·exact .inr rfl
 ·exact .inl rfl
theorem Out.kill {n0:Nat} {w0 w:World} (hst:St P n0 w0 ν s w) {p:Nat × Nat} (hb:ν.blk a v=some p):Out P n0 w0 ν s ν ⟨Tr.set B.none .none a s.h,s.nx⟩ w:=by
 have halt:a.toNat<s.nx.toNat:=by
  rcases kaq a.toNat s.nx.toNat with h | h
  ·exact h
  ·have:=(hst.fresh a h).1 v;rw [this] at hb;cases hb
 refine ⟨ν.le_refl,zrg hst a halt,kab _,fun a' ha' hlt=>⟨ha',?_⟩⟩
 simp only [get_set]
 split
 ·exact .inr rfl
 ·exact .inl rfl
structure ApOk (P:Program) (ats:Array TypeId) (t el:TypeId) (i:TypeInfo) (z:Value):Prop where
 h0:ats[0]?=some t
 hu:P.underlying t=some (.slice el)
 hi:P.info? el=some i
 hz:∀ w,(zeroValue el).run P w=.ok z w
 hb:i.bytes≤1024
 hzs:z.cells.size=i.size
 hsz:i.size≠0
def zJA (P:Program) (ats:Array TypeId) (_ _:TypeId) (i:TypeInfo) (z:Value) (x:V) (n:Nat) (new:List V) (s:S) (v:V) (s':S):Prop :=
 ∀ n0 w0 ν w (zeros:Bool) (cargs:Array Value) (ty:TypeId) (xv yv:Value) (cs:List Value),St P n0 w0 ν s w→cargs[0]?=some xv→cargs[1]?=some yv→VR ν x xv→zBV P ats i.size z w zeros yv n cs→VRs ν new cs→(∀ y∈cs,y.oneCell'=true)→cs.length=n*i.size →
  ∃ ν' y w',Out P n0 w0 ν s ν' s' w'∧VR ν' v y∧(Builtin.append_ ats ty cargs).run P w=.ok y w'
variable {f1 f2:Nat}
theorem zNm {w:World} {el:Nat} {gr:Bool} {i:TypeInfo} (hw:zcm P ν s w) (hB:Tr.get B.none a s.h=.row l m el gr mn f1 f2) (hb:ν.blk a v=some (b,δ)) (hi:P.info? el=some i):ν.sz a=i.size:=by
 have:=hw a
 rw [hB] at this
 obtain ⟨c,fz,_,h,_⟩:=this.at_ v b δ hb
 rw [h,Program.cellsOf,hi];rfl
theorem zqA {ats:Array TypeId} {t el:TypeId} {i:TypeInfo} {z:Value} (hA:ApOk P ats t el i z) {x:V} {n:Nat} {new:List V} {k:V→S→A} (hnb:¬(jL el i.size x n new s k).isBad) :
  ∃ v s',k v s'=jL el i.size x n new s k∧zJA P ats t el i z x n new s v s':=by
 have hpos:0<i.size:=Nat.pos_of_ne_zero hA.hsz
 unfold jL at hnb ⊢
 cases hn:Nat.beq n 0 with
 | true =>
  have hn:=kaa hn
  subst hn
  have zero:(∀ (ν:Val) (y:Value),VR ν x y→∃ base len cap,y=.slice base len cap∧len≤cap)→zJA P ats t el i z x 0 new s x s:=by
   intro hx n0 w0 ν w zeros cargs ty xv yv cs hst c0 c1 hxv hsrc hv h1 hcl
   obtain ⟨base,len,cap,e,hle⟩:=hx ν xv hxv
   subst e
   exact ⟨ν,_,w,Out.refl hst,hxv,zBL hA.h0 hA.hu hA.hi hA.hb c0 c1 hsrc hcl hle⟩
  cases x with
  | nil u =>
   simp only at hnb ⊢
   cases hu:Nat.beq u 1 with
   | false=>rw [hu] at hnb;exact absurd trivial hnb
   | true =>
    have:=kaa hu
    subst this
    exact ⟨_,_,rfl,zero fun ν y h=>⟨none,0,0,h,kab _⟩⟩
  | ref u a =>
   simp only at hnb ⊢
   cases hu:Nat.beq u 1 with
   | false=>rw [hu] at hnb;exact absurd trivial hnb
   | true =>
    have:=kaa hu
    subst this
    exact ⟨_,_,rfl,zero fun ν y h=>by obtain ⟨_,cap,e⟩:=VR.ref1 h;exact ⟨_,0,cap,e,Nat.zero_le _⟩⟩
  | sl a v o len cap=>exact ⟨_,_,rfl,zero fun ν y h=>by obtain ⟨b,δ,_,e,h⟩:=h;exact ⟨_,len,cap,e,h⟩⟩
  | so a v o len e=>exact ⟨_,_,rfl,zero fun ν y h=>by obtain ⟨b,δ,cap,_,e,h,_⟩:=h;exact ⟨_,len,cap,e,h⟩⟩
  | _=>exact absurd trivial hnb
 | false =>
  have hn0:n≠0:=fun h=>by subst h;simp at hn
  simp only [hn] at hnb ⊢
  -- a jN slice whose old cells are known
  have grow:∀ (s:S) (l:List V) (need:Nat),¬(yF s el l need k).isBad→need≤68719476736∧k (.so s.nx l.length 0 need 0) ⟨Tr.set B.none (.row l l.length el true 0 0 0) s.nx s.h,s.nx.succ⟩=yF s el l need k:=by
   intro s l need hnb
   unfold yF at hnb ⊢
   cases hb:Nat.ble need 68719476736 with
   | false=>rw [hb] at hnb;exact absurd trivial hnb
   | true=>exact ⟨kaA.mp hb,(zcq (c:=fun a n s=>k (.so a n 0 need 0) s)).symm⟩
  cases x with
  | nil u =>
   simp only at hnb ⊢
   cases hu:Nat.beq u 1 with
   | false=>rw [hu] at hnb;exact absurd trivial hnb
   | true =>
    have:=kaa hu
    subst this
    simp only [hu] at hnb ⊢
    obtain ⟨h1,h2⟩:=grow _ _ _ hnb
    refine ⟨_,_,h2,fun n0 w0 ν w zeros cargs ty xv yv cs hst c0 c1 hxv hsrc hv ho hcl=>?_⟩
    simp only [VR] at hxv
    subst hxv
    obtain ⟨N,hN,rest,hr,hrun⟩:=wi (base:=none) (sLen:=0) (sCap:=0) (ty:=ty) hA.h0 hA.hu hA.hi hA.hz hA.hb c0 c1 hsrc hcl hA.hzs (by omega) (by omega) (old:=[]) (fun w' _=>by simp [Builtin.firstCells])
    simp only [kaF,List.nil_append] at hN hr hrun
    obtain ⟨ν',g1,g2⟩:=zep hst (w1:={ w with drawn:=w.drawn+1 }) rfl rfl rfl rfl hA.hi hv ho (by rw [←hv.length];exact hcl) hN hr
    exact ⟨ν',_,_,g1,g2,hrun⟩
  | ref u a =>
   simp only at hnb ⊢
   cases hu:Nat.beq u 1 with
   | false=>rw [hu] at hnb;exact absurd trivial hnb
   | true =>
    have:=kaa hu
    subst this
    simp only [hu,yy] at hnb ⊢
    cases hB:Tr.get B.none a s.h with
    | row l m el' gr mn f1 f2 =>
     rw [hB] at hnb
     simp only at hnb ⊢
     cases hc:zq gr (zq (Nat.beq el el') (zq (Nat.beq f1 0) (Nat.beq f2 0))) with
     | false=>rw [hc] at hnb;exact absurd trivial hnb
     | true =>
      obtain ⟨q1,q2⟩:=zh hc
      obtain ⟨q2,q3⟩:=zh q2
      obtain ⟨q3,q4⟩:=zh q3
      have q2:=kaa q2
      have q3:=kaa q3
      have q4:=kaa q4
      subst q1 q2 q3 q4
      simp only [hc,qp] at hnb ⊢
      obtain ⟨h1,h2⟩:=grow _ _ _ hnb
      refine ⟨_,_,h2,fun n0 w0 ν w zeros cargs ty xv yv cs hst c0 c1 hxv hsrc hv ho hcl=>?_⟩
      rcases hxv with ⟨ad,g2⟩ | ⟨v,b,δ,off,cap,g1,g2,g3,g4⟩
      ·subst g2
       obtain ⟨N,hN,rest,hr,hrun⟩:=wi (ty:=ty) hA.h0 hA.hu hA.hi hA.hz hA.hb c0 c1 hsrc hcl hA.hzs (by omega) (by omega) (old:=[]) (fun w' _=>by simp [Builtin.firstCells,loadCells,loadCellsFrom])
       simp only [kaF,List.nil_append] at hN hr hrun
       have halt:a.toNat<s.nx.toNat:=by
        rcases kaq a.toNat s.nx.toNat with h | h
        ·exact h
        ·have:=(hst.fresh a h).2;rw [this] at hB;cases hB
       have hk:=Out.kill0 hst halt
       obtain ⟨ν',p1,p2⟩:=zep hk.st (w1:={ w with drawn:=w.drawn+1 }) rfl rfl rfl rfl hA.hi hv ho (by rw [←hv.length];exact hcl) hN hr
       exact ⟨ν',_,_,hk.trans p1,p2,hrun⟩
      subst g2
      have hsz:=zNm hst.rows hB g1 hA.hi
      have hnl:=hv.length
      by_cases hfit:0+n≤cap
      ·have hroom:∀ c fz,w.heap[b]?=some (.cells c el fz)→off+cap*i.size≤c.size:=by
        intro c fz hc'
        have hr:=hst.rows a
        rw [hB] at hr
        obtain ⟨c',fz',k1,_,_,k4,_⟩:=hr.at_ v b δ g1
        rw [k1] at hc'
        simp only [Option.some.injEq,Obj.cells.injEq] at hc'
        obtain ⟨rfl,_,_⟩:=hc'
        have:=(k4 rfl).1
        rw [hsz] at this g4
        omega
       obtain ⟨p1,ν',p2,p3⟩:=zK0 hst g1 hB hA.hi (δ2:=off) (len:=0) (n:=n) (cap:=cap) (lo:=[]) (ln:=new) (old:=[]) (cs:=cs) rfl hv (by simp) ho (by simp) hcl (fun j v h=>by simp at h) hfit hroom
       have:=zbi (ty:=ty) hA.h0 hA.hu hA.hi hA.hz hA.hb c0 c1 hsrc hcl hA.hzs hfit p1 ho
       rw [kaF] at p3
       exact ⟨ν',_,_,p2,p3,by rw [kaF] at this;exact this⟩
      ·obtain ⟨N,hN,rest,hr,hrun⟩:=wi (ty:=ty) hA.h0 hA.hu hA.hi hA.hz hA.hb c0 c1 hsrc hcl hA.hzs (by omega) (by omega) (old:=[]) (fun w' _=>by simp [Builtin.firstCells,loadCells,loadCellsFrom])
       simp only [kaF,List.nil_append] at hN hr hrun
       have hk:=Out.kill hst g1
       obtain ⟨ν',p1,p2⟩:=zep hk.st (w1:={ w with drawn:=w.drawn+1 }) rfl rfl rfl rfl hA.hi hv ho (by rw [←hv.length];exact hcl) hN hr
       exact ⟨ν',_,_,hk.trans p1,p2,hrun⟩
    | _=>rw [hB] at hnb;exact absurd trivial hnb
  | sl a v o len cap =>
   simp only [zH] at hnb ⊢
   cases hfit:Nat.ble (Nat.add len n) cap with
   | true =>
    have hfit':len+n≤cap:=kaA.mp hfit
    simp only [hfit] at hnb ⊢
    obtain ⟨s',g4,g5,g6⟩:=jT (P:=P) hnb
    refine ⟨_,s',g4,fun n0 w0 ν w zeros cargs ty xv yv cs hst c0 c1 hxv hsrc hv ho hcl=>?_⟩
    obtain ⟨b,δ,p1,p2,p3⟩:=hxv
    subst p2
    obtain ⟨q5,q6,q7⟩:=g6 hst b δ p1 cs hv (by rw [←hv.length];exact hcl) ho
    have e1:δ+(o+len*i.size)=δ+o+len*i.size:=by omega
    have q5:w.there b (δ+o+len*i.size) cs.length:=by rw [hcl,←e1];exact q5
    have q6:St P n0 w0 ν s' (w.setCells b (δ+o+len*i.size) cs):=by rw [←e1];exact q6
    exact ⟨ν,_,_,Out.write q6 g5 q7,⟨b,δ,p1,rfl,hfit'⟩,zbi hA.h0 hA.hu hA.hi hA.hz hA.hb c0 c1 hsrc hcl hA.hzs hfit' q5 ho⟩
   | false =>
    have hbig:cap<len+n:=by
     rcases kaq cap (len+n) with h | h
     ·exact h
     ·have h9:Nat.ble (Nat.add len n) cap=true:=kaA.mpr h
      rw [h9] at hfit;cases hfit
    simp only [hfit,yf] at hnb ⊢
    obtain ⟨lo,h1,h2⟩:=ww (P:=P) hnb
    rw [←h1] at hnb ⊢
    obtain ⟨h3,h4⟩:=grow _ _ _ hnb
    refine ⟨_,_,h4,fun n0 w0 ν w zeros cargs ty xv yv cs hst c0 c1 hxv hsrc hv ho hcl=>?_⟩
    obtain ⟨b,δ,p1,p2,p3⟩:=hxv
    subst p2
    obtain ⟨old,r1,r2,r3,r4⟩:=h2 hst.rows b δ p1
    have r1:old.length=len*i.size:=r1
    have h3:len+n≤68719476736:=h3
    obtain ⟨N,hN,rest,hr,hrun⟩:=wi (ty:=ty) hA.h0 hA.hu hA.hi hA.hz hA.hb c0 c1 hsrc hcl hA.hzs hbig h3 (old:=old) (zrR r2 r1)
    have hvv:=r3.append hv
    obtain ⟨ν',g1,g2⟩:=zep hst (w1:={ w with drawn:=w.drawn+1 }) rfl rfl rfl rfl hA.hi hvv (fun y hy=>by rcases kak.1 hy with h | h;exact r4 y h;exact ho y h) (by rw [←hvv.length,kah,r1,hcl,←Nat.add_mul]) hN hr
    exact ⟨ν',_,_,g1,g2,hrun⟩
  | so a v o len e =>
   simp only [zH,yy] at hnb ⊢
   cases hB:Tr.get B.none a s.h with
   | row l m el' gr mn f1 f2 =>
    rw [hB] at hnb
    simp only at hnb ⊢
    cases hc:zq gr (zq (Nat.beq el el') (zq (Nat.beq f1 0) (Nat.beq f2 0))) with
    | false=>rw [hc] at hnb;exact absurd trivial hnb
    | true =>
     obtain ⟨q1,q2⟩:=zh hc
     obtain ⟨q2,q3⟩:=zh q2
     obtain ⟨q3,q4⟩:=zh q3
     have q2:=kaa q2
     have q3:=kaa q3
     have q4:=kaa q4
     subst q1 q2 q3 q4
     simp only [hc] at hnb ⊢
     -- what the slice is in the machine
     have hat:∀ (n0:Nat) (w0:World) (ν:Val) (w:World) (b δ cap:Nat),St P n0 w0 ν s w→ν.blk a v=some (b,δ)→ν.cap a v=e+cap→o=e*ν.sz a→∃ c fz,w.heap[b]?=some (.cells c el fz)∧ν.sz a=i.size∧o=e*i.size∧δ+o+cap*i.size≤c.size∧v≤o+cap*i.size∧fz.1=fz.2∧n0≤b ∧
       (mn≤v→∀ j x,l[j]?=some x→j<v→∃ y,c[δ+j]?=some y∧(x≠.bad→y.oneCell'=true)∧VR ν x y):=by
      intro n0 w0 ν w b δ cap hst hb hcap ho
      have hr:=hst.rows a
      rw [hB] at hr
      obtain ⟨c,fz,k1,k2,k3,k4,k5⟩:=hr.at_ v b δ hb
      have hsz:=zNm hst.rows hB hb hA.hi
      have k3:FzR fz δ 0 0:=by
       rcases k3 with ⟨h,_⟩ | h
       ·cases h
       ·exact h
      obtain ⟨k4,k6⟩:=k4 rfl
      rw [hsz,hcap,Nat.add_mul] at k4 k6
      rw [hsz] at ho
      refine ⟨c,fz,k1,hsz,ho,by omega,by omega,(by unfold FzR at k3;omega),?_,fun g j x hj hv=>k5 (fun _=>g) j x hj (fun _=>hv)⟩
      ·rcases hst.own a v b δ hb (by rw [hB];trivial) with h | h
       ·exact h
       ·rw [hB] at h;exact absurd h.1 (by simp)
     cases h1:zq (Nat.beq v m) (Nat.ble (Nat.add (Nat.add o (Nat.mul len i.size)) (Nat.mul n i.size)) m) with
     | true =>
      obtain ⟨r1,r2⟩:=zh h1
      have r1:=kaa r1
      have r2:o+len*i.size+n*i.size≤m:=kaA.mp r2
      subst r1
      simp only [h1] at hnb ⊢
      obtain ⟨s',g4,g5,g6⟩:=jT (P:=P) hnb
      refine ⟨_,s',g4,fun n0 w0 ν w zeros cargs ty xv yv cs hst c0 c1 hxv hsrc hv ho hcl=>?_⟩
      obtain ⟨b,δ,cap,p1,p2,p3,p4,p5⟩:=hxv
      subst p2
      obtain ⟨c,fz,t1,t2,t3,t4,t5,t60,t7,t8⟩:=hat n0 w0 ν w b δ cap hst p1 p4 p5
      have t6:=fun (j:Nat) (_:j<c.size)=>zLD t1 t60 j
      have hfit':len+n≤cap:=by
       have:(len+n)*i.size≤cap*i.size:=by rw [Nat.add_mul];omega
       exact Nat.le_of_mul_le_mul_right this hpos
      obtain ⟨q5,q6,q7⟩:=g6 hst b δ p1 cs hv (by rw [←hv.length];exact hcl) ho
      have e1:δ+(o+len*i.size)=δ+o+len*i.size:=by omega
      have q5:w.there b (δ+o+len*i.size) cs.length:=by rw [hcl,←e1];exact q5
      have q6:St P n0 w0 ν s' (w.setCells b (δ+o+len*i.size) cs):=by rw [←e1];exact q6
      exact ⟨ν,_,_,Out.write q6 g5 q7,⟨b,δ,cap,p1,rfl,hfit',p4,p5⟩,zbi hA.h0 hA.hu hA.hi hA.hz hA.hb c0 c1 hsrc hcl hA.hzs hfit' q5 ho⟩
     | false =>
      simp only [h1] at hnb ⊢
      cases h2:zq (Nat.beq v m) (zq (Nat.beq (Nat.add o (Nat.mul len i.size)) m) (zq (Nat.beq o 0) (Nat.beq e 0))) with
      | true =>
       obtain ⟨s1,s2⟩:=zh h2
       obtain ⟨s3,s4⟩:=zh s2
       obtain ⟨s5,s6⟩:=zh s4
       have r1:=kaa s1
       have r2:o+len*i.size=m:=kaa s3
       have r3:=kaa s5
       have r4:=kaa s6
       clear s1 s2 s3 s4 s5 s6
       subst r1 r3 r4
       rw [kaF] at r2
       simp only [h2] at hnb ⊢
       cases h3:Nat.ble (Nat.add len n) 68719476736 with
       | false=>rw [h3] at hnb;exact absurd trivial hnb
       | true =>
        have h3':len+n≤68719476736:=kaA.mp h3
        simp only [yf,qp] at hnb ⊢
        refine ⟨_,_,rfl,fun n0 w0 ν w zeros cargs ty xv yv cs hst c0 c1 hxv hsrc hv ho hcl=>?_⟩
        obtain ⟨b,δ,cap,p1,p2,p3,p4,p5⟩:=hxv
        subst p2
        obtain ⟨c,fz,t1,t2,t3,t4,t5,t60,t7,t8⟩:=hat n0 w0 ν w b δ cap hst p1 p4 p5
        have t6:=fun (j:Nat) (_:j<c.size)=>zLD t1 t60 j
        have hrow:=hst.rows a
        rw [hB] at hrow
        have hll:=hrow.len
        have hvl:=hv.length
        have hnl:new.length=n*i.size:=by rw [←hvl,hcl]
        have hnpos:0<new.length:=by rw [hnl];exact Nat.mul_pos (Nat.pos_of_ne_zero hn0) hpos
        have hsum:v+n*i.size=(len+n)*i.size:=by rw [Nat.add_mul,r2]
        have e0:δ+0+len*i.size=δ+v:=by rw [r2];omega
        have hrow':(Tr.get B.none a s.h)=.row l v el true mn 0 0:=hB
        -- what the row holds
        obtain ⟨old,o1,o2,o3,o4⟩:=hrow.cells' (v:=v) (o:=0) (m:=v) p1 ((zeT _ _ _ _ _).2 ⟨fun _=>⟨hrow.mnn rfl,kab _,by omega⟩,fun g=>by cases g⟩)
        rw [List.drop_zero,List.take_of_length_le (by omega)] at o3 o4
        rw [Nat.add_zero] at o2
        have gen:∀ (b2 δ2 cap2:Nat) (y:Value) (w2:World),(∃ ν',Out P n0 w0 ν s ν' ⟨Tr.set B.none (.row (l++new) (v+new.length) el true mn 0 0) a s.h,s.nx⟩ w2∧ν'.blk a (v+new.length)=some (b2,δ2)∧ν'.cap a (v+new.length)=cap2∧ν'.sz a=i.size)→y=.slice (some ⟨b2,δ2,none⟩) (len+n) cap2→len+n≤cap2→(Builtin.append_ ats ty cargs).run P w=.ok y w2 →
          ∃ ν' y w',Out P n0 w0 ν s ν' ⟨Tr.set B.none (.row (l++new) (Nat.add v (Nat.mul n i.size)) el true mn 0 0) a s.h,s.nx⟩ w'∧VR ν' (.so a (Nat.add v (Nat.mul n i.size)) 0 (Nat.add len n) 0) y∧(Builtin.append_ ats ty cargs).run P w=.ok y w':=by
         rintro b2 δ2 cap2 y w2 ⟨ν',u1,u2,u3,u4⟩ hy hle hrun
         have em:Nat.add v (Nat.mul n i.size)=v+new.length:=by rw [hnl];rfl
         rw [em]
         exact ⟨ν',y,w2,u1,⟨b2,δ2,cap2,u2,by rw [hy];rfl,hle,by rw [u3,kaF],by rw [Nat.zero_mul]⟩,hrun⟩
        by_cases hfit:len+n≤cap
        ·have hmulc:(len+n)*i.size≤cap*i.size:=kaL _ hfit
         have hthere:w.there b (δ+v) cs.length:=by
          intro j hj
          have hlt:δ+v+j<c.size:=by omega
          exact ⟨by rw [jK t1];simp [hlt],t6 _ hlt⟩
         obtain ⟨c2,k1,k2,k3⟩:=wQ b cs (δ+v) w c el fz t1
         refine gen b δ cap _ _ (zHP hst p1 hB hA.hi hnpos (Below.setCells t7 cs _ w hst.below) t7 (fun kk hk hne=>jS _ _ _ _ _ hne) k1 t60 (by omega) (by omega) (fun j x hj=>?_) (.inl ⟨rfl,rfl,c,fz,t1,k2,fun j hj=>by rw [k3 j (by omega),if_neg (by omega)]⟩)) rfl hfit ?_
         ·have hjl:=(kad.1 hj).1
          rw [kah] at hjl
          rw [k3 _ (by omega)]
          by_cases hjm:j<l.length
          ·rw [kam hjm] at hj
           rw [if_neg (by omega)]
           exact t8 (hrow.mnn rfl) j x hj (by omega)
          ·rw [kax (by omega)] at hj
           obtain ⟨y,hy,hr⟩:=hv.get _ x hj
           rw [if_pos (by omega),show δ+j - (δ+v)=j - l.length by omega]
           exact ⟨y,hy,fun _=>ho y (kae hy),hr⟩
         ·have:=zbi (ty:=ty) hA.h0 hA.hu hA.hi hA.hz hA.hb c0 c1 hsrc hcl hA.hzs hfit (by rw [e0];exact hthere) ho
          rw [e0] at this
          exact this
        ·obtain ⟨N,hN,rest,hr,hrun⟩:=wi (ty:=ty) hA.h0 hA.hu hA.hi hA.hz hA.hb c0 c1 hsrc hcl hA.hzs (by omega) h3' (old:=old) (zrR (by rw [Nat.add_zero];exact o2) (by rw [o1,r2]))
         have hsize:n0≤w.heap.size:=kar hst.n0le hst.below.size
         have hmulN:(len+n)*i.size+(N - (len+n))*i.size=N*i.size:=by rw [←Nat.add_mul];congr 1;omega
         have hb1:Below n0 w0 ({ w with drawn:=w.drawn+1 }:World):=hst.below.trans ⟨rfl,rfl,rfl,kab _,fun _ _=>rfl⟩
         refine gen w.heap.size 0 N _ _ (zHP hst p1 hB hA.hi hnpos (hb1.alloc hsize _) hsize (fun kk hk hne=>Below.heap_alloc ({ w with drawn:=w.drawn+1 }:World) _ kk hk) (zaW ({ w with drawn:=w.drawn+1 }:World) _) rfl ?_ ?_ (fun j x hj=>?_) (.inr (kab _))) rfl hN hrun
         ·simp only [List.size_toArray,kah];omega
         ·omega
         ·have hjl:=(kad.1 hj).1
          rw [kah] at hjl
          have hvv:=o3.append hv
          obtain ⟨y,hy,hr2⟩:=hvv.get j x hj
          have hyl:=(kad.1 hy).1
          refine ⟨y,by rw [kaF,List.getElem?_toArray,kam hyl];exact hy,fun hne=>?_,hr2⟩
          by_cases hjo:j<old.length
          ·rw [kam hjo] at hy
           rw [kam (by omega)] at hj
           exact o4 j x y hj hy hne
          ·rw [kax (by omega)] at hy
           exact ho y (kae hy)
      | false =>
       simp only [h2,yf] at hnb ⊢
       obtain ⟨lo,g1,g2⟩:=ww (P:=P) hnb
       rw [←g1] at hnb ⊢
       simp only [qp] at hnb ⊢
       obtain ⟨h3,h4⟩:=grow _ _ _ hnb
       have h3:len+n≤68719476736:=h3
       refine ⟨_,_,h4,fun n0 w0 ν w zeros cargs ty xv yv cs hst c0 c1 hxv hsrc hv ho hcl=>?_⟩
       obtain ⟨b,δ,cap,p1,p2,p3,p4,p5⟩:=hxv
       subst p2
       obtain ⟨c,fz,t1,t2,t3,t4,t5,t60,t7,t8⟩:=hat n0 w0 ν w b δ cap hst p1 p4 p5
       have t6:=fun (j:Nat) (_:j<c.size)=>zLD t1 t60 j
       obtain ⟨old,r1,r2,r3,r4⟩:=g2 hst.rows b δ p1
       have r1:old.length=len*i.size:=r1
       have hvv:=r3.append hv
       by_cases hfit:len+n≤cap
       ·obtain ⟨k1,ν',k2,k3⟩:=zK0 hst p1 hB hA.hi (δ2:=δ+o) (len:=len) (n:=n) (cap:=cap) r3 hv r4 ho r1 hcl r2 hfit (fun c' fz' hc'=>by
         rw [t1] at hc'
         simp only [Option.some.injEq,Obj.cells.injEq] at hc'
         obtain ⟨rfl,_,_⟩:=hc'
         exact t4)
        exact ⟨ν',_,_,k2,k3,zbi (ty:=ty) hA.h0 hA.hu hA.hi hA.hz hA.hb c0 c1 hsrc hcl hA.hzs hfit k1 ho⟩
       ·obtain ⟨N,hN,rest,hr,hrun⟩:=wi (ty:=ty) hA.h0 hA.hu hA.hi hA.hz hA.hb c0 c1 hsrc hcl hA.hzs (by omega) h3 (old:=old) (zrR r2 r1)
        have hk:=Out.kill hst p1
        obtain ⟨ν',k1,k2⟩:=zep hk.st (w1:={ w with drawn:=w.drawn+1 }) rfl rfl rfl rfl hA.hi hvv (fun y hy=>by rcases kak.1 hy with h | h;exact r4 y h;exact ho y h) (by rw [←hvv.length,kah,r1,hcl,←Nat.add_mul]) hN hr
        exact ⟨ν',_,_,hk.trans k1,k2,hrun⟩
   | _=>rw [hB] at hnb;exact absurd trivial hnb
  | _=>exact absurd trivial hnb
def zEt (P:Program) (pc:PC) (b:Builtin) (ts:List TypeId):Prop:=∀ args s k,¬((buC pc b ts).run args s k).isBad→∃ v s',k v s'=(buC pc b ts).run args s k ∧
 ∀ n0 w0 ν w (cargs:Array Value) (ty:TypeId) (cst:Array Bool),St P n0 w0 ν s w→VRs ν args cargs.toList→∃ ν' y w',Out P n0 w0 ν s ν' s' w'∧VR ν' v y∧(builtin b ts.toArray ty cst cargs).run P w=.ok (.value y) w'
variable {ts:List TypeId}
theorem zd1.op {pc:PC} {b:Builtin} (h:zd1 P pc b ts):zEt P pc b ts:=fun args s k hnb=>by
 obtain ⟨z,h1,h2⟩:=h args s k hnb
 refine ⟨z,s,h1,fun n0 w0 ν w cargs ty cst hst hv=>?_⟩
 obtain ⟨y,h3,h4⟩:=h2 ν w cargs ty cst hst.rows hv
 exact ⟨ν,y,w,Out.refl hst,h3,h4⟩
variable {fi:FI} {ds:List Nat} {o:Oper}
theorem zs4 {pc:PC} {c:Call} {b:Builtin} (ho:o.op=.call c) (hc:c.callee=.builtin b) (hb:b≠.recover) (h:zEt P pc b c.argTypes.toList):OpS P pc fi ds o:=by
 intro r tm le s k hnb
 rw [zie ho hc hb] at hnb ⊢
 obtain ⟨args,h1,h2⟩:=jm fi ds c.args.toList tm le _ hnb
 rw [←h1] at hnb ⊢
 obtain ⟨v,s',h3,h4⟩:=h args s k hnb
 refine ⟨v,s',h3,fun n0 w0 ν w tmps hst hG hf=>?_⟩
 obtain ⟨cst,h5⟩:=zil (P:=P) ho hc (ev tmps) w
 obtain ⟨ν',y,w',h6,h7,h8⟩:=h4 n0 w0 ν w (c.args.map (ev tmps)) o.type cst hst (by simpa using h2 ν tmps hG (fun x hx=>hf x (zaw ho hx)))
 exact ⟨ν',y,w',h6,h7,.inl (by rw [h5];simpa using h8)⟩
theorem zIi {pc:PC} (hp:PcOk P pc) (ts:List TypeId):zEt P pc .append ts:=by
 intro args s k hnb
 cases ts with
 | nil=>exact absurd trivial hnb
 | cons t ts =>
  have e:buC pc .append (t::ts)=buC pc .append (t::ts):=rfl
  conv at e=>rhs;simp only [buC]
  have dead:∀ m,buC pc .append (t::ts)=jQ m→False:=fun m h=>by rw [h] at hnb;exact hnb trivial
  cases hu:pc.und t with
  | none=>rw [hu] at e;exact (dead _ e).elim
  | some d =>
   rw [hu] at e
   cases d with
   | slice el =>
    simp only at e
    rcases PC.sz_or pc el (jQ 0) _ with h | ⟨i,hi,h⟩
    ·exact (dead _ (e.trans h)).elim
    ·rw [h] at e
     rcases PC.by_or pc el (jQ 0) _ with h | ⟨i',hi',h⟩
     ·exact (dead _ (e.trans h)).elim
     ·rw [h] at e
      rw [hi] at hi'
      simp only [Option.some.injEq] at hi'
      subst hi'
      rcases PC.zc_or hp el (jQ 0) _ with h | ⟨zc,h,z,hz,hz1,hz2⟩
      ·exact (dead _ (e.trans h)).elim
      ·rw [h] at e
       rcases zac (Nat.beq (zjX zc) i.size && (Nat.ble i.bytes 1024 && !(Nat.beq i.size 0))) (jQ 0) _ with h | ⟨hc,h⟩
       ·exact (dead _ (e.trans h)).elim
       ·rw [h] at e
        simp only [zH] at e
        simp only [kas] at hc
        obtain ⟨c1,c2,c3⟩:=hc
        have hzl:zc.length=i.size:=by rw [←zg1];exact kaa c1
        have hzsz:z.cells.size=i.size:=by have:=(hz1 ⟨fun _ _=>none,fun _ _=>0,fun _=>0⟩).length;simp at this;omega
        have hA:ApOk P (t::ts).toArray t el i z:=⟨by simp,hp.und hu,hp.info _ _ hi,hz,kaA.mp c2,hzsz,fun h=>by rw [h] at c3;cases c3⟩
        cases hap:apZ pc ts with
        | none=>rw [hap] at e;exact (dead _ e).elim
        | some zeros =>
         rw [hap] at e
         obtain ⟨u,r,ets,hu1⟩:∃ u r,ts=u::r∧(if zeros then ∃ kk,pc.und u=some (.int kk) else ∃ d,pc.und u=some d∧∀ kk,d≠.int kk):=by
          cases ts with
          | nil=>cases hap
          | cons u r =>
           refine ⟨u,r,rfl,?_⟩
           simp only [apZ] at hap
           cases hd:pc.und u with
           | none=>rw [hd] at hap;cases hap
           | some d =>
            rw [hd] at hap
            cases d<;>simp only [Option.some.injEq] at hap<;>subst hap<;>first
             | exact ⟨_,rfl⟩
             | exact ⟨_,rfl,fun kk h=>by cases h⟩
         have fin:∀ (x:V) (n:Nat) (new:List V) (v:V) (s':S),zJA P (t::ts).toArray t el i z x n new s v s'→∀ n0 w0 ν w (cargs:Array Value) (ty:TypeId) (cst:Array Bool) (xv yv:Value) (cs:List Value),St P n0 w0 ν s w→cargs[0]?=some xv→cargs[1]?=some yv→VR ν x xv→zBV P (t::ts).toArray i.size z w zeros yv n cs→VRs ν new cs→(∀ y∈cs,y.oneCell'=true)→cs.length=n*i.size →
           ∃ ν' y w',Out P n0 w0 ν s ν' s' w'∧VR ν' v y∧(builtin .append (t::ts).toArray ty cst cargs).run P w=.ok (.value y) w':=by
          intro x n new v s' hR n0 w0 ν w cargs ty cst xv yv cs a1 a2 a3 a4 a5 a6 a7 a8
          obtain ⟨ν',y,w',b1,b2,b3⟩:=hR n0 w0 ν w zeros cargs ty xv yv cs a1 a2 a3 a4 a5 a6 a7 a8
          exact ⟨ν',y,w',b1,b2,by simp only [builtin,Sem.run_bind,b3,Result.andThen_ok,Sem.run_pure]⟩
         cases zeros with
         | true =>
          simp only [if_true] at hu1
          obtain ⟨kk,hu1⟩:=hu1
          have e2:(buC pc .append (t::ts)).run args s k=zEC args fun x y=>zdV el i.size zc x y s k:=by rw [e]
          rw [e2] at hnb ⊢
          obtain ⟨x,y,rr,ea,h1⟩:=zzq hnb
          subst ea
          rw [←h1] at hnb ⊢
          cases y with
          | nat ky n =>
           unfold zdV at hnb ⊢
           simp only at hnb ⊢
           cases hb:Nat.ble n 68719476736 with
           | false=>rw [hb] at hnb;exact absurd trivial hnb
           | true =>
            simp only [hb,ziR] at hnb ⊢
            obtain ⟨v,s',g1,g2⟩:=zqA hA hnb
            refine ⟨v,s',g1,fun n0 w0 ν w cargs ty cst hst hv=>?_⟩
            obtain ⟨xv,x1,x2⟩:=hv.first
            obtain ⟨yv,y1,y2⟩:=hv.second
            simp only [VR] at y2
            refine fin x n (rep zc n) v s' g2 n0 w0 ν w cargs ty cst xv yv ((List.range n).flatMap fun _=>z.cells.toList) hst x1 y1 x2 ?_ (zfj (hz1 ν) n) (zic hz2) ?_
            ·exact ⟨⟨u,kk,by rw [ets];simp,hp.und hu1⟩,⟨ky,y2⟩,kaA.mp hb,rfl⟩
            ·have:=(zfj (hz1 ν) n).length
             rw [zaZ,hzl] at this
             exact this
          | _=>exact absurd trivial hnb
         | false =>
          simp only [Bool.false_eq_true,if_false] at hu1
          obtain ⟨d,hu1,hd⟩:=hu1
          have e2:(buC pc .append (t::ts)).run args s k=zEC args fun x y=>zP el i.size x y s k:=by rw [e]
          rw [e2] at hnb ⊢
          obtain ⟨x,y,rr,ea,h1⟩:=zzq hnb
          subst ea
          rw [←h1] at hnb ⊢
          unfold zP at hnb ⊢
          obtain ⟨n,new,f1,f2⟩:=zeM (P:=P) hnb
          rw [←f1] at hnb ⊢
          obtain ⟨v,s',g1,g2⟩:=zqA hA hnb
          refine ⟨v,s',g1,fun n0 w0 ν w cargs ty cst hst hv=>?_⟩
          obtain ⟨xv,x1,x2⟩:=hv.first
          obtain ⟨yv,y1,y2⟩:=hv.second
          obtain ⟨cs,c4,c5,c6,c7,c8⟩:=f2 ν w yv hst.rows y2
          refine fin x n new v s' g2 n0 w0 ν w cargs ty cst xv yv cs hst x1 y1 x2 ?_ c4 c5 c6
          refine ⟨⟨u,d,by rw [ets];simp,hp.und hu1,hd⟩,c7,fun w' hw'=>?_⟩
          have:=c8 n (kab _) w' hw'
          rwa [List.take_of_length_le (by omega)] at this
   | _=>exact (dead _ e).elim
theorem zMQ {pc:PC} (hp:PcOk P pc) (ts:List TypeId):zEt P pc .copy ts:=by
 intro args s k hnb
 cases ts with
 | nil=>exact absurd trivial hnb
 | cons t ts =>
  have e:buC pc .copy (t::ts)=buC pc .copy (t::ts):=rfl
  conv at e=>rhs;simp only [buC]
  have dead:∀ m,buC pc .copy (t::ts)=jQ m→False:=fun m h=>by rw [h] at hnb;exact hnb trivial
  cases hu:pc.und t with
  | none=>rw [hu] at e;exact (dead _ e).elim
  | some d =>
   rw [hu] at e
   cases d with
   | slice el =>
    simp only at e
    rcases PC.sz_or pc el (jQ 0) _ with h | ⟨i,hi,h⟩
    ·exact (dead _ (e.trans h)).elim
    ·rw [h] at e
     have e2:(buC pc .copy (t::ts)).run args s k=zEC args fun x y=>zHi i.size x y s k:=by rw [e]
     rw [e2] at hnb ⊢
     obtain ⟨x,y,rr,ea,h1⟩:=zzq hnb
     subst ea
     rw [←h1] at hnb ⊢
     have go:∀ (a:K) (v o len:Nat),(∀ (ν:Val) (z:Value),VR ν x z→∃ b δ cap,ν.blk a v=some (b,δ)∧z=.slice (some ⟨b,δ+o,none⟩) len cap)→¬(zrY i.size a v o len y s k).isBad→∃ v' s',k v' s'=zrY i.size a v o len y s k ∧
       ∀ n0 w0 ν w (cargs:Array Value) (ty:TypeId) (cst:Array Bool),St P n0 w0 ν s w→VRs ν (x::y::rr) cargs.toList→∃ ν' z w',Out P n0 w0 ν s ν' s' w'∧VR ν' v' z∧(builtin .copy (t::ts).toArray ty cst cargs).run P w=.ok (.value z) w':=by
      intro a v o len hx hnb
      unfold zrY at hnb ⊢
      obtain ⟨n,new,f1,f2⟩:=zeM (P:=P) hnb
      rw [←f1] at hnb ⊢
      simp only [zH] at hnb ⊢
      have core:∀ n0 w0 ν w (cargs:Array Value) (ty:TypeId) (cst:Array Bool),St P n0 w0 ν s w→VRs ν (x::y::rr) cargs.toList→∃ (b δ:Nat) (cs:List Value),ν.blk a v=some (b,δ)∧VRs ν new cs∧(∀ y∈cs,y.oneCell'=true)∧cs.length=n*i.size ∧
        ∀ w',(storeCells ⟨b,δ+o,none⟩ (cs.take (Nat.min n len*i.size))).run P w=.ok () w'→(builtin .copy (t::ts).toArray ty cst cargs).run P w=.ok (.value (.int .i64 (Int.ofNat (Nat.min n len)))) w':=by
       intro n0 w0 ν w cargs ty cst hst hv
       obtain ⟨xv,x1,x2⟩:=hv.first
       obtain ⟨yv,y1,y2⟩:=hv.second
       obtain ⟨b,δ,cap,g1,g2⟩:=hx ν xv x2
       obtain ⟨cs,c4,c5,c6,c7,c8⟩:=f2 ν w yv hst.rows y2
       refine ⟨b,δ,cs,g1,c4,c5,c6,fun w' hs=>?_⟩
       subst g2
       have h8:=c8 (Nat.min n len) (Nat.min_le_left _ _) w rfl
       have:(Builtin.copy_ (t::ts).toArray ty cargs).run P w=.ok (.int .i64 (Int.ofNat (Nat.min n len))) w':=by
        simp only [Builtin.copy_,List.getElem?_toArray,List.getElem?_cons_zero,x1,y1,Sem.run_bind,zy (hp.und hu),Result.andThen_ok,c7,yw (hp.info _ _ hi),h8,hs,Sem.run_pure,goInt]
        rfl
       simp only [builtin,Sem.run_bind,this,Result.andThen_ok,Sem.run_pure]
      cases hm:Nat.beq (Nat.min n len) 0 with
      | true =>
       have hm:=kaa hm
       refine ⟨_,_,rfl,fun n0 w0 ν w cargs ty cst hst hv=>?_⟩
       obtain ⟨b,δ,cs,g1,c4,c5,c6,hrun⟩:=core n0 w0 ν w cargs ty cst hst hv
       have:=hrun w (by rw [hm];simp [storeCells])
       rw [hm] at this
       exact ⟨ν,_,w,Out.refl hst,rfl,this⟩
      | false =>
       simp only [hm,ziJ] at hnb ⊢
       obtain ⟨s',g4,g5,g6⟩:=jT (P:=P) hnb
       refine ⟨_,s',g4,fun n0 w0 ν w cargs ty cst hst hv=>?_⟩
       obtain ⟨b,δ,cs,g1,c4,c5,c6,hrun⟩:=core n0 w0 ν w cargs ty cst hst hv
       have hle:Nat.min n len*i.size≤n*i.size:=kaL _ (Nat.min_le_left _ _)
       have hl:=c4.length
       have hcl:(cs.take (Nat.min n len*i.size)).length=Nat.min n len*i.size:=by rw [List.length_take];omega
       have h1c:∀ y∈cs.take (Nat.min n len*i.size),y.oneCell'=true:=fun y hy=>c5 y (List.mem_of_mem_take hy)
       obtain ⟨q5,q6,q7⟩:=g6 hst b δ g1 _ (c4.take (Nat.min n len*i.size)) (by rw [List.length_take];show min (Nat.min n len*i.size) _=Nat.min n len*i.size;omega) h1c
       have q5:w.there b (δ+o) (cs.take (Nat.min n len*i.size)).length:=by rw [hcl];exact q5
       exact ⟨ν,_,_,Out.write q6 g5 q7,rfl,hrun _ (zc9 q5 h1c)⟩
     cases x with
     | sl a v o len cap=>exact go a v o len (fun ν z h=>by obtain ⟨b,δ,h1,h2,_⟩:=h;exact ⟨b,δ,cap,h1,h2⟩) hnb
     | so a v o len e=>exact go a v o len (fun ν z h=>by obtain ⟨b,δ,cap,h1,h2,_⟩:=h;exact ⟨b,δ,cap,h1,h2⟩) hnb
     | ref t a =>
      by_cases ht:t=1
      ·subst ht
       have e3:zHi i.size (.ref 1 a) y s k=qy i.size y s fun _ _=>k (.nat .i64 0) s:=rfl
       rw [e3] at hnb ⊢
       obtain ⟨n,new,f1,f2⟩:=zeM (P:=P) hnb
       refine ⟨_,_,f1,fun n0 w0 ν w cargs ty cst hst hv=>?_⟩
       obtain ⟨xv,x1,x2⟩:=hv.first
       obtain ⟨yv,y1,y2⟩:=hv.second
       obtain ⟨ad,cap,g2⟩:=x2.ref1
       obtain ⟨cs,c4,c5,c6,c7,c8⟩:=f2 ν w yv hst.rows y2
       subst g2
       have h8:=c8 0 (Nat.zero_le _) w rfl
       have hm:Nat.min n 0=0:=Nat.min_zero _
       have:(Builtin.copy_ (t::ts).toArray ty cargs).run P w=.ok (.int .i64 (Int.ofNat 0)) w:=by
        simp only [Builtin.copy_,List.getElem?_toArray,List.getElem?_cons_zero,x1,y1,Sem.run_bind,zy (hp.und hu),Result.andThen_ok,c7,yw (hp.info _ _ hi),hm,h8,Nat.zero_mul,List.take_zero,storeCells,Sem.run_pure,goInt]
        simp 
       refine ⟨ν,.int .i64 (Int.ofNat 0),w,Out.refl hst,rfl,?_⟩
       simp only [builtin,Sem.run_bind,this,Result.andThen_ok,Sem.run_pure]
      ·have e3:Nat.beq t 1=false:=by
        cases h:Nat.beq t 1 with
        | true=>exact absurd (kaa h) ht
        | false=>rfl
       have e4:zHi i.size (.ref t a) y s k=.bad 0:=by
        show (@Bool.rec (fun _=>A) eA _ (Nat.beq t 1):A)=_
        rw [e3]
       rw [e4] at hnb
       exact absurd trivial hnb
     | _=>exact absurd trivial hnb
   | _=>exact (dead _ e).elim
theorem zLR {pc:PC} (hp:PcOk P pc) (ts:List TypeId):zEt P pc .clear ts:=by
 intro args s k hnb
 cases ts with
 | nil=>exact absurd trivial hnb
 | cons t ts =>
  have e:buC pc .clear (t::ts)=buC pc .clear (t::ts):=rfl
  conv at e=>rhs;simp only [buC]
  have dead:∀ m,buC pc .clear (t::ts)=jQ m→False:=fun m h=>by rw [h] at hnb;exact hnb trivial
  cases hu:pc.und t with
  | none=>rw [hu] at e;exact (dead _ e).elim
  | some d =>
   rw [hu] at e
   cases d with
   | slice el =>
    simp only at e
    rcases PC.sz_or pc el (jQ 0) _ with h | ⟨i,hi,h⟩
    ·exact (dead _ (e.trans h)).elim
    ·rw [h] at e
     rcases PC.zc_or hp el (jQ 0) _ with h | ⟨zc,h,z,hz,hz1,hz2⟩
     ·exact (dead _ (e.trans h)).elim
     ·rw [h] at e
      rcases zac (Nat.beq (zjX zc) i.size) (jQ 0) _ with h | ⟨hc,h⟩
      ·exact (dead _ (e.trans h)).elim
      ·rw [h] at e
       have hzl:zc.length=i.size:=by rw [←zg1];exact kaa hc
       have e2:(buC pc .clear (t::ts)).run args s k=zEo args fun x=>zEZ i.size zc x s k:=by rw [e]
       rw [e2] at hnb ⊢
       obtain ⟨x,rr,ea,h1⟩:=zif hnb
       subst ea
       rw [←h1] at hnb ⊢
       have go:∀ (a:K) (v o len:Nat),(∀ (ν:Val) (z:Value),VR ν x z→∃ b δ cap,ν.blk a v=some (b,δ)∧z=.slice (some ⟨b,δ+o,none⟩) len cap)→¬(zhz i.size zc a v o len s k).isBad→∃ v' s',k v' s'=zhz i.size zc a v o len s k ∧
         ∀ n0 w0 ν w (cargs:Array Value) (ty:TypeId) (cst:Array Bool),St P n0 w0 ν s w→VRs ν (x::rr) cargs.toList→∃ ν' z w',Out P n0 w0 ν s ν' s' w'∧VR ν' v' z∧(builtin .clear (t::ts).toArray ty cst cargs).run P w=.ok (.value z) w':=by
        intro a v o len hx hnb
        unfold zhz at hnb ⊢
        cases hm:Nat.beq len 0 with
        | true =>
         have hm:=kaa hm
         subst hm
         refine ⟨_,_,rfl,fun n0 w0 ν w cargs ty cst hst hv=>?_⟩
         obtain ⟨xv,x1,x2⟩:=hv.first
         obtain ⟨b,δ,cap,g1,g2⟩:=hx ν xv x2
         subst g2
         refine ⟨ν,Go.undef,w,Out.refl hst,VR.undef,?_⟩
         have:(Builtin.clear_ (t::ts).toArray ty cargs).run P w=.ok (.tuple #[]) w:=by
          simp [Builtin.clear_,x1,zy (hp.und hu)]
         simp only [builtin,Sem.run_bind,this,Result.andThen_ok,Sem.run_pure]
         rfl
        | false =>
         simp only [hm,ziR] at hnb ⊢
         obtain ⟨s',g4,g5,g6⟩:=jT (P:=P) hnb
         refine ⟨_,s',g4,fun n0 w0 ν w cargs ty cst hst hv=>?_⟩
         obtain ⟨xv,x1,x2⟩:=hv.first
         obtain ⟨b,δ,cap,g1,g2⟩:=hx ν xv x2
         subst g2
         have hr:=zfj (hz1 ν) len
         have hrl:=hr.length
         obtain ⟨q5,q6,q7⟩:=g6 hst b δ g1 _ hr (by rw [zaZ,hzl];rfl) (zic hz2)
         have q5:w.there b (δ+o) ((List.range len).flatMap fun _=>z.cells.toList).length:=by rw [hrl,zaZ,hzl];exact q5
         have hs:=zc9 (P:=P) q5 (zic hz2)
         refine ⟨ν,Go.undef,_,Out.write q6 g5 q7,VR.undef,?_⟩
         have hl0:len≠0:=fun h=>by subst h;simp at hm
         have:(Builtin.clear_ (t::ts).toArray ty cargs).run P w=.ok (.tuple #[]) (w.setCells b (δ+o) ((List.range len).flatMap fun _=>z.cells.toList)):=by
          obtain ⟨m,rfl⟩:∃ m,len=m+1:=⟨len - 1,by omega⟩
          simp only [Builtin.clear_,List.getElem?_toArray,List.getElem?_cons_zero,x1,Sem.run_bind,zy (hp.und hu),Result.andThen_ok,hz,zbb,hs,Sem.run_pure]
         simp only [builtin,Sem.run_bind,this,Result.andThen_ok,Sem.run_pure]
         rfl
       cases x with
       | sl a v o len cap=>exact go a v o len (fun ν z h=>by obtain ⟨b,δ,h1,h2,_⟩:=h;exact ⟨b,δ,cap,h1,h2⟩) hnb
       | so a v o len e=>exact go a v o len (fun ν z h=>by obtain ⟨b,δ,cap,h1,h2,_⟩:=h;exact ⟨b,δ,cap,h1,h2⟩) hnb
       | _=>exact absurd trivial hnb
   | _=>exact (dead _ e).elim
variable {g1 g2:Nat}
theorem FzR.grow {fz:Nat × Nat} (h:FzR fz δ f1 f2) (hg:(f1=f2)∨(g1≤f1∧f2≤g2)):FzR fz δ g1 g2:=by
 unfold FzR at *
 omega
theorem zFK {o n:Nat} {c:Nat→Nat→A}:∃ g1 g2,zzQ f1 f2 o n c=c g1 g2∧((f1=f2∧g1=o∧g2=o+n)∨(f1≠f2∧g1=min f1 o∧g2=max f2 (o+n))):=by
 unfold zzQ
 cases h:Nat.beq f1 f2 with
 | true=>exact ⟨o,o+n,by simp only [zH];rfl,.inl ⟨kaa h,rfl,rfl⟩⟩
 | false=>exact ⟨min f1 o,max f2 (o+n),by simp only [zH];rfl,.inr ⟨fun e=>by subst e;simp at h,rfl,rfl⟩⟩
theorem zE9 {n0:Nat} {w0 w:World} (hst:St P n0 w0 ν s w) {el o n:Nat} (hB:Tr.get B.none a s.h=.row l m el true mn f1 f2) (hb:ν.blk a v=some (b,δ)) (hn:n≠0)
  (hg:(f1=f2∧g1=o∧g2=o+n)∨(f1≠f2∧g1=min f1 o∧g2=max f2 (o+n))) :
  St P n0 w0 ν ⟨Tr.set B.none (.row l m el true mn g1 g2) a s.h,s.nx⟩ (w.freeze ⟨b,δ+o,none⟩ n):=by
 have hlive:(Tr.get B.none a s.h).live:=by rw [hB];trivial
 have hrow:=hst.rows a
 rw [hB] at hrow
 have hn0:n0≤b:=by
  rcases hst.own a v b δ hb hlive with h | h
  ·exact h
  ·rw [hB] at h;exact absurd h.1 (by simp)
 have hoth:∀ k,k≠b→(w.freeze ⟨b,δ+o,none⟩ n).heap[k]?=w.heap[k]?:=by
  intro k hk
  unfold World.freeze
  rw [if_neg hn]
  simp only [Array.getElem?_modify]
  rw [if_neg (fun e=>hk e.symm)]
 have hat:∀ c fz,w.heap[b]?=some (.cells c el fz)→(w.freeze ⟨b,δ+o,none⟩ n).heap[b]?=some (.cells c el (if fz.1 == fz.2 then (δ+o,δ+o+n) else (min fz.1 (δ+o),max fz.2 (δ+o+n)))):=by
  intro c fz h
  unfold World.freeze
  rw [if_neg hn]
  simp only [Array.getElem?_modify,h]
  simp
 have zY:∀ a',Tr.get B.none a' (Tr.set B.none (.row l m el true mn g1 g2) a s.h)=if a'=a then .row l m el true mn g1 g2 else Tr.get B.none a' s.h:=fun a'=>get_set _ _ _ _ _
 have hliv:∀ a',(Tr.get B.none a' (Tr.set B.none (.row l m el true mn g1 g2) a s.h)).live→(Tr.get B.none a' s.h).live:=by
  intro a' h
  rw [zY] at h
  by_cases e:a'=a
  ·rw [e];exact hlive
  ·rwa [if_neg e] at h
 refine ⟨Lib.below_freeze hst.below hn0 n,hst.n0le,fun a'=>?_,fun a' ha'=>?_,fun a1 v1 b1 δ1 a2 v2 δ2 h1 h2 l1 l2=>hst.sep _ _ _ _ _ _ _ h1 h2 (hliv _ l1) (hliv _ l2),fun a' v' b' δ' hb' hl'=>?_⟩
 ·simp only [zY]
  by_cases e:a'=a
  ·subst e
   rw [if_pos rfl]
   refine ⟨hrow.len,hrow.v0,hrow.vn,hrow.mnn,hrow.same,fun v' b' δ' hb'=>?_⟩
   obtain ⟨c,fz,k1,k2,k3,k4,k5⟩:=hrow.at_ v' b' δ' hb'
   have k3:FzR fz δ' f1 f2:=by
    rcases k3 with ⟨h,_⟩ | h
    ·cases h
    ·exact h
   by_cases eb:b'=b
   ·subst eb
    have hδ:=hrow.same _ _ _ _ _ hb' hb
    subst hδ
    refine ⟨c,_,hat c fz k1,k2,.inr ?_,k4,k5⟩
    unfold FzR at *
    by_cases e0:fz.1=fz.2
    ·have:(fz.1 == fz.2)=true:=by simp [e0]
     rw [this]
     simp only [if_true]
     right
     omega
    ·have:(fz.1 == fz.2)=false:=by simp [e0]
     rw [this]
     simp only [Bool.false_eq_true,if_false]
     right
     omega
   ·exact ⟨c,fz,by rw [hoth _ eb];exact k1,k2,.inr (k3.grow (by omega)),k4,k5⟩
  ·rw [if_neg e]
   refine (hst.rows a').frame fun v' b' δ' hb' hl'=>hoth _ fun eb=>e ?_
   subst eb
   exact hst.sep a' v' b' δ' a v δ hb' hb hl' hlive
 ·obtain ⟨h1,h2⟩:=hst.fresh a' ha'
  refine ⟨h1,?_⟩
  simp only [zY]
  rw [if_neg]
  ·exact h2
  ·intro e;subst e;rw [h2] at hB;cases hB
 ·rcases hst.own a' v' b' δ' hb' (hliv _ hl') with h | h
  ·exact .inl h
  ·refine .inr ?_
   simp only [zY]
   by_cases e:a'=a
   ·subst e;rw [hB] at h;exact absurd h.1 (by simp)
   ·rw [if_neg e];exact h
theorem zA8 {c:V→A} (hnb:¬(zxU l c).isBad):∃ x,l=[x]∧c x=zxU l c:=by
 cases l with
 | nil=>exact absurd trivial hnb
 | cons x r=>cases r with
  | nil=>exact ⟨x,rfl,rfl⟩
  | cons _ _=>exact absurd trivial hnb
theorem zEI {c:V→V→A} (hnb:¬(ztM l c).isBad):∃ x y,l=[x,y]∧c x y=ztM l c:=by
 cases l with
 | nil=>exact absurd trivial hnb
 | cons x r=>cases r with
  | nil=>exact absurd trivial hnb
  | cons y r=>cases r with
   | nil=>exact ⟨x,y,rfl,rfl⟩
   | cons _ _=>exact absurd trivial hnb
variable {c:Array Value}
theorem VRs.one {x:V} (h:VRs ν [x] c.toList):∃ y,c=#[y]∧VR ν x y:=by
 obtain ⟨y,r,e,h1,h2⟩:=h
 simp only [VRs] at h2
 subst h2
 exact ⟨y,by apply Array.ext';simpa using e,h1⟩
theorem VRs.two {x y:V} (h:VRs ν [x,y] c.toList):∃ u v,c=#[u,v]∧VR ν x u∧VR ν y v:=by
 obtain ⟨u,r,e,h1,v,r',e2,h2,h3⟩:=h
 simp only [VRs] at h3
 subst h3 e2
 exact ⟨u,v,by apply Array.ext';simpa using e,h1,h2⟩
theorem zy4 {pc:PC} (ts:List TypeId):zd1 P pc .unsafeSliceData ts:=by
 intro args s k hnb
 have e:(buC pc .unsafeSliceData ts).run args s k=zxU args fun x=>zbv x fun v=>k v s:=by cases ts<;>rfl
 rw [e] at hnb ⊢
 obtain ⟨x,ea,h1⟩:=zA8 hnb
 subst ea
 rw [←h1] at hnb ⊢
 have fin:∀ (w:World) (ty:TypeId) (cst:Array Bool) (a:Option Addr) (n c:Nat),(a=none∨c≠0)→(builtin .unsafeSliceData ts.toArray ty cst #[.slice a n c]).run P w=.ok (.value (.pointer a)) w:=by
  intro w ty cst a n c hac
  rcases a with _ | a
  ·simp [builtin,Lib.run_unsafeSliceData_nil]
  ·rcases hac with h | h
   ·cases h
   ·simp [builtin,Lib.run_unsafeSliceData_row w ts.toArray ty a n c h]
 cases x with
 | nil t =>
  unfold zbv at hnb ⊢
  simp only at hnb ⊢
  cases ht:Nat.beq t 1 with
  | false=>rw [ht] at hnb;exact absurd trivial hnb
  | true =>
   have:=kaa ht
   subst this
   refine ⟨.nil 0,rfl,fun ν w cargs ty cst hw hv=>?_⟩
   obtain ⟨y,hy,h2⟩:=hv.one
   simp only [VR] at h2
   subst hy h2
   exact ⟨_,rfl,fin w ty cst none 0 0 (.inl rfl)⟩
 | sl a v o len cap =>
  unfold zbv at hnb ⊢
  simp only at hnb ⊢
  cases ht:Nat.beq cap 0 with
  | true=>rw [ht] at hnb;exact absurd trivial hnb
  | false =>
   have h0:cap≠0:=fun h=>by subst h;simp at ht
   refine ⟨.ptr a v o,rfl,fun ν w cargs ty cst hw hv=>?_⟩
   obtain ⟨y,hy,b,δ,h2,h3,h4⟩:=hv.one
   subst hy h3
   exact ⟨_,⟨b,δ,h2,rfl⟩,fin w ty cst _ _ _ (.inr h0)⟩
 | so a v o len e0 =>
  unfold zbv at hnb ⊢
  simp only at hnb ⊢
  cases ht:Nat.beq len 0 with
  | true=>rw [ht] at hnb;exact absurd trivial hnb
  | false =>
   have h0:len≠0:=fun h=>by subst h;simp at ht
   refine ⟨.ptr a v o,rfl,fun ν w cargs ty cst hw hv=>?_⟩
   obtain ⟨y,hy,b,δ,cap,h2,h3,h4,_⟩:=hv.one
   subst hy h3
   exact ⟨_,⟨b,δ,h2,rfl⟩,fin w ty cst _ _ _ (.inr (by omega))⟩
 | _=>exact absurd trivial hnb
variable {k:IntKind} {pt ty:TypeId}
theorem zfB {w:World} {ats:Array TypeId} {e:TypeId} (hat:ats[0]?=some pt) (hp:P.underlying pt=some (.pointer e)) (hc:P.cellsOf e=1) {x cells:Nat} (hsh:w.shape? b=some (e,cells)) (l:List UInt8) (h0:l≠[]) (hn:x+l.length≤cells) (h63:l.length≤9223372036854775807)
  (hcell:∀ j u,l[j]?=some u→w.cell? ((⟨b,x,none⟩:Addr).add j)=some (.int .u8 u.toNat)) :
  (Builtin.unsafeString_ ats ty #[.pointer (some ⟨b,x,none⟩),.int k (Int.ofNat l.length)]).run P w=.ok (.string ⟨l.toArray⟩) (w.freeze ⟨b,x,none⟩ l.length):=by
 have hl:l.length≠0:=by simpa using h0
 have hlb:=Lib.run_loadBytes (P:=P) w l ⟨b,x,none⟩ .empty hcell
 have hlies:=zkc (P:=P) (e:=e) (by rw [hc];simp) (cells / P.cellsOf e) x l.length (by rw [hc];simp [Nat.mod_one]) (by rw [hc];simpa using hn)
 have h63':¬(9223372036854775807:Int)<(l.length:Int):=by omega
 have hmax:IntKind.i64.max=9223372036854775807:=rfl
 have hneg:¬(l.length:Int)<0:=by omega
 have hdef:Builtin.unsafeString_ ats ty #[.pointer (some ⟨b,x,none⟩),.int k (Int.ofNat l.length)] =
   (do
    let n ←asInt (.int k (Int.ofNat l.length))
    let some pt := ats[0]? | stuck "unsafe.String: no argument types"
    if n < 0 then runtimePanic (.error "unsafe.String: len out of range")
    if n > IntKind.i64.max then unsupported (.unsafePointer "String: a length above the largest int")
    if n=0 then pure (.string .empty)
    else if ←variablesAt ⟨b,x,none⟩ (←elemOf pt) n.toNat then do
     let s ←loadBytes ⟨b,x,none⟩ .empty n.toNat
     freeze ⟨b,x,none⟩ n.toNat
     pure (.string s)
    else unsupported (.unsafePointer "String: not so many bytes at ptr")) := rfl
 rw [hdef]
 simp [asInt,asIntOf,hmax,h63',hneg,hl,variablesAt,hsh,elemOf,run_underlying hp,hlies,hlb,hat]
theorem zdP {w:World} {ats:Array TypeId} (hat:ats[0]?=some pt) (p:Option Addr):(Builtin.unsafeString_ ats ty #[.pointer p,.int k (Int.ofNat 0)]).run P w=.ok (.string .empty) w:=by
 have hmax:IntKind.i64.max=9223372036854775807:=rfl
 cases p with
 | none =>
  have hdef:Builtin.unsafeString_ ats ty #[.pointer none,.int k (Int.ofNat 0)] =
    (do
     let n ←asInt (.int k (Int.ofNat 0))
     let some pt := ats[0]? | stuck "unsafe.String: no argument types"
     if n < 0 then runtimePanic (.error "unsafe.String: len out of range")
     if n > IntKind.i64.max then unsupported (.unsafePointer "String: a length above the largest int")
     if n=0 then pure (.string .empty)
     else runtimePanic (.error "unsafe.String: ptr is nil and len is not zero")) := rfl
  rw [hdef]
  simp [asInt,asIntOf,hmax,hat]
 | some a =>
  have hdef:Builtin.unsafeString_ ats ty #[.pointer (some a),.int k (Int.ofNat 0)] =
    (do
     let n ←asInt (.int k (Int.ofNat 0))
     let some pt := ats[0]? | stuck "unsafe.String: no argument types"
     if n < 0 then runtimePanic (.error "unsafe.String: len out of range")
     if n > IntKind.i64.max then unsupported (.unsafePointer "String: a length above the largest int")
     if n=0 then pure (.string .empty)
     else if ←variablesAt a (←elemOf pt) n.toNat then do
      let s ←loadBytes a .empty n.toNat
      freeze a n.toNat
      pure (.string s)
     else unsupported (.unsafePointer "String: not so many bytes at ptr")) := rfl
  rw [hdef]
  simp [asInt,asIntOf,hmax,hat]
theorem zmX {pc:PC} (hp:PcOk P pc) (ts:List TypeId):zEt P pc .unsafeString ts:=by
 intro args s k hnb
 cases ts with
 | nil=>exact absurd trivial hnb
 | cons t ts =>
  have e:buC pc .unsafeString (t::ts)=buC pc .unsafeString (t::ts):=rfl
  conv at e=>rhs;simp only [buC]
  have dead:∀ m,buC pc .unsafeString (t::ts)=jQ m→False:=fun m h=>by rw [h] at hnb;exact hnb trivial
  cases hu:pc.und t with
  | none=>rw [hu] at e;exact (dead _ e).elim
  | some d =>
   rw [hu] at e
   cases d with
   | pointer el =>
    simp only at e
    rcases PC.sz_or pc el (jQ 0) _ with h | ⟨i,hi,h⟩
    ·exact (dead _ (e.trans h)).elim
    ·rw [h] at e
     rcases zac (Nat.beq i.size 1) (jQ 0) _ with h | ⟨hc,h⟩
     ·exact (dead _ (e.trans h)).elim
     ·rw [h] at e
      simp only [zH] at e
      have hcell:P.cellsOf el=1:=by simp [Program.cellsOf,hp.info _ _ hi,kaa hc]
      have e2:(buC pc .unsafeString (t::ts)).run args s k=ztM args fun x y=>zLO el x y s k:=by rw [e]
      rw [e2] at hnb ⊢
      obtain ⟨x,y,ea,h1⟩:=zEI hnb
      subst ea
      rw [←h1] at hnb ⊢
      have hat:(t::ts).toArray[0]?=some t:=by simp
      have none_:∀ (kk:IntKind) (_:∀ (ν:Val) (z:Value),VR ν x z→∃ p,z=.pointer p) s',s'=s→y=.nat kk 0→k (.str []) s'=k (.str []) s∧∀ n0 w0 ν w (cargs:Array Value) (ty:TypeId) (cst:Array Bool),St P n0 w0 ν s w→VRs ν [x,y] cargs.toList→∃ ν' y w',Out P n0 w0 ν s ν' s' w'∧VR ν' (.str []) y∧(builtin .unsafeString (t::ts).toArray ty cst cargs).run P w=.ok (.value y) w':=by
       intro kk hx s' hs hy
       subst hs hy
       refine ⟨rfl,fun n0 w0 ν w cargs ty cst hst hv=>?_⟩
       obtain ⟨u,v,e1,e2,e3⟩:=hv.two
       obtain ⟨p,e4⟩:=hx ν u e2
       simp only [VR] at e3
       subst e1 e3 e4
       refine ⟨ν,.string .empty,w,Out.refl hst,⟨_,rfl,rfl⟩,?_⟩
       have:=zdP (P:=P) (w:=w) (ty:=ty) (k:=kk) hat p
       simp only [builtin,Sem.run_bind,this,Result.andThen_ok,Sem.run_pure]
      cases y with
      | nat kk n =>
       unfold zLO at hnb ⊢
       simp only at hnb ⊢
       cases h63:Nat.ble n 9223372036854775807 with
       | false=>rw [h63] at hnb;exact absurd trivial hnb
       | true =>
        have h63':n≤9223372036854775807:=kaA.mp h63
        simp only [h63] at hnb ⊢
        cases x with
        | nil u =>
         simp only at hnb ⊢
         cases hc2:zq (Nat.beq u 0) (Nat.beq n 0) with
         | false=>rw [hc2] at hnb;exact absurd trivial hnb
         | true =>
          obtain ⟨q1,q2⟩:=zh hc2
          have q1:=kaa q1
          have q2:=kaa q2
          subst q1 q2
          obtain ⟨g1,g2⟩:=none_ kk (fun ν z h=>⟨none,h⟩) s rfl rfl
          exact ⟨.str [],s,rfl,g2⟩
        | ptr a v o =>
         simp only at hnb ⊢
         cases hn0:Nat.beq n 0 with
         | true =>
          have q2:=kaa hn0
          subst q2
          obtain ⟨g1,g2⟩:=none_ kk (fun ν z h=>by obtain ⟨b,δ,_,h⟩:=h;exact ⟨_,h⟩) s rfl rfl
          exact ⟨.str [],s,rfl,g2⟩
         | false =>
          have hn:n≠0:=fun h=>by subst h;simp at hn0
          simp only [hn0,yy] at hnb ⊢
          generalize hB:Tr.get B.none a s.h=B' at hnb ⊢
          cases B' with
          | row l m el' gr mn f1 f2 =>
           simp only at hnb ⊢
           cases hc3:zq gr (Nat.beq el' el) with
           | false=>rw [hc3] at hnb;exact absurd trivial hnb
           | true =>
            obtain ⟨q1,q2⟩:=zh hc3
            have q2:=kaa q2
            subst q1 q2
            simp only [hc3] at hnb ⊢
            obtain ⟨cv,r1,r2⟩:=ww (P:=P) hnb
            rw [←r1] at hnb ⊢
            obtain ⟨bs,r3,r4,r5⟩:=zI1 hnb
            rw [←r3] at hnb ⊢
            obtain ⟨g1,g2,r6,r7⟩:=zFK (f1:=f1) (f2:=f2) (o:=o) (n:=n) (c:=fun g1 g2=>jP s a (.row l m el' true mn g1 g2) fun s=>k (.str bs) s)
            rw [r6] at hnb ⊢
            simp only [qp] at hnb ⊢
            refine ⟨_,_,rfl,fun n0 w0 ν w cargs ty cst hst hv=>?_⟩
            obtain ⟨u,v',e1,⟨b,δ,e2,e4⟩,e3⟩:=hv.two
            simp only [VR] at e3
            subst e1 e3 e4
            obtain ⟨cs,k1,k2,k3,k4⟩:=r2 hst.rows b δ e2
            rw [r5] at k3
            have k5:=zv6 k3
            have hrow:=hst.rows a
            rw [hB] at hrow
            obtain ⟨c,fz,t1,_⟩:=hrow.at_ v b δ e2
            have hbl:bs.length=n:=by rw [←k1,k5];simp
            have hcs:∀ j z,cs[j]?=some z→δ+o+j<c.size:=by
             intro j z hz
             have:=k2 j z hz
             rw [jK t1] at this
             exact (kaB.1 this).1
            have hsz:δ+o+n≤c.size:=by
             have:n - 1<cs.length:=by omega
             have:=hcs (n - 1) _ (kac this)
             omega
            have hrun:=zfB (P:=P) (w:=w) (ty:=ty) (k:=kk) hat (hp.und hu) hcell (b:=b) (x:=δ+o) (zou t1) (bs.map UInt8.ofNat) (by intro h;have h9:=congrArg List.length h;simp at h9;subst h9;simp at hbl;omega) (by simpa [hbl] using hsz) (by simpa [hbl] using h63') (fun j z hz=>by
             rw [zaC]
             refine k2 j _ ?_
             rw [k5]
             rw [kal] at hz ⊢
             cases hj:bs[j]? with
             | none=>rw [hj] at hz;cases hz
             | some q =>
              rw [hj] at hz
              simp only [Option.map_some,Option.some.injEq] at hz ⊢
              rw [←hz]
              have:=r4 q (kae hj)
              simp;omega)
            have hl2:(bs.map UInt8.ofNat).length=n:=by simpa using hbl
            rw [hl2] at hrun
            refine ⟨ν,_,_,Out.write (zE9 hst hB e2 hn r7) rfl (wH e2 _),?_,by simp only [builtin,Sem.run_bind,hrun,Result.andThen_ok,Sem.run_pure];rfl⟩
            refine ⟨_,rfl,?_⟩
            unfold qm
            simp only [List.map_map]
            conv=>rhs;rw [←List.map_id bs]
            apply kaO
            intro q hq
            have:=r4 q hq
            simp;omega
          | _=>exact absurd trivial hnb
        | _=>exact absurd trivial hnb
      | _=>exact absurd trivial hnb
   | _=>exact (dead _ e).elim
theorem zLn {pc:PC} {b:Builtin} (h:∃ m,buC pc b ts=jQ m):zEt P pc b ts:=fun args s k hnb=>by
 obtain ⟨m,h⟩:=h
 rw [h] at hnb;exact absurd trivial hnb
theorem zKn {pc:PC} (hp:PcOk P pc) (b:Builtin) (ts:List TypeId):zEt P pc b ts:=by
 cases b
 case append=>exact zIi hp ts
 case copy=>exact zMQ hp ts
 case clear=>exact zLR hp ts
 case len=>exact (zKy hp ts).op
 case cap=>exact (zJD hp ts).op
 case min=>exact (zLC ts).op
 case max=>exact (zJ9 ts).op
 case unsafeSliceData=>exact (zy4 ts).op
 case unsafeString=>exact zmX hp ts
 all_goals exact zLn ⟨0,by cases ts<;>rfl⟩
variable {ok:Bool}
theorem zFr {t:Nat} {z x:V} {c:V→A} (hnb:¬(zbI t ok z x c).isBad):∃ v,c v=zbI t ok z x c∧∀ (ν:Val) (y zv:Value) (xt:TypeId) (d:TypeDesc),VR ν x y→VR ν z zv→P.underlying t=some d→(∀ m,d≠.interface m)→(∀ w,(zeroValue t).run P w=.ok zv w) →
  ∃ v',VR ν v v'∧∀ w,(Instr.typeAssert y xt t ok).run P w=.ok v' w:=by
 cases x with
 | nil u =>
  unfold zbI at hnb ⊢
  simp only at hnb ⊢
  cases hc:zq ok (Nat.beq u 4) with
  | false=>rw [hc] at hnb;exact absurd trivial hnb
  | true =>
   obtain ⟨q1,q2⟩:=zh hc
   have q2:=kaa q2
   subst q1 q2
   refine ⟨_,rfl,fun ν y zv xt d hy hz hu hd hzv=>?_⟩
   simp only [VR] at hy
   subst hy
   refine ⟨.tuple #[zv,.bool false],VR.pair hz,fun w=>?_⟩
   unfold Instr.typeAssert
   rw [Sem.run_bind,zy hu]
   cases d<;>first | exact absurd rfl (hd _) | simp [hzv]
 | ifc u v =>
  unfold zbI at hnb ⊢
  simp only at hnb ⊢
  cases hc:Nat.beq u t with
  | true =>
   have q2:=kaa hc
   subst q2
   cases ok with
   | true =>
    refine ⟨_,rfl,fun ν y zv xt d hy hz hu hd hzv=>?_⟩
    obtain ⟨y',hy1,hy2⟩:=hy
    subst hy2
    refine ⟨.tuple #[y',.bool true],VR.pair hy1,fun w=>?_⟩
    unfold Instr.typeAssert
    rw [Sem.run_bind,zy hu]
    cases d<;>first | exact absurd rfl (hd _) | simp
   | false =>
    refine ⟨_,rfl,fun ν y zv xt d hy hz hu hd hzv=>?_⟩
    obtain ⟨y',hy1,hy2⟩:=hy
    subst hy2
    refine ⟨y',hy1,fun w=>?_⟩
    unfold Instr.typeAssert
    rw [Sem.run_bind,zy hu]
    cases d<;>first | exact absurd rfl (hd _) | simp
  | false =>
   cases ok with
   | false=>rw [hc] at hnb;exact absurd trivial hnb
   | true =>
    have hne:u≠t:=fun h=>by subst h;simp at hc
    refine ⟨_,rfl,fun ν y zv xt d hy hz hu hd hzv=>?_⟩
    obtain ⟨y',hy1,hy2⟩:=hy
    subst hy2
    refine ⟨.tuple #[zv,.bool false],VR.pair hz,fun w=>?_⟩
    unfold Instr.typeAssert
    rw [Sem.run_bind,zy hu]
    cases d<;>first | exact absurd rfl (hd _) | simp [hne,hzv]
 | _=>exact absurd trivial hnb
theorem zmP {pc:PC} (hp:PcOk P pc) {xt t:TypeId} {x:Operand} (ho:o.op=.typeAssert x xt t ok):jM P pc fi ds o:=by
 have e:op pc fi ds o=op pc fi ds o:=rfl
 conv at e=>rhs;simp only [op,ho]
 cases hu:pc.und t with
 | none=>rw [hu] at e;exact qg e
 | some d =>
  have go:op pc fi ds o=(match pc.zero t with | .bad=>zX 0 | z=>fN t fun t=>cB ok fun ok=>un fi ds x fun v s k=>zbI t ok z v fun v=>k v s)→(∀ m,d≠.interface m)→jM P pc fi ds o:=by
   intro e hd
   by_cases hz:pc.zero t=.bad
   ·rw [hz] at e;exact qg e
   ·have e:op pc fi ds o=un fi ds x (fun v s k=>zbI t ok (pc.zero t) v fun v=>k v s):=by
     rw [e]
     cases hz':pc.zero t<;>first | exact absurd hz' hz | simp only [zGQ,zH]
    obtain ⟨zv,hzv⟩:=PC.zero_ok hp hz
    refine zbG (X:=zbI t ok (pc.zero t)) e (by simp [ho,Op.operands]) (fun v c hnb=>?_)
    obtain ⟨u,h1,h2⟩:=zFr (P:=P) hnb
    refine ⟨u,h1,fun ν tmps hv=>?_⟩
    obtain ⟨v',h3,h4⟩:=h2 ν _ zv xt d hv ((hzv default).2 ν) (hp.und hu) hd (fun w=>(hzv w).1)
    exact ⟨v',h3,fun w=>by simp [execOp,ho,h4]⟩
  rw [hu] at e
  cases d<;>first | exact qg e | exact go e (fun _ h=>by cases h)
theorem zLH {pc:PC} (hp:PcOk P pc) {t:TypeId} {x:Operand} (ho:o.op=.range t x):OpS P pc fi ds o:=by
 have e:op pc fi ds o=op pc fi ds o:=rfl
 conv at e=>rhs;simp only [op,ho]
 cases hu:pc.und t with
 | none=>rw [hu] at e;exact OpS.bad e
 | some d =>
  rw [hu] at e
  cases d with
  | map j el =>
   simp only at e
   intro r tm le s k hnb
   rw [e,zdq] at hnb ⊢
   obtain ⟨u,h1,h2⟩:=qc fi ds x tm le _ hnb
   rw [←h1] at hnb ⊢
   cases u with
   | ref tt m =>
    unfold zm3 at hnb ⊢
    simp only at hnb ⊢
    cases ht:Nat.beq tt 0 with
    | false=>rw [ht] at hnb;exact absurd trivial hnb
    | true =>
     have ht:=kaa ht
     subst ht
     simp only [yy] at hnb ⊢
     cases hB:Tr.get B.none m s.h with
     | map es ck =>
      rw [hB] at hnb
      simp only at hnb ⊢
      cases hbo:j8 ck es with
      | false=>rw [hbo] at hnb;exact absurd trivial hnb
      | true =>
       simp only [hbo,zdy] at hnb ⊢
       refine ⟨.ptr s.nx 0 0,_,rfl,fun n0 w0 ν w tmps hst hG hf=>?_⟩
       obtain ⟨mb,v1,v2⟩:=h2 ν tmps hG (hf x (by simp [ho,Op.operands]))
       obtain ⟨hn,_⟩:=hst.fresh s.nx (kab _)
       have hne:m≠s.nx:=by intro e;subst e;rw [hn] at v1;cases v1
       obtain ⟨es',q3,q4⟩:=zgS hst.rows hB v1
       have hst2:=zhl hst (.mit m es ck es none) (fun v b δ h=>(by rw [hn] at h;cases h))
       have hsize:n0≤w.heap.size:=kar hst.n0le hst.below.size
       refine ⟨ν.add s.nx 0 w.heap.size 0 0,.pointer (some ⟨w.heap.size,0,none⟩),w.alloc (.mapIter (some mb) ck #[] ck),⟨Val.le_add hn,?_,by show _≤s.nx.succ.toNat;rw [K.toNat_succ];omega,fun a ha hlt=>?_⟩,zz6 Val.add_self,.inl ?_⟩
       ·refine zeC hst2 s.nx hn (by show _<s.nx.succ.toNat;rw [K.toNat_succ];omega) 0 0 0 (zcG _ _) (fun k hk=>Below.heap_alloc w _ k hk) (hst.below.alloc hsize _) ?_
        have hg:Tr.get B.none s.nx (Tr.set B.none (.mit m es ck es none) s.nx s.h)=.mit m es ck es none:=by rw [get_set,if_pos rfl]
        rw [hg]
        intro v b δ hb
        obtain ⟨g1,g2⟩:=Val.add_only hn hb
        simp only [Prod.mk.injEq] at g2
        obtain ⟨rfl,rfl⟩:=g2
        refine ⟨g1,rfl,mb,#[],ck,by rw [Val.add_other hne];exact v1,zaW _ _,hbo,rfl,List.Sublist.refl _,fun e he=>?_,fun e he=>by cases he⟩
        have:(es.any fun x=>x.born == e.born)=true:=List.any_eq_true.2 ⟨e,he,by simp⟩
        simp [this]
       ·have hne2:a≠s.nx:=by intro e;subst e;omega
        exact ⟨fun u=>by rw [Val.add_other hne2];exact ha u,.inl (by simp only [get_set,if_neg hne2])⟩
       ·simp [execOp,ho,v2,Instr.range,zy (hp.und hu),yR q3]
     | _=>rw [hB] at hnb;exact absurd trivial hnb
   | _=>exact absurd trivial hnb
  | _=>exact OpS.bad e
theorem bq {a:Nat} (h:Nat.beq a b=true):a=b:=kaa h
theorem zfx:∀ (a b:V),yS a b=true→a=b:=by
 refine V.rec (motive_1:=fun a=>∀ b,yS a b=true→a=b) (motive_2:=fun l=>∀ m,yS (.ls 0 l) (.ls 0 m)=true→l=m) ?_ ?_ ?_ ?_ ?_ ?_ ?_ ?_ ?_ ?_ ?_ ?_ ?_ ?_ ?_
 ·intro b h;cases h
 ·intro k n b h
  cases b<;>first | (cases h;done) | skip
  obtain ⟨h1,h2⟩:=zh h
  rw [(qU _ _).1 h1,bq h2]
 ·intro k n b h
  cases b<;>first | (cases h;done) | skip
  obtain ⟨h1,h2⟩:=zh h
  rw [(qU _ _).1 h1,bq h2]
 ·intro x b h
  cases b<;>first | (cases h;done) | skip
  rename_i y
  cases x<;>cases y<;>first | rfl | cases h
 ·intro x b h
  cases b<;>first | (cases h;done) | skip
  rw [(zm6 _ _).1 h]
 ·intro a v o b h
  cases b<;>first | (cases h;done) | skip
  obtain ⟨h1,h2⟩:=zh h
  obtain ⟨h2,h3⟩:=zh h2
  rw [(K.beq_iff _ _).1 h1,bq h2,bq h3]
 ·intro a v o l c b h
  cases b<;>first | (cases h;done) | skip
  obtain ⟨h1,h2⟩:=zh h
  obtain ⟨h2,h3⟩:=zh h2
  obtain ⟨h3,h4⟩:=zh h3
  obtain ⟨h4,h5⟩:=zh h4
  rw [(K.beq_iff _ _).1 h1,bq h2,bq h3,bq h4,bq h5]
 ·intro a v o l c b h
  cases b<;>first | (cases h;done) | skip
  obtain ⟨h1,h2⟩:=zh h
  obtain ⟨h2,h3⟩:=zh h2
  obtain ⟨h3,h4⟩:=zh h3
  obtain ⟨h4,h5⟩:=zh h4
  rw [(K.beq_iff _ _).1 h1,bq h2,bq h3,bq h4,bq h5]
 ·intro t b h
  cases b<;>first | (cases h;done) | skip
  rw [bq h]
 ·intro t a b h
  cases b<;>first | (cases h;done) | skip
  obtain ⟨h1,h2⟩:=zh h
  rw [bq h1,(K.beq_iff _ _).1 h2]
 ·intro t l ih b h
  cases b<;>first | (cases h;done) | skip
  obtain ⟨h1,h2⟩:=zh h
  rw [bq h1,ih _ h2]
 ·intro f a b ih1 ih2 c h
  cases c<;>first | (cases h;done) | skip
  rename_i g x y
  obtain ⟨h1,h2⟩:=zh h
  obtain ⟨h2,h3⟩:=zh h2
  rw [ih1 _ h2,ih2 _ h3]
  cases f<;>cases g<;>first | (cases h1;done) | rw [bq h1]
 ·intro t v ih b h
  cases b<;>first | (cases h;done) | skip
  obtain ⟨h1,h2⟩:=zh h
  rw [bq h1,ih _ h2]
 ·intro m h
  cases m with
  | nil=>rfl
  | cons y m=>cases h
 ·intro x l ih1 ih2 m h
  cases m with
  | nil=>cases h
  | cons y m =>
   have h':zq (yS x y) (yS (.ls 0 l) (.ls 0 m))=true:=h
   obtain ⟨h1,h2⟩:=zh h'
   rw [ih1 _ h1,ih2 _ h2]
theorem zCp:∀ {a b:List V},(∀ x∈a,∀ y,yS x y=true→x=y)→zj4 a b=true→a=b
 | [],[],_,_=>rfl
 | [],_::_,_,h=>by cases h
 | x::a,[],_,h=>by cases h
 | x::a,y::b,hx,h=>by
  have e:zj4 (x::a) (y::b)=zq (yS x y) (zj4 a b):=rfl
  rw [e] at h
  obtain ⟨h1,h2⟩:=zh h
  rw [hx x (by simp) y h1,zCp (fun z hz=>hx z (by simp [hz])) h2]
theorem zCv {a b:List V} (h:zj4 a b=true):a=b:=zCp (fun x _ y=>zfx x y) h
theorem zhW:∀ {a b:List ME},zcw a b=true→a=b
 | [],[],_=>rfl
 | [],_::_,h=>by cases h
 | x::a,[],h=>by cases h
 | x::a,y::b,h=>by
  have e:zcw (x::a) (y::b)=zq (zOy x y) (zcw a b):=rfl
  rw [e] at h
  obtain ⟨h1,h2⟩:=zh h
  rw [zhW h2]
  obtain ⟨k,v,n⟩:=x
  obtain ⟨k',v',n'⟩:=y
  obtain ⟨h3,h4⟩:=zh h1
  obtain ⟨h4,h5⟩:=zh h4
  rw [bq h3,zfx _ _ h4,zfx _ _ h5]
theorem zHW {pc:PC} (hp:PcOk P pc) {j:TypeId} (hk:zaz (pc.eqKind j)=true) {key zero:V} {ck:Nat}:∀ {es:List ME} {c:V→Nat→List ME→Bool→A},¬(zzp (pc.eqKind j) key zero ck es c).isBad→∃ v n l' b,c v n l' b=zzp (pc.eqKind j) key zero ck es c ∧
  ∀ (ν:Val) (k z:Value) (es':List MapEntry),VR ν key k→VR ν zero z→MRs ν es es'→∀ i,∃ r',(∀ w,(Instr.findAsking j k es' i).run P w=.ok r' w) ∧
   match r' with
   | none=>b=true∧n=ck∧v=zero∧MRs ν l' (es'++[⟨k,z,ck⟩])
   | some (m,y)=>b=false∧i≤m∧VR ν v y∧∃ e,es'[m - i]?=some e∧e.born=n∧Instr.sameBits 10000 e.key k=true∧MRs ν l' (es'.set (m - i) ⟨k,e.val,e.born⟩)
 | [],c,_=>⟨zero,ck,[⟨key,zero,ck⟩],true,rfl,fun ν k z es' h1 h2 he i=>⟨none,fun w=>by simp only [MRs] at he;subst he;rfl,rfl,rfl,rfl,by simp only [MRs] at he;subst he;exact ⟨_,[],rfl,⟨h1,h2,rfl⟩,rfl⟩⟩⟩
 | e::es,c,hnb=>by
  have eq:zzp (pc.eqKind j) key zero ck (e::es) c=(match eqV (pc.eqKind j) false key e.key with | some true=>c e.val e.born (⟨key,e.val,e.born⟩::es) false | some false=>zzp (pc.eqKind j) key zero ck es (fun v n l b=>c v n (e::l) b) | none=>.bad 0):=rfl
  rw [eq] at hnb ⊢
  cases hq:eqV (pc.eqKind j) false key e.key with
  | none=>rw [hq] at hnb;exact absurd trivial hnb
  | some b =>
   rw [hq] at hnb
   cases b with
   | true =>
    refine ⟨_,_,_,_,rfl,fun ν k z es' h1 h2 he i=>?_⟩
    obtain ⟨x,r,e1,⟨m1,m2,m3⟩,h3⟩:=he
    subst e1
    obtain ⟨h4,_⟩:=zgx hp hq h1 m1
    refine ⟨some (i,x.val),fun w=>by simp [Instr.findAsking,h4 w],rfl,kab _,m2,x,by simp,m3.symm,zBC hp hk hq h1 m1,?_⟩
    simp only [Nat.sub_self,List.set_cons_zero]
    exact ⟨_,_,rfl,⟨h1,m2,m3⟩,h3⟩
   | false =>
    obtain ⟨v0,n0,l0,b0,h0,h1⟩:=zHW hp hk hnb
    refine ⟨v0,n0,e::l0,b0,h0,fun ν k z es' hk1 hv he i=>?_⟩
    obtain ⟨x,r,e1,⟨m1,m2,m3⟩,h3⟩:=he
    subst e1
    obtain ⟨h4,_⟩:=zgx hp hq hk1 m1
    obtain ⟨r',h5,h6⟩:=h1 ν k z r hk1 hv h3 (i+1)
    refine ⟨r',fun w=>by simp [Instr.findAsking,h4 w,h5 w],?_⟩
    cases r' with
    | none=>exact ⟨h6.1,h6.2.1,h6.2.2.1,⟨x,_,rfl,⟨m1,m2,m3⟩,h6.2.2.2⟩⟩
    | some p =>
     obtain ⟨q1,q2,q3,e',q4,q5,q6,q7⟩:=h6
     refine ⟨q1,by omega,q3,e',?_,q5,q6,?_⟩
     ·rw [show p.1 - i=(p.1 - (i+1))+1 by omega];simpa using q4
     ·rw [show p.1 - i=(p.1 - (i+1))+1 by omega,List.set_cons_succ]
      exact ⟨x,_,rfl,⟨m1,m2,m3⟩,q7⟩
variable {es:List ME} {ck:Nat}
theorem map_set {n0:Nat} {w0 w:World} (hst:St P n0 w0 ν s w) {l':List ME} {ck2 b0:Nat} {es2:Array MapEntry} (hB:Tr.get B.none a s.h=.map es ck) (v1:ν.blk a 0=some (b0,0)) (hm:MRs ν l' es2.toList) :
  St P n0 w0 ν ⟨Tr.set B.none (.map l' ck2) a s.h,s.nx⟩ { w with heap:=w.heap.setIfInBounds b0 (.map es2 ck2) }:=by
 have hlive:(Tr.get B.none a s.h).live:=by rw [hB];trivial
 have hnl:¬zpJ (Tr.get B.none a s.h):=by rw [hB];exact fun h=>h
 have hv:∀ v p,ν.blk a v=some p→v=0:=by
  intro v p hvp
  have:=hst.rows a
  rw [hB] at this
  exact (this v p.1 p.2 hvp).1
 refine ziv hst v1 hlive hnl hv (B':=.map l' ck2) (o:=.map es2 ck2) (fun h=>h) (fun w' hw'=>?_)
 intro v b' δ' hb'
 have hv0:=hv v _ hb'
 subst hv0
 rw [v1] at hb'
 simp only [Option.some.injEq,Prod.mk.injEq] at hb'
 rw [←hb'.1]
 exact ⟨rfl,es2,hw',hm⟩
variable {y:Value}
theorem VR.two {v u:V} {z:Value} (h:VR ν v y) (k:VR ν u z):VR ν (.ls 1 [v,u]) (.tuple #[y,z]):=⟨[y,z],⟨y,_,rfl,h,z,_,rfl,k,rfl⟩,rfl⟩
variable {m:Operand}
theorem zCT {pc:PC} (hp:PcOk P pc) {t:TypeId} {kx:Operand} (ho:o.op=.mapEntry t m kx):OpS P pc fi ds o:=by
 have e:op pc fi ds o=op pc fi ds o:=rfl
 conv at e=>rhs;simp only [op,ho]
 cases hu:pc.und t with
 | none=>rw [hu] at e;exact OpS.bad e
 | some d =>
  rw [hu] at e
  cases d with
  | map j el =>
   simp only [zCL] at e
   rcases zac (zaz (pc.eqKind j)) (zX 0) _ with h | ⟨hk,h⟩
   ·exact OpS.bad (e.trans h)
   ·rw [h] at e
    obtain ⟨dj,hdj⟩:=zjD hp hk
    by_cases hz:pc.zero el=.bad
    ·rw [hz] at e;exact OpS.bad e
    ·have e:op pc fi ds o=bi fi ds m kx (fun m k s c=>zaa (pc.eqKind j) (pc.zero el) m k s c):=by
      rw [e]
      cases hz':pc.zero el<;>first | exact absurd hz' hz | rfl
     obtain ⟨zv,hzv⟩:=PC.zero_ok hp hz
     intro r tm le s k hnb
     rw [e,zd2] at hnb ⊢
     obtain ⟨u1,h1,h2⟩:=qc fi ds m tm le _ hnb
     rw [←h1] at hnb ⊢
     obtain ⟨u2,h3,h4⟩:=qc fi ds kx tm le _ hnb
     rw [←h3] at hnb ⊢
     unfold zaa at hnb ⊢
     obtain ⟨q1,q2⟩:=zzw hp hk hnb
     rw [q1] at hnb ⊢
     cases u1 with
     | ref n a =>
      simp only at hnb ⊢
      cases ht:Nat.beq n 0 with
      | false=>rw [ht] at hnb;exact absurd trivial hnb
      | true =>
       have:=kaa ht
       subst this
       simp only [ht,yy] at hnb ⊢
       cases hB:Tr.get B.none a s.h with
       | map es ck =>
        rw [hB] at hnb
        simp only [zH,qp] at hnb ⊢
        obtain ⟨v,nn,l',b,g1,g2⟩:=zHW hp hk hnb
        rw [←g1] at hnb ⊢
        refine ⟨_,_,rfl,fun n0 w0 ν w tmps hst hG hf=>?_⟩
        obtain ⟨b0,v1,v2⟩:=h2 ν tmps hG (hf m (by simp [ho,Op.operands]))
        have v3:=h4 ν tmps hG (hf kx (by simp [ho,Op.operands]))
        obtain ⟨es',q3,q4⟩:=zgS hst.rows hB v1
        obtain ⟨r',q5,q6⟩:=g2 ν _ zv es'.toList v3 ((hzv w).2 ν) q4 0
        have q7:=zgT hdj _ es'.toList w (q5 w)
        cases r' with
        | none =>
         obtain ⟨p1,p2,p3,p4⟩:=q6
         subst p1 p2 p3
         refine ⟨ν,.tuple #[zv,.int .i64 (Int.ofNat nn)],_,Out.write (map_set hst hB v1 (es2:=es'.push ⟨ev tmps kx,zv,nn⟩) (by simpa using p4)) rfl (wH v1 _),VR.two ((hzv w).2 ν) rfl,.inl ?_⟩
         simp [execOp,ho,Instr.mapEntry,zy (hp.und hu),v2,yR q3,q2 ν _ v3,q7,(hzv w).1,MapKept.run_setObj_map _ q3,goInt]
        | some p =>
         obtain ⟨p1,p2,p3,e0,p4,p5,p6,p7⟩:=q6
         subst p1
         simp only [Nat.sub_zero,kao] at p4 p7
         have hlt:p.1<es'.size:=(kaB.1 p4).1
         have hgete:es'[p.1]=e0:=(kaB.1 p4).2
         have hes2:(es'.modify p.1 fun e=>{ e with key:=ev tmps kx }).toList=es'.toList.set p.1 ⟨ev tmps kx,e0.val,e0.born⟩:=by
          apply kaG
          intro i
          rw [kao,Array.getElem?_modify,List.getElem?_set]
          by_cases hi:p.1=i
          ·subst hi;simp [hlt,hgete]
          ·simp [hi]
         refine ⟨ν,.tuple #[p.2,.int .i64 (Int.ofNat nn)],_,Out.write (map_set hst hB v1 (es2:=es'.modify p.1 fun e=>{ e with key:=ev tmps kx }) (by rw [hes2];exact p7)) rfl (wH v1 _),VR.two p3 rfl,.inl ?_⟩
         simp [execOp,ho,Instr.mapEntry,zy (hp.und hu),v2,yR q3,q2 ν _ v3,q7,Instr.keyThatStays,p4,p5,p6,MapKept.run_setObj_map _ q3,goInt]
       | _=>rw [hB] at hnb;exact absurd trivial hnb
     | _=>exact absurd trivial hnb
  | _=>exact OpS.bad e
theorem zG6 {n:Nat} {val:V}:∀ {es:List ME} {c:List ME→A},¬(zzt n val es c).isBad→∃ l',c l'=zzt n val es c∧∀ (ν:Val) (v:Value) (es':List MapEntry),VR ν val v→MRs ν es es' →
  ∃ i,es'.findIdx? (fun e=>(e.born:Int) == (n:Int))=some i∧MRs ν l' (es'.modify i fun e=>{ e with val:=v })
 | [],c,hnb=>absurd trivial hnb
 | e::es,c,hnb=>by
  have eq:zzt n val (e::es) c=(match Nat.beq e.born n with | true=>c (⟨e.key,val,e.born⟩::es) | false=>zzt n val es (fun l=>c (e::l))):=by
   show @Bool.rec (fun _=>A) _ _ (Nat.beq e.born n)=_
   cases Nat.beq e.born n<;>rfl
  rw [eq] at hnb ⊢
  cases hb:Nat.beq e.born n with
  | true =>
   have hb:=kaa hb
   refine ⟨_,rfl,fun ν v es' hv he=>?_⟩
   obtain ⟨x,r,e1,⟨m1,m2,m3⟩,h3⟩:=he
   subst e1
   refine ⟨0,?_,?_⟩
   ·rw [List.findIdx?_cons]
    have:((x.born:Int) == (n:Int))=true:=by rw [←m3,hb];simp
    rw [this];rfl
   ·exact ⟨_,_,rfl,⟨m1,hv,m3⟩,h3⟩
  | false =>
   rw [hb] at hnb
   have hne:e.born≠n:=fun h=>by rw [h] at hb;simp at hb
   obtain ⟨l',h1,h2⟩:=zG6 hnb
   refine ⟨e::l',h1,fun ν v es' hv he=>?_⟩
   obtain ⟨x,r,e1,⟨m1,m2,m3⟩,h3⟩:=he
   subst e1
   obtain ⟨i,h4,h5⟩:=h2 ν v r hv h3
   refine ⟨i+1,?_,?_⟩
   ·rw [List.findIdx?_cons]
    have:((x.born:Int) == (n:Int))=false:=by
     rw [←m3,beq_eq_false_iff_ne]
     intro h;exact hne (by exact_mod_cast h)
    rw [this,h4];rfl
   ·rw [List.modify_succ_cons]
    exact ⟨x,_,rfl,⟨m1,m2,m3⟩,h5⟩
theorem ztb {pc:PC} {t:TypeId} {n x:Operand} (ho:o.op=.entryStore t m n x):OpS P pc fi ds o:=by
 have e:op pc fi ds o=op pc fi ds o:=rfl
 conv at e=>rhs;simp only [op,ho]
 intro r tm le s k hnb
 have e2:(op pc fi ds o).run r tm le s k=(opd fi ds m).run tm le fun m=>(opd fi ds n).run tm le fun n=>(opd fi ds x).run tm le fun x=>wh m n x s k:=by rw [e]
 rw [e2] at hnb ⊢
 obtain ⟨u1,h1,h2⟩:=qc fi ds m tm le _ hnb
 rw [←h1] at hnb ⊢
 obtain ⟨u2,h3,h4⟩:=qc fi ds n tm le _ hnb
 rw [←h3] at hnb ⊢
 obtain ⟨u3,h5,h6⟩:=qc fi ds x tm le _ hnb
 rw [←h5] at hnb ⊢
 unfold wh at hnb ⊢
 cases u1 with
 | ref nn a =>
  simp only at hnb ⊢
  cases ht:Nat.beq nn 0 with
  | false=>rw [ht] at hnb;exact absurd trivial hnb
  | true =>
   have:=kaa ht
   subst this
   cases u2 with
   | nat kk st =>
    simp only [ht,yy] at hnb ⊢
    cases hB:Tr.get B.none a s.h with
    | map es ck =>
     rw [hB] at hnb
     simp only [qp] at hnb ⊢
     obtain ⟨l',g1,g2⟩:=zG6 hnb
     rw [←g1] at hnb ⊢
     refine ⟨undef,_,rfl,fun n0 w0 ν w tmps hst hG hf=>?_⟩
     obtain ⟨b0,v1,v2⟩:=h2 ν tmps hG (hf m (by simp [ho,Op.operands]))
     have v3:=h4 ν tmps hG (hf n (by simp [ho,Op.operands]))
     have v4:=h6 ν tmps hG (hf x (by simp [ho,Op.operands]))
     simp only [VR] at v3
     obtain ⟨es',q3,q4⟩:=zgS hst.rows hB v1
     obtain ⟨i,q5,q6⟩:=g2 ν _ es'.toList v4 q4
     have hmod:(es'.modify i fun e=>{ e with val:=ev tmps x }).toList=es'.toList.modify i (fun e=>{ e with val:=ev tmps x }):=by
      apply kaG
      intro q
      rw [kao,Array.getElem?_modify,List.getElem?_modify,kao]
      by_cases hq:i=q<;>simp [hq]
     have hfind:es'.findIdx? (fun e=>(e.born:Int) == (st:Int))=some i:=by rw [←q5];cases es';simp
     refine ⟨ν,Go.undef,_,Out.write (map_set hst hB v1 (es2:=es'.modify i fun e=>{ e with val:=ev tmps x }) (by rw [hmod];exact q6)) rfl (wH v1 _),VR.undef,.inr ⟨rfl,?_⟩⟩
     simp [execOp,ho,Instr.entryStore,v2,v3,yR q3,asInt,asIntOf,hfind,MapKept.run_setObj_map _ q3]
    | _=>rw [hB] at hnb;exact absurd trivial hnb
   | _=>exact absurd trivial hnb
 | _=>exact absurd trivial hnb
theorem zw6 {n:Nat}:∀ {l:List ME},zeH n l=true→∀ e∈l,e.born≠n
 | [],_,e,he=>by cases he
 | x::l,h,e,he=>by
  have eq:zeH n (x::l)=(match Nat.beq n x.born with | true=>false | false=>zeH n l):=by
   show @Bool.rec (fun _=>Bool) _ _ (Nat.beq n x.born)=_
   cases Nat.beq n x.born<;>rfl
  rw [eq] at h
  cases hb:Nat.beq n x.born with
  | true=>rw [hb] at h;cases h
  | false =>
   rw [hb] at h
   rcases kaj.1 he with rfl | he
   ·intro e;rw [e] at hb;simp at hb
   ·exact zw6 h e he
theorem zau {x:ME} {l:List ME} (h:j8 ck (x::l)=true):x.born<ck∧(∀ e∈l,e.born≠x.born)∧j8 ck l=true:=by
 have eq:j8 ck (x::l)=zq (Nat.blt x.born ck) (zq (zeH x.born l) (j8 ck l)):=rfl
 rw [eq] at h
 obtain ⟨h1,h2⟩:=zh h
 obtain ⟨h2,h3⟩:=zh h2
 exact ⟨by simpa [Nat.blt_eq] using h1,zw6 h2,h3⟩
theorem zGG {ck:Nat}:∀ {l:List ME},j8 ck l=true→∀ e∈l,e.born<ck
 | [],_,e,he=>by cases he
 | x::l,h,e,he=>by
  obtain ⟨h1,_,h3⟩:=zau h
  rcases kaj.1 he with rfl | he
  ·exact h1
  ·exact zGG h3 e he
theorem zuI {ν:Val} {ck:Nat}:∀ {es:List ME} {es':List MapEntry},j8 ck es=true→MRs ν es es'→∀ e∈es,∃ x,es'.find? (fun y=>y.born == e.born)=some x∧MR ν e x
 | [],_,_,_,e,he=>by cases he
 | y::es,_,h,⟨x,r,e1,m,h3⟩,e,he=>by
  subst e1
  obtain ⟨h1,h2,h4⟩:=zau h
  rw [List.find?_cons]
  rcases kaj.1 he with rfl | he
  ·have:(x.born == e.born)=true:=by rw [m.2.2];simp
   rw [this]
   exact ⟨x,rfl,m⟩
  ·have:(x.born == e.born)=false:=by rw [←m.2.2,beq_eq_false_iff_ne];exact fun h=>h2 e he h.symm
   rw [this]
   exact zuI h4 h3 e he
theorem zzC {n0:Nat} {w0 w:World} (hst:St P n0 w0 ν s w) {m:K} {rest:List ME} {cur:Option ME} (hB:Tr.get B.none a s.h=.mit m es ck rest cur) (hM:Tr.get B.none m s.h=.map es ck) (hy:VR ν (.ptr a v 0) y) :
  ∃ b mb seen last es',v=0∧ν.blk a 0=some (b,0)∧y=.pointer (some ⟨b,0,none⟩)∧w.heap[b]?=some (.mapIter (some mb) ck seen last)∧zNe es ck rest cur seen last∧ν.blk m 0=some (mb,0)∧w.heap[mb]?=some (.map es' ck)∧MRs ν es es'.toList:=by
 obtain ⟨b,δ,h1,h2⟩:=hy
 have hr:=hst.rows a
 rw [hB] at hr
 obtain ⟨q1,q2,mb,seen,last,q3,q4,q5⟩:=hr v b δ h1
 subst q1 q2
 obtain ⟨es',q6,q7⟩:=zgS hst.rows hM q3
 exact ⟨b,mb,seen,last,es',rfl,h1,by rw [h2],q4,q5,q3,q6,q7⟩
theorem zDg {w:World} {last:Nat} {m:Option Nat} {seen:Array Nat} (h:w.heap[b]?=some (.mapIter m ck seen last)):(getObj b).run P w=.ok (.mapIter m ck seen last) w:=by simp [getObj,Sem.run,h]
theorem zFN {pc:PC} {x:Operand} (ho:o.op=.entry x):OpS P pc fi ds o:=by
 have e:op pc fi ds o=un fi ds x (fun x s k=>zoY x s fun v=>k v s):=by simp only [op,ho]
 intro r tm le s k hnb
 rw [e,zdq] at hnb ⊢
 obtain ⟨u,h1,h2⟩:=qc fi ds x tm le _ hnb
 rw [←h1] at hnb ⊢
 cases u with
 | ptr a v off =>
  unfold zoY at hnb ⊢
  simp only at hnb ⊢
  cases hoff:Nat.beq off 0 with
  | false=>rw [hoff] at hnb;exact absurd trivial hnb
  | true =>
   have hoff:=kaa hoff
   subst hoff
   simp only [yy] at hnb ⊢
   cases hB:Tr.get B.none a s.h with
   | mit m es ck rest cur =>
    rw [hB] at hnb
    simp only at hnb ⊢
    cases hM:Tr.get B.none m s.h with
    | map es' ck' =>
     rw [hM] at hnb
     simp only at hnb ⊢
     cases hc:zq (Nat.beq ck ck') (zcw es es') with
     | false=>rw [hc] at hnb;exact absurd trivial hnb
     | true =>
      obtain ⟨c1,c2⟩:=zh hc
      have c1:=kaa c1
      have c2:=zhW c2
      subst c1 c2
      simp only [hc] at hnb ⊢
      cases cur with
      | none=>exact absurd trivial hnb
      | some e0 =>
       simp only at hnb ⊢
       refine ⟨_,s,rfl,fun n0 w0 ν w tmps hst hG hf=>?_⟩
       obtain ⟨b,mb,seen,last,es',g1,g2,g3,g4,⟨i1,i2,i3,i4,i5⟩,g5,g6,g7⟩:=zzC hst hB hM (h2 ν tmps hG (hf x (by simp [ho,Op.operands])))
       obtain ⟨j1,j2,j3⟩:=i5 e0 rfl
       obtain ⟨y,k1,k2⟩:=zuI i1 g7 e0 j1
       have k3:es'.find? (fun y=>y.born == e0.born)=some y:=by rw [←k1];simp
       subst j3
       refine ⟨ν,.tuple #[y.key,y.val],w,Out.refl hst,VR.two k2.1 k2.2.1,.inl ?_⟩
       simp [execOp,ho,Instr.entry,g3,zDg g4,j2,yR g6,k3]
    | _=>rw [hM] at hnb;exact absurd trivial hnb
   | _=>rw [hB] at hnb;exact absurd trivial hnb
 | _=>exact absurd trivial hnb
end Go.Ev
