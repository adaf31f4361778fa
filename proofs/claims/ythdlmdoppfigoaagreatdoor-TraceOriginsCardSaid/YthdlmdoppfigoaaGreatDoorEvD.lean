/- The evaluator is right on new blocks, stores, maps, append, copy, clear. No statement of the seat stands here. No condition. By an AI agent. -/
import Derived.Test.YthdlmdoppfigoaaGreatDoorEvC
namespace Go.Ev
open Go.RowKit
variable {P:Program}
def qE (P:Program) (pc:PC) (fi:FI) (ds:List Nat) (o:Oper):Prop:=∀ r N le s k,¬((op pc fi ds o).run r N le s k).isBad →
 ∃ v b,k v ⟨Tr.set B.none b s.nx s.h,s.nx.succ⟩=(op pc fi ds o).run r N le s k∧(∀ L w,(∀ u,L.blk s.nx u=none)→BR P L w s.nx b) ∧
  ∀ n0 w0 L D H w,St P n0 w0 L H w→yn L fi.ng→zfS L fi ds N le D o→(∀ u,L.blk s.nx u=none)→s.nx.toNat<H.nx.toNat→(Tr.get B.none s.nx H.h=b∨Tr.get B.none s.nx H.h=.none) →
   ∃ W y A,L.le W∧St P n0 w0 W H A∧(∀ a,a≠s.nx→∀ u,W.blk a u=L.blk a u)∧VR W v y∧(execOp (ev D) o).run P w=.ok (.value y) A
def zDT (P:Program) (x:Sem Next) (w:World) (y:Value) (w':World):Prop:=x.run P w=.ok (.value y) w'∨(y=Go.undef∧x.run P w=.ok .skip w')
def OpS (P:Program) (pc:PC) (fi:FI) (ds:List Nat) (o:Oper):Prop:=∀ r N le s k,¬((op pc fi ds o).run r N le s k).isBad →
 ∃ v U,k v U=(op pc fi ds o).run r N le s k∧∀ n0 w0 L w D,St P n0 w0 L s w→yn L fi.ng→zfS L fi ds N le D o →
  ∃ W y A,Out P n0 w0 L s W U A∧VR W v y∧zDT P (execOp (ev D) o) w y A
variable {fi:FI} {m:Nat} {o:Oper}
theorem OpS.bad {pc:PC} {ds:List Nat} (h:op pc fi ds o=zO m):OpS P pc fi ds o:=fun r N le s k G=>by rw [h] at G;exact absurd trivial G
theorem qE.bad {pc:PC} {ds:List Nat} (h:op pc fi ds o=zO m):qE P pc fi ds o:=fun r N le s k G=>by rw [h] at G;exact absurd trivial G
theorem wi.op {pc:PC} {ds:List Nat} (h:wi P pc fi ds o):OpS P pc fi ds o:=fun r N le s k G=>by
 obtain ⟨v,I,J⟩:=h r N le s k G
 refine ⟨v,s,I,fun n0 w0 L w D Y O B=>?_⟩
 obtain ⟨y,Q,K⟩:=J L w D ⟨Y.rows,Y.sep⟩ O B
 exact ⟨L,y,w,Out.refl Y,Q,.inl K⟩
theorem qE.op {pc:PC} {ds:List Nat} (h:qE P pc fi ds o):OpS P pc fi ds o:=fun r N le s k G=>by
 obtain ⟨v,b,I,J,Q⟩:=h r N le s k G
 refine ⟨v,_,I,fun n0 w0 L w D Y E B=>?_⟩
 obtain ⟨j,_⟩:=Y.fresh s.nx (kad _)
 have c:=ziP Y b (J L w j)
 obtain ⟨W,y,A,R,U,g,p,F⟩:=Q n0 w0 L D _ w c E B j (by show _<s.nx.succ.toNat;rw [K.toNat_succ];omega) (.inl (by simp only [get_set,if_true]))
 refine ⟨W,y,A,⟨R,U,by show _≤s.nx.succ.toNat;rw [K.toNat_succ];omega,fun a l O=>?_⟩,p,.inl F⟩
 have Z:a≠s.nx:=by intro e;subst e;omega
 exact ⟨fun u=>by rw [g a Z u];exact l u,.inl (by simp only [get_set,if_neg Z])⟩
theorem zcE (w:World) (o:Obj):w.heap.size<(w.alloc o).heap.size:=by show _<(w.heap.push o).size;rw [Array.size_push];omega
theorem zaR (w:World) (o:Obj):(w.alloc o).heap[w.heap.size]?=some o:=by show (w.heap.push o)[w.heap.size]?=_;rw [Array.getElem?_push,if_pos rfl]
variable {s:S} {ν:Val}
theorem zrh {n0:Nat} {w0 w:World} (Y:St P n0 w0 ν s w) (a:K) (U:∀ v,ν.blk a v=none) (O:a.toNat<s.nx.toNat) (l:List V) (el:Nat)
  (L:Tr.get B.none a s.h=.row l l.length el false 0 0 0∨Tr.get B.none a s.h=.none) (c:Array Value) (o:VRs ν l c.toList) (E:∀ y∈c.toList,y.oneCell'=true) :
  St P n0 w0 (ν.add a 0 w.heap.size 0 (P.cellsOf el)) s (w.alloc (.cells c el)):=by
 have Q:n0≤w.heap.size:=kaB Y.n0le Y.below.size
 have R:∀ k,k<w.heap.size→(w.alloc (.cells c el)).heap[k]?=w.heap[k]?:=fun k F=>Below.heap_alloc w _ k F
 have hb:=Y.below.alloc Q (.cells c el)
 rcases L with h | h
 ·exact zqk Y a U O l el false 0 h c c.toList o (fun i y d=>by simpa using d) E (fun g=>by cases g) (zcE _ _) R hb (zaR _ _)
 ·exact zef Y a U O 0 0 _ (zcE _ _) R hb (by rw [h];trivial)
variable {l:List V}
theorem zcd {el:Nat} {D:Bool} {c:K→Nat→S→A}:newRow s el l D c=c s.nx l.length ⟨Tr.set B.none (.row l l.length el D 0 0 0) s.nx s.h,s.nx.succ⟩:=by
 unfold newRow;rw [yy,zfc]
variable {le:List V} {tm:T}
theorem zfb {pc:PC} {ds:List Nat} {r:R} {k:V→S→A} {el:Nat} {v:V}
  (e:k v ⟨Tr.set B.none (.row l l.length el false 0 0 0) s.nx s.h,s.nx.succ⟩=(op pc fi ds o).run r tm le s k)
  (h:∀ (ν:Val) (tmps:Array Value),yn ν fi.ng→zfS ν fi ds tm le tmps o→∃ c:Array Value,VRs ν l c.toList∧(∀ y∈c.toList,y.oneCell'=true) ∧
   ∀ w,∃ y,(∀ W,W.blk s.nx 0=some (w.heap.size,0)→VR W v y)∧(execOp (ev tmps) o).run P w=.ok (.value y) (w.alloc (.cells c el))) :
  ∃ v b,k v ⟨Tr.set B.none b s.nx s.h,s.nx.succ⟩=(op pc fi ds o).run r tm le s k∧(∀ ν w,(∀ u,ν.blk s.nx u=none)→BR P ν w s.nx b) ∧
  ∀ n0 w0 ν tmps H w,St P n0 w0 ν H w→yn ν fi.ng→zfS ν fi ds tm le tmps o→(∀ u,ν.blk s.nx u=none)→s.nx.toNat<H.nx.toNat→(Tr.get B.none s.nx H.h=b∨Tr.get B.none s.nx H.h=.none) →
   ∃ W y w',ν.le W∧St P n0 w0 W H w'∧(∀ a,a≠s.nx→∀ u,W.blk a u=ν.blk a u)∧VR W v y∧(execOp (ev tmps) o).run P w=.ok (.value y) w':=by
 refine ⟨v,_,e,fun ν w j=>BR.newRow j l el false,fun n0 w0 ν tmps H w Y E F j O Z=>?_⟩
 obtain ⟨c,I,J,Q⟩:=h ν tmps E F
 obtain ⟨y,K,d⟩:=Q w
 exact ⟨_,y,_,Val.le_add j,zrh Y s.nx j O l el Z c I J,fun a U u=>Val.add_other U,K _ Val.add_self,d⟩
theorem zjl (el:TypeId) (z:Value) (w:World):(newVar el z).run P w=.ok ⟨w.heap.size,0,none⟩ (w.alloc (.cells z.cells el)):=by simp [newVar,Go.newRow]
theorem wF (el:TypeId) (c:Array Value) (w:World):(Go.newRow el c).run P w=.ok ⟨w.heap.size,0,none⟩ (w.alloc (.cells c el)):=by simp [Go.newRow]
variable {b:Nat}
theorem zov {a:K} (h:ν.blk a 0=some (b,0)):VR ν (.ptr a 0 0) (.pointer (some ⟨b,0,none⟩)):=⟨b,0,h,rfl⟩
theorem zh8 {pc:PC} (Z:PcOk P pc) {ds:List Nat} {el:TypeId} (C:o.op=.alloc el):qE P pc fi ds o:=by
 have e:op pc fi ds o=op pc fi ds o:=rfl
 conv at e=>rhs;simp only [op,C]
 rcases PC.zc_or Z el (zO 0) _ with h | ⟨zc,h,z,hz,q,T⟩
 ·exact qE.bad (e.trans h)
 ·rw [h] at e
  simp only [zE] at e
  intro r N le s k G
  refine zfb (l:=zc) (el:=el) (v:=.ptr s.nx 0 0) (by rw [e];exact (zcd (c:=fun a _ s=>k (.ptr a 0 0) s)).symm) (fun L D _ _=>⟨z.cells,q L,T,fun w=>⟨_,fun W h=>zov h,?_⟩⟩)
  simp [execOp,C,Instr.alloc,hz,zjl]
theorem zmp {pc:PC} {ds:List Nat} {el:TypeId} {x:Operand} (C:o.op=.box el x):qE P pc fi ds o:=by
 have e:op pc fi ds o=op pc fi ds o:=rfl
 conv at e=>rhs;simp only [op,C]
 rcases PC.sz_or pc el (zO 0) _ with h | ⟨i,hi,h⟩
 ·exact qE.bad (e.trans h)
 ·rw [h] at e
  simp only [zE] at e
  intro r N le s k G
  rw [e,zbX] at G
  obtain ⟨u,I,J⟩:=qf fi ds x N le _ G
  rw [←I] at G
  obtain ⟨xs,Q,K,d⟩:=zht G
  refine zfb (l:=xs) (el:=el) (v:=.ptr s.nx 0 0) (by rw [e,zbX,←I,←Q,zcd]) (fun L D O B=>?_)
  obtain ⟨R,U⟩:=d L _ (J L D O (B x (by simp [C,Op.operands])))
  refine ⟨_,R,U,fun w=>⟨_,fun W h=>zov h,?_⟩⟩
  simp [execOp,C,Instr.box,zjl]
theorem zhL {z:Array Value} {n:Nat}:((Array.range (n*z.size)).map (fun i=>z[i % z.size]!)).toList=(List.range n).flatMap fun _=>z.toList:=by
 induction n with
 | zero=>simp
 | succ n X =>
  rw [List.range_succ,List.flatMap_append,←X]
  have e:(n+1)*z.size=n*z.size+z.size:=Nat.succ_mul _ _
  simp only [Array.toList_map,Array.toList_range,e,List.range_add,kaN,List.map_map,List.flatMap_cons,List.flatMap_nil,List.append_nil]
  congr 1
  apply List.ext_getElem
  ·simp
  ·intro i I J
   simp at I J
   have:(n*z.size+i) % z.size=i:=by rw [Nat.add_comm,Nat.add_mul_mod_self_right,Nat.mod_eq_of_lt I]
   simp [this,I]
theorem zgG {ν:Val} {l:List V} {c:List Value} (h:VRs ν l c):∀ n,VRs ν (rep l n) ((List.range n).flatMap fun _=>c)
 | 0=>rfl
 | n+1=>by
  have:(List.range (n+1)).flatMap (fun _=>c)=c++(List.range n).flatMap fun _=>c:=by
   rw [List.range_succ_eq_map,List.flatMap_cons,List.flatMap_map]
  rw [this]
  exact h.append (zgG h n)
theorem znZ {c:List Value} {n:Nat} (h:∀ y∈c,y.oneCell'=true):∀ y∈(List.range n).flatMap (fun _=>c),y.oneCell'=true:=by
 intro y Y
 rw [List.mem_flatMap] at Y
 obtain ⟨_,_,Y⟩:=Y
 exact h y Y
theorem zb5 {pc:PC} (Z:PcOk P pc) {ds:List Nat} {t:TypeId} {len:Nat} {parts:Array (Nat × Operand)} (C:o.op=.buildSlice t len parts):qE P pc fi ds o:=by
 have e:op pc fi ds o=op pc fi ds o:=rfl
 conv at e=>rhs;simp only [op,C]
 cases hu:pc.und t with
 | none=>rw [hu] at e;exact qE.bad e
 | some d =>
  rw [hu] at e
  cases d with
  | slice el =>
   simp only at e
   rcases PC.sz_or pc el (zO 0) _ with h | ⟨i,hi,h⟩
   ·exact qE.bad (e.trans h)
   ·rw [h] at e
    rcases PC.zc_or Z el (zO 0) _ with h | ⟨zc,h,z,hz,q,T⟩
    ·exact qE.bad (e.trans h)
    ·rw [h] at e
     rcases zbd (Nat.beq (zk5 zc) i.size && Nat.ble (len*i.size) 16777216) (zO 0) _ with h | ⟨X,h⟩
     ·exact qE.bad (e.trans h)
     ·rw [h] at e
      simp only [zE,zg1] at e
      rw [kaf] at X
      have I:zc.length=i.size:=by rw [←ziL];exact kac X.1
      have u:len*i.size≤16777216:=kax.mp X.2
      have A:(rep zc len).length=len*i.size:=by rw [zjg,I]
      intro r N le s k G
      have M:(op pc fi ds o).run r N le s k=(paC fi ds (len*i.size) (fun j=>some (j*i.size,i.size)) parts.toList).run N le (rep zc len) fun l=>newRow s el l false fun a _ s=>k (.sl a 0 0 len len) s:=by rw [e]
      rw [M] at G
      obtain ⟨out,R,U,g⟩:=zr7 _ N le (rep zc len) _ A G
      refine zfb (l:=out) (el:=el) (v:=.sl s.nx 0 0 len len) (by rw [M,←R,zcd]) (fun L D O B=>?_)
      have F:z.cells.size=i.size:=by have:=(q L).length;simp at this;omega
      have H:((Array.range (len*z.cells.size)).map (fun i=>z.cells[i % z.cells.size]!)).toList=(List.range len).flatMap fun _=>z.cells.toList:=zhL
      rw [F] at H
      obtain ⟨cells',E,K,Y⟩:=g L D ((Array.range (len*i.size)).map (fun i=>z.cells[i % z.cells.size]!)) O (fun p Z=>B p.2 (by simp [C,Op.operands];exact ⟨p.1,by simpa using Z⟩))
       (by rw [F,H];exact zgG (q L) len) (by rw [F,H];exact znZ T)
      refine ⟨cells',K,Y,fun w=>⟨.slice (some ⟨w.heap.size,0,none⟩) len len,fun W h=>⟨_,0,h,rfl,kad _⟩,?_⟩⟩
      simp only [execOp,C]
      have hb:(Instr.buildSlice t len (parts.map fun p=>(p.1,ev D p.2))).run P w=.ok (.slice (some ⟨w.heap.size,0,none⟩) len len) (w.alloc (.cells cells' el)):=by
       have J:¬(2 ^ 24<len*i.size):=by omega
       simp only [Instr.buildSlice,Sem.run_bind,zC (Z.und hu),Result.andThen_ok,qN (Z.info _ _ hi),gt_iff_lt,J,if_false]
       by_cases h0:len*i.size=0
       ·have S:∀ f:Nat→Value,(Array.range 0).map f=#[]:=fun f=>by simp
        simp only [h0,if_true,Sem.run_pure,Sem.run_bind,Result.andThen_ok,S]
        have Q:Instr.fill (fun j=>some (j*i.size,i.size)) #[] (parts.toList.map fun p=>(p.1,ev D p.2))=some cells':=by
         rw [←E];congr 1;rw [h0];simp
        have:(parts.map fun p=>(p.1,ev D p.2)).toList=parts.toList.map fun p=>(p.1,ev D p.2):=by simp
        rw [this,Q]
        simp [wF]
       ·simp only [h0,if_false,Sem.run_bind,hz,Sem.run_pure,Result.andThen_ok]
        have:(parts.map fun p=>(p.1,ev D p.2)).toList=parts.toList.map fun p=>(p.1,ev D p.2):=by simp
        rw [this,E]
        simp [wF]
      simp [hb]
  | _=>exact qE.bad e
variable {y:Operand}
theorem zdr {pc:PC} (Z:PcOk P pc) {ds:List Nat} {t:TypeId} {x:Operand} (C:o.op=.makeSlice t x y):qE P pc fi ds o:=by
 have e:op pc fi ds o=op pc fi ds o:=rfl
 conv at e=>rhs;simp only [op,C]
 cases hu:pc.und t with
 | none=>rw [hu] at e;exact qE.bad e
 | some d =>
  rw [hu] at e
  cases d with
  | slice el =>
   simp only at e
   rcases PC.sz_or pc el (zO 0) _ with h | ⟨i,hi,h⟩
   ·exact qE.bad (e.trans h)
   ·rw [h] at e
    rcases PC.by_or pc el (zO 0) _ with h | ⟨i',E,h⟩
    ·exact qE.bad (e.trans h)
    ·rw [h] at e
     rw [hi] at E
     simp only [Option.some.injEq] at E
     subst E
     rcases PC.zc_or Z el (zO 0) _ with h | ⟨zc,h,z,hz,q,T⟩
     ·exact qE.bad (e.trans h)
     ·rw [h] at e
      rcases zbd (Nat.beq (zk5 zc) i.size) (zO 0) _ with h | ⟨X,h⟩
      ·exact qE.bad (e.trans h)
      ·rw [h] at e
       simp only [zE] at e
       have V:zc.length=i.size:=by rw [←ziL];exact kac X
       intro r N le s k G
       rw [e,zfx] at G
       obtain ⟨u,I,J⟩:=qf fi ds x N le _ G
       rw [←I] at G
       obtain ⟨v,Q,K⟩:=qf fi ds y N le _ G
       rw [←Q] at G
       cases u with
       | nat a l =>
        cases v with
        | nat A c =>
         unfold yH at G
         simp only at G
         cases R:zB (Nat.ble l c) (zB (Nat.ble c 281474976710656) (Nat.ble (Nat.mul i.bytes c) 281474976710656)) with
         | false=>rw [R] at G;exact absurd trivial G
         | true =>
          obtain ⟨j,p⟩:=zy R
          obtain ⟨p,m⟩:=zy p
          have j:=kax.mp j
          have p:=kax.mp p
          have m:i.bytes*c≤281474976710656:=kax.mp m
          refine zfb (l:=rep zc c) (el:=el) (v:=.sl s.nx 0 0 l c) (by rw [e,zfx,←I,←Q];simp only [yH,R,zg1,zcd]) (fun L D O B=>?_)
          have M:=J L D O (B x (by simp [C,Op.operands]))
          have Y:=K L D O (B y (by simp [C,Op.operands]))
          simp only [VR] at M Y
          have F:z.cells.size=i.size:=by have:=(q L).length;simp at this;omega
          have H:((Array.range (c*z.cells.size)).map (fun i=>z.cells[i % z.cells.size]!)).toList=(List.range c).flatMap fun _=>z.cells.toList:=zhL
          rw [F] at H
          refine ⟨(Array.range (c*i.size)).map (fun i=>z.cells[i % z.cells.size]!),by rw [F,H];exact zgG (q L) c,by rw [F,H];exact znZ T,fun w=>⟨.slice (some ⟨w.heap.size,0,none⟩) l c,fun W h=>⟨_,0,h,rfl,j⟩,?_⟩⟩
          have wl:IntKind.i64.wrap (l:Int)=(l:Int):=yp (by show l<9223372036854775808;omega)
          have wc:IntKind.i64.wrap (c:Int)=(c:Int):=yp (by show c<9223372036854775808;omega)
          have b:¬((l:Int)<0):=by omega
          have U:¬((c:Int)<0):=by omega
          have g:¬((l:Int) > c):=by omega
          have b4:¬((i.bytes:Int)*c > 2 ^ 48):=by
           have:((i.bytes*c:Nat):Int)≤281474976710656:=Int.ofNat_le.2 m
           rw [Int.natCast_mul] at this
           omega
          have hb:(Instr.makeSlice t (ev D x) (ev D y)).run P w=.ok (.slice (some ⟨w.heap.size,0,none⟩) l c) (w.alloc (.cells ((Array.range (c*i.size)).map (fun i=>z.cells[i % z.cells.size]!)) el)):=by
           rw [M,Y]
           have aa:(decide ((c:Int)<0) || decide ((i.bytes:Int)*c > 2 ^ 48) || decide ((l:Int)<0) || decide ((l:Int) > c))=false:=by rw [decide_eq_false b,decide_eq_false U,decide_eq_false g,decide_eq_false b4];rfl
           simp only [Instr.makeSlice,Sem.run_bind,zC (Z.und hu),Result.andThen_ok,asInt,asIntOf,Sem.run_pure,zbp (Z.info _ _ hi),Int.ofNat_eq_natCast,wl,wc,aa,Bool.false_eq_true,if_false,run_askRoom,qN (Z.info _ _ hi),Int.toNat_natCast]
           by_cases h0:c*i.size=0
           ·have S:∀ f:Nat→Value,(Array.range 0).map f=#[]:=fun f=>by simp
            simp only [h0,if_true,Sem.run_pure,Sem.run_bind,Result.andThen_ok,S,wF]
           ·simp only [h0,if_false,Sem.run_bind,hz,Sem.run_pure,Result.andThen_ok,wF]
          simp [execOp,C,hb]
        | _=>exact absurd trivial G
       | _=>exact absurd trivial G
  | _=>exact qE.bad e
theorem zto {pc:PC} {ds:List Nat} {r:R} {k:V→S→A}
  (e:k (.ref 0 s.nx) ⟨Tr.set B.none (.map [] 0) s.nx s.h,s.nx.succ⟩=(op pc fi ds o).run r tm le s k)
  (h:∀ (ν:Val) (tmps:Array Value) w,yn ν fi.ng→zfS ν fi ds tm le tmps o→(execOp (ev tmps) o).run P w=.ok (.value (.map (some w.heap.size))) (w.alloc (.map #[] 0))) :
  ∃ v b,k v ⟨Tr.set B.none b s.nx s.h,s.nx.succ⟩=(op pc fi ds o).run r tm le s k∧(∀ ν w,(∀ u,ν.blk s.nx u=none)→BR P ν w s.nx b) ∧
  ∀ n0 w0 ν tmps H w,St P n0 w0 ν H w→yn ν fi.ng→zfS ν fi ds tm le tmps o→(∀ u,ν.blk s.nx u=none)→s.nx.toNat<H.nx.toNat→(Tr.get B.none s.nx H.h=b∨Tr.get B.none s.nx H.h=.none) →
   ∃ W y w',ν.le W∧St P n0 w0 W H w'∧(∀ a,a≠s.nx→∀ u,W.blk a u=ν.blk a u)∧VR W v y∧(execOp (ev tmps) o).run P w=.ok (.value y) w':=by
 refine ⟨.ref 0 s.nx,.map [] 0,e,fun ν w j v b q h=>(by rw [j] at h;cases h),fun n0 w0 ν tmps H w Y E X j O Z=>?_⟩
 have Q:n0≤w.heap.size:=kaB Y.n0le Y.below.size
 refine ⟨ν.add s.nx 0 w.heap.size 0 0,.map (some w.heap.size),w.alloc (.map #[] 0),Val.le_add j,?_,fun a U u=>Val.add_other U,⟨_,Val.add_self,rfl⟩,h ν tmps w E X⟩
 refine zef Y s.nx j O 0 0 0 (zcE _ _) (fun k F=>Below.heap_alloc w _ k F) (Y.below.alloc Q _) ?_
 rcases Z with h | h
 ·rw [h]
  intro v b q hb
  obtain ⟨L,D⟩:=Val.add_only j hb
  simp only [Prod.mk.injEq] at D
  obtain ⟨rfl,rfl⟩:=D
  exact ⟨L,#[],zaR _ _,rfl⟩
 ·rw [h];trivial
theorem zfp {pc:PC} (Z:PcOk P pc) {ds:List Nat} {t:TypeId} {rs:Option Operand} (C:o.op=.makeMap t rs):qE P pc fi ds o:=by
 have e:op pc fi ds o=op pc fi ds o:=rfl
 conv at e=>rhs;simp only [op,C]
 cases rs with
 | some x =>
  simp only at e
  cases hu:pc.und t with
  | none=>rw [hu] at e;exact qE.bad e
  | some d =>
   rw [hu] at e
   cases d with
   | map j el =>
    simp only at e
    intro r N le s k G
    rw [e,zbX] at G
    obtain ⟨u,I,J⟩:=qf fi ds x N le _ G
    rw [←I] at G
    cases u with
    | nat l n =>
     refine zto (by rw [e,zbX,←I];simp only [zfc]) (fun L D w O B=>?_)
     have E:=J L D O (B x (by simp [C,Op.operands]))
     simp only [VR] at E
     simp [execOp,C,Instr.makeMap,E,zC (Z.und hu),asInt,asIntOf]
    | _=>exact absurd trivial G
   | _=>exact qE.bad e
 | none =>
  intro r N le s k G
  exact zto (by rw [e];simp only [zfc]) (fun L D w O B=>by simp [execOp,C,Instr.makeMap])
theorem Out.write {n0:Nat} {w0 w':World} {U:S} (Y:St P n0 w0 ν U w') (f:U.nx=s.nx) (F:zsc ν s U):Out P n0 w0 ν s ν U w' :=
 ⟨ν.le_refl,Y,by rw [f];exact kad _,fun a l O=>⟨l,.inl (F a l O)⟩⟩
theorem zfz {w:World} {o:Nat} {cs:List Value} (H:w.there b o cs.length) (I:∀ y∈cs,y.oneCell'=true):(storeCells ⟨b,o,none⟩ cs).run P w=.ok () (w.setCells b o cs):=by
 have:=run_storeCells_cells (P:=P) b o cs 0 w (fun j G=>by simpa using (H j G).1) (fun j G=>by simpa using (H j G).2) I
 simpa using this
theorem zw6 {pc:PC} (Z:PcOk P pc) {ds:List Nat} {t:TypeId} {x:Operand} (C:o.op=.store t x y):OpS P pc fi ds o:=by
 have e:op pc fi ds o=op pc fi ds o:=rfl
 conv at e=>rhs;simp only [op,C]
 rcases PC.sz_or pc t (zO 0) _ with h | ⟨i,hi,h⟩
 ·exact OpS.bad (e.trans h)
 ·rw [h] at e
  intro r N le s k G
  rw [e,zfx] at G ⊢
  obtain ⟨u,I,J⟩:=qf fi ds x N le _ G
  rw [←I] at G ⊢
  obtain ⟨v,Q,K⟩:=qf fi ds y N le _ G
  rw [←Q] at G ⊢
  cases u with
  | ptr a c p =>
   have M:zA i.size (.ptr a c p) v s k=zg i.size v (fun l=>qc s a c p i.size l (fun s=>k undef s)):=rfl
   rw [M] at G ⊢
   obtain ⟨xs,R,f,g⟩:=zht G
   rw [←R] at G ⊢
   obtain ⟨U,E,F,H⟩:=wP (P:=P) G
   refine ⟨undef,U,E,fun n0 w0 L w D Y O B=>?_⟩
   obtain ⟨b,q,j,d⟩:=J L D O (B x (by simp [C,Op.operands]))
   obtain ⟨m,A⟩:=g L _ (K L D O (B y (by simp [C,Op.operands])))
   obtain ⟨S,T,V⟩:=H Y b q j _ m f A
   have X:=m.length
   refine ⟨L,Go.undef,_,Out.write T F V,VR.undef,.inr ⟨rfl,?_⟩⟩
   have hsz:(ev D y).cells.size=i.size:=by simpa [f] using X
   have W:=zfz (P:=P) (w:=w) (b:=b) (o:=q+p) (cs:=(ev D y).cells.toList) (by simpa [hsz] using S) A
   simp [execOp,C,d,Instr.storeAt,Instr.sureAddr,storeVar,qN (Z.info _ _ hi),hsz,W]
  | _=>exact absurd trivial G
theorem zgM {n0:Nat} {w0 w:World} (Y:St P n0 w0 ν s w) {a:K} {B':B} {o:Obj} (hb:ν.blk a 0=some (b,0)) (f:(Tr.get B.none a s.h).live) (U:¬znQ (Tr.get B.none a s.h)) (E:∀ v p,ν.blk a v=some p→v=0) (_:¬znQ B')
  (y:∀ w':World,w'.heap[b]?=some o→BR P ν w' a B') :
  St P n0 w0 ν ⟨Tr.set B.none B' a s.h,s.nx⟩ { w with heap:=w.heap.setIfInBounds b o }:=by
 have O:b<w.heap.size:=(Y.rows a).there f hb
 have qk:∀ r,Tr.get B.none r (Tr.set B.none B' a s.h)=if r=a then B' else Tr.get B.none r s.h:=fun r=>get_set _ _ _ _ _
 have L:∀ r,(Tr.get B.none r (Tr.set B.none B' a s.h)).live→(Tr.get B.none r s.h).live:=by
  intro r h
  rw [qk] at h
  by_cases e:r=a
  ·rw [e];exact f
  ·rwa [if_neg e] at h
 have T:n0≤b:=by
  rcases Y.own a 0 b 0 hb f with h | h
  ·exact h
  ·exact absurd h U
 have W:∀ k,k≠b→(w.heap.setIfInBounds b o)[k]?=w.heap[k]?:=fun k F=>Array.getElem?_setIfInBounds_ne (fun e=>F e.symm)
 have zcR:(w.heap.setIfInBounds b o)[b]?=some o:=by simp [O]
 refine ⟨Y.below.trans ⟨rfl,rfl,rfl,by simp,fun k F=>W k (by omega)⟩,Y.n0le,fun r=>?_,fun r m=>?_,fun a1 H D l a2 C X I J R G=>Y.sep _ _ _ _ _ _ _ I J (L _ R) (L _ G),fun r Z N j M Q=>?_⟩
 ·simp only [qk]
  by_cases e:r=a
  ·subst e;rw [if_pos rfl];exact y _ zcR
  ·rw [if_neg e]
   refine (Y.rows r).frame fun Z N j M A=>W _ ?_
   intro V;subst V
   exact e (Y.sep _ _ _ _ _ _ _ M hb A f)
 ·obtain ⟨I,J⟩:=Y.fresh r m
  refine ⟨I,?_⟩
  simp only [qk]
  rw [if_neg]
  ·exact J
  ·intro e;subst e;rw [I] at hb;cases hb
 ·by_cases e:r=a
  ·subst e
   have:=E _ _ M
   subst this
   rw [hb] at M
   simp only [Option.some.injEq,Prod.mk.injEq] at M
   left;omega
  ·rcases Y.own r Z N j M (L _ Q) with h | h
   ·exact .inl h
   ·right;simp only [qk,if_neg e];exact h
theorem zpe {a b:ByteArray} (h:zP a=zP b):a=b:=by
 have I:=zfv.1 h
 rw [zax,zax] at I
 cases a;cases b
 simp at I
 congr
variable {y:Value}
theorem zgs {q:Nat} {a b:V} (h:eqP q a b=some true) (U:q=0∨q=7∨q=8) {x:Value} (M:VR ν a x) (Y:VR ν b y) (d:Nat):Instr.sameBits d y x=true:=by
 rcases U with rfl | rfl | rfl
 ·cases a<;>first | (cases h;done) | skip
  rename_i p
  cases b<;>first | (cases h;done) | skip
  rename_i B
  simp only [VR] at M Y
  subst M Y
  cases p<;>cases B<;>first | (simp [eqP,zbj] at h;done) | simp [Instr.sameBits]
 ·cases a<;>first | (cases h;done) | skip
  ·rename_i k n
   cases b<;>first | (cases h;done) | skip
   ·rename_i H L
    simp only [VR] at M Y
    subst M Y
    simp only [eqP] at h
    cases F:qO k H with
    | false=>rw [F] at h;cases h
    | true =>
     rw [F] at h
     have:=(qx _ _).1 F
     subst this
     simp only [Option.some.injEq] at h
     have:=kac h
     subst this
     simp [Instr.sameBits]
   ·rename_i H L
    simp only [eqP] at h
    cases F:qO k H<;>rw [F] at h<;>simp at h
  ·rename_i k n
   cases b<;>first | (cases h;done) | skip
   ·rename_i H L
    simp only [eqP] at h
    cases F:qO k H<;>rw [F] at h<;>simp at h
   ·rename_i H L
    simp only [VR] at M Y
    subst M Y
    simp only [eqP] at h
    cases F:qO k H with
    | false=>rw [F] at h;cases h
    | true =>
     rw [F] at h
     have:=(qx _ _).1 F
     subst this
     simp only [Option.some.injEq] at h
     have:=kac h
     subst this
     simp [Instr.sameBits]
 ·cases a<;>first | (cases h;done) | skip
  rename_i l
  cases b<;>first | (cases h;done) | skip
  rename_i Z
  obtain ⟨s,rfl,I⟩:=M
  obtain ⟨t,rfl,J⟩:=Y
  simp only [eqP,Option.some.injEq] at h
  have:=(zi2 _ _).1 h
  subst this
  have:=zpe (I.trans J.symm)
  subst this
  have A:(s == s)=true:=(MapKept.bytes_beq s s).2 rfl
  cases d<;>simp only [Instr.sameBits,A]
theorem QTy.q {t:TypeId} {q:Nat} (h:QTy P t q):q=0∨q=7∨q=8:=by
 rcases h with ⟨h,_⟩ | ⟨h,_⟩ | ⟨h,_⟩
 ·exact .inl h
 ·exact .inr (.inl h)
 ·exact .inr (.inr h)
theorem yL.kinds:∀ {n:Nat} {A:List Field} {qs:List Nat},yL P n A qs→∀ q∈qs,q=0∨q=7∨q=8
 | _,[],[],_,q,h=>by cases h
 | _,f::A,C::qs,⟨_,_,I,J⟩,q,h=>by
  rcases kaj.1 h with rfl | h
  ·exact I.q
  ·exact J.kinds q h
 | _,[],_::_,h,_,_=>h.elim
 | _,_::_,[],h,_,_=>h.elim
theorem zmA:∀ {qs:List Nat} {a b:List V},(∀ q∈qs,q=0∨q=7∨q=8)→zn5 qs a b=some true→∀ {ν:Val} {xs ys:List Value},VRs ν a xs→VRs ν b ys→∀ d,ys.length=xs.length∧∀ p∈ys.zip xs,Instr.sameBits d p.1 p.2=true
 | [],a,b,_,h,ν,xs,ys,M,Y,d=>by
  cases a with
  | nil=>cases b with
   | nil=>simp only [VRs] at M Y;subst M Y;simp
   | cons _ _=>cases h
  | cons _ _=>cases b<;>cases h
 | q::qs,a,b,B,h,ν,xs,ys,M,Y,d=>by
  have E:=B q List.mem_cons_self
  have B:∀ q∈qs,q=0∨q=7∨q=8:=fun q h=>B q (kaC _ h)
  cases a with
  | nil=>cases h
  | cons u a=>cases b with
   | nil=>cases h
   | cons v b =>
    have e:zn5 (q::qs) (u::a) (v::b)=(match eqP q u v with | some true=>zn5 qs a b | some false=>some false | none=>none):=rfl
    rw [e] at h
    cases I:eqP q u v with
    | none=>rw [I] at h;cases h
    | some t =>
     rw [I] at h
     cases t with
     | false=>cases h
     | true =>
      obtain ⟨x,r,T,F,C⟩:=M
      obtain ⟨y,A,D,g,k⟩:=Y
      subst T D
      obtain ⟨R,U⟩:=zmA B h C k d
      refine ⟨by simp [R],fun p Z=>?_⟩
      simp only [List.zip_cons_cons,kaj] at Z
      rcases Z with rfl | Z
      ·exact zgs I E F g d
      ·exact U p Z
theorem zxa {pc:PC} (Z:PcOk P pc) {j:TypeId} (F:zb3 (pc.eqKind j)=true) {a b:V} (h:eqV (pc.eqKind j) false a b=some true) {x:Value} (M:VR ν a x) (Y:VR ν b y):Instr.sameBits 10000 y x=true:=by
 unfold zb3 at F
 simp only [Bool.or_eq_true] at F
 rcases F with ((F | F) | F) | F
 ·have:=kac F
  unfold eqV at h
  rw [this] at h
  exact zgs h (.inl rfl) M Y _
 ·have W:=kac F
  have K:∀ q∈(pc.eqKind j).qs,q=0∨q=7∨q=8:=by
   obtain ⟨C,_,K⟩:=zbZ Z W
   exact K.kinds
  unfold eqV at h
  rw [W] at h
  cases a with
  | ls t l=>cases b with
   | ls B L =>
    simp only at h
    cases H:zB (Nat.beq t 0) (Nat.beq B 0) with
    | false=>rw [H] at h;cases h
    | true =>
     rw [H] at h
     obtain ⟨T,D⟩:=zy H
     have T:=kac T
     have D:=kac D
     subst T D
     obtain ⟨J,N,d,_⟩:=M
     obtain ⟨Q,m,A,_⟩:=Y
     subst d A
     obtain ⟨R,U⟩:=zmA K h N m 9999
     show Instr.sameBits (9999+1) _ _=true
     rw [Instr.sameBits.eq_def]
     simp only [kaf,beq_iff_eq,kao]
     exact ⟨by simpa using R,fun p Z=>U p Z⟩
   | _=>cases h
  | _=>cases h
 ·have:=kac F
  unfold eqV at h
  rw [this] at h
  exact zgs h (.inr (.inl rfl)) M Y _
 ·have:=kac F
  unfold eqV at h
  rw [this] at h
  exact zgs h (.inr (.inr rfl)) M Y _
theorem MRs.append {ν:Val}:∀ {es:List ME} {c:List MapEntry} {e:ME} {x:MapEntry},MRs ν es c→MR ν e x→MRs ν (es++[e]) (c++[x])
 | [],_,e,x,h,k=>by simp only [MRs] at h;subst h;exact ⟨x,[],rfl,k,rfl⟩
 | _::_,_,e,x,⟨y,r,T,I,J⟩,k=>by subst T;exact ⟨y,_,rfl,I,MRs.append J k⟩
theorem zty {pc:PC} (Z:PcOk P pc) {j:TypeId} (F:zb3 (pc.eqKind j)=true) {key val:V} {R:Nat}:∀ {es:List ME} {c:Bool→List ME→A},¬(zyN (pc.eqKind j) key val R es c).isBad→∃ b L,c b L=zyN (pc.eqKind j) key val R es c ∧
  ∀ (ν:Val) (k v:Value) (X:List MapEntry),VR ν key k→VR ν val v→MRs ν es X→∀ i,∃ Y,(∀ w,(Instr.findAsking j k X i).run P w=.ok Y w) ∧
   match Y with
   | none=>b=true∧MRs ν L (X++[⟨k,v,R⟩])
   | some (m,_)=>b=false∧i≤m∧∃ e,X[m - i]?=some e∧Instr.sameBits 10000 e.key k=true∧MRs ν L (X.set (m - i) ⟨k,v,e.born⟩)
 | [],c,_=>⟨true,[⟨key,val,R⟩],rfl,fun ν k v X I J O i=>⟨none,fun w=>by simp only [MRs] at O;subst O;rfl,rfl,by simp only [MRs] at O;subst O;exact ⟨_,[],rfl,⟨I,J,rfl⟩,rfl⟩⟩⟩
 | e::es,c,G=>by
  have eq:zyN (pc.eqKind j) key val R (e::es) c=(match eqV (pc.eqKind j) false key e.key with | some true=>c false (⟨key,val,e.born⟩::es) | some false=>zyN (pc.eqKind j) key val R es (fun b l=>c b (e::l)) | none=>.bad 0):=rfl
  rw [eq] at G ⊢
  cases U:eqV (pc.eqKind j) false key e.key with
  | none=>rw [U] at G;exact absurd trivial G
  | some b =>
   rw [U] at G
   cases b with
   | true =>
    refine ⟨false,_,rfl,fun ν k v X I J O i=>?_⟩
    obtain ⟨x,r,T,⟨a,s,D⟩,Q⟩:=O
    subst T
    obtain ⟨K,_⟩:=zjX Z U I a
    refine ⟨some (i,x.val),fun w=>by simp [Instr.findAsking,K w],rfl,kad _,x,by simp,zxa Z F U I a,?_⟩
    simp only [Nat.sub_self,List.set_cons_zero]
    exact ⟨_,_,rfl,⟨I,J,D⟩,Q⟩
   | false =>
    obtain ⟨b0,C,h0,I⟩:=zty Z F G
    refine ⟨b0,e::C,h0,fun ν k v X g E O i=>?_⟩
    obtain ⟨x,r,T,⟨a,s,D⟩,Q⟩:=O
    subst T
    obtain ⟨K,_⟩:=zjX Z U g a
    obtain ⟨Y,d,W⟩:=I ν k v r g E Q (i+1)
    refine ⟨Y,fun w=>by simp [Instr.findAsking,K w,d w],?_⟩
    cases Y with
    | none=>exact ⟨W.1,⟨x,_,rfl,⟨a,s,D⟩,W.2⟩⟩
    | some p =>
     obtain ⟨N,o,f,B,y,S⟩:=W
     refine ⟨N,by omega,f,?_,y,?_⟩
     ·rw [show p.1 - i=(p.1 - (i+1))+1 by omega];simpa using B
     ·rw [show p.1 - i=(p.1 - (i+1))+1 by omega,List.set_cons_succ]
      exact ⟨x,_,rfl,⟨a,s,D⟩,S⟩
theorem zm7 {pc:PC} (Z:PcOk P pc) {ds:List Nat} {t:TypeId} {m kx x:Operand} (U:o.op=.mapUpdate t m kx x∨o.op=.insert t m kx x):OpS P pc fi ds o:=by
 have e:op pc fi ds o=(match opd fi ds m,opd fi ds kx,opd fi ds x with | ⟨f⟩,⟨g⟩,⟨h⟩=>(match pc.und t with
  | some (.map j _)=>fK (pc.eqKind j) fun q=>chk (zb3 q) (zO 0) ⟨fun _ N le s c=>f N le fun m=>g N le fun k=>h N le fun x=>zgF q m k x s c⟩
  | _=>zO 0)):=by rcases U with U | U<;>simp only [op,U]<;>rfl
 have ad:m∈o.op.operands.toList∧kx∈o.op.operands.toList∧x∈o.op.operands.toList:=by rcases U with U | U<;>simp [U,Op.operands]
 have ao:∀ D,execOp (ev D) o=(do Instr.mapUpdate t (ev D m) (ev D kx) (ev D x);pure .skip):=by
  intro D;rcases U with U | U<;>simp only [execOp,U]
 cases hu:pc.und t with
 | none=>rw [hu] at e;exact OpS.bad e
 | some d =>
  rw [hu] at e
  cases d with
  | map j el =>
   simp only [ztI] at e
   rcases zbd (zb3 (pc.eqKind j)) (zO 0) _ with h | ⟨F,h⟩
   ·exact OpS.bad (e.trans h)
   ·rw [h] at e
    obtain ⟨dj,aq⟩:=zmd Z F
    intro r N le s k G
    have M:(op pc fi ds o).run r N le s k=(opd fi ds m).run N le fun m=>(opd fi ds kx).run N le fun kk=>(opd fi ds x).run N le fun x=>zgF (pc.eqKind j) m kk x s k:=by rw [e]
    rw [M] at G ⊢
    obtain ⟨u1,I,J⟩:=qf fi ds m N le _ G
    rw [←I] at G ⊢
    obtain ⟨u2,Q,K⟩:=qf fi ds kx N le _ G
    rw [←Q] at G ⊢
    obtain ⟨u3,u,h6⟩:=qf fi ds x N le _ G
    rw [←u] at G ⊢
    unfold zgF at G ⊢
    obtain ⟨S,T⟩:=ztx Z F G
    rw [S] at G ⊢
    cases u1 with
    | ref n a =>
     simp only at G ⊢
     cases ht:Nat.beq n 0 with
     | false=>rw [ht] at G;exact absurd trivial G
     | true =>
      have:=kac ht
      subst this
      simp only [ht,y8] at G ⊢
      cases V:Tr.get B.none a s.h with
      | map es ck =>
       rw [V] at G
       simp only [zE,ym] at G ⊢
       obtain ⟨b,l',R,A⟩:=zty Z F G
       rw [←R] at G ⊢
       refine ⟨undef,_,rfl,fun n0 w0 L w D Y hG X=>?_⟩
       obtain ⟨b0,H,C⟩:=J L D hG (X m ad.1)
       have v3:=K L D hG (X kx ad.2.1)
       have l:=h6 L D hG (X x ad.2.2)
       have E:∀ v p,L.blk a v=some p→v=0:=by
        intro v p ar
        have:=Y.rows a
        rw [V] at this
        exact (this v p.1 p.2 ar).1
       obtain ⟨aa,q3,q4⟩:=zsA Y.rows V H
       obtain ⟨r',q5,q6⟩:=A L _ _ aa.toList v3 l q4 0
       have q7:=zkX aq _ aa.toList w (q5 w)
       have aj:(Tr.get B.none a s.h).live:=by rw [V];trivial
       have au:¬znQ (Tr.get B.none a s.h):=by rw [V];exact fun h=>h
       have fin:∀ (ae:Array MapEntry) (ah:Nat),MRs L l' ae.toList→(if b=true then ck+1 else ck)=ah→(Instr.mapUpdate t (ev D m) (ev D kx) (ev D x)).run P w=.ok () { w with heap:=w.heap.setIfInBounds b0 (.map ae ah) } →
         ∃ W y w',Out P n0 w0 L s W ⟨Tr.set B.none (.map l' (Bool.rec ck ck.succ b)) a s.h,s.nx⟩ w'∧VR W undef y∧zDT P (execOp (ev D) o) w y w':=by
        intro ae ah hm av al
        have an:(Bool.rec ck ck.succ b:Nat)=ah:=by rw [←av];cases b<;>rfl
        refine ⟨L,Go.undef,_,Out.write (zgM Y H aj au E (B':=.map l' (Bool.rec ck ck.succ b)) (o:=.map ae ah) (fun h=>h) (fun w' aw=>?_)) rfl (zba H _),VR.undef,.inr ⟨rfl,by rw [ao];simp [al]⟩⟩
        intro v b' ay ai
        have ax:=E v _ ai
        subst ax
        rw [H] at ai
        simp only [Option.some.injEq,Prod.mk.injEq] at ai
        rw [←ai.1,an]
        exact ⟨rfl,ae,aw,hm⟩
       cases r' with
       | none =>
        obtain ⟨p1,p2⟩:=q6
        refine fin (aa.push ⟨ev D kx,ev D x,ck⟩) (ck+1) (by simpa using p2) (by rw [p1];rfl) ?_
        simp [Instr.mapUpdate,zC (Z.und hu),C,zbf q3,T L _ v3,q7,MapKept.run_setObj_map _ q3]
       | some p =>
        obtain ⟨p1,p2,e0,p3,p4,p5⟩:=q6
        simp only [Nat.sub_zero,kam] at p3 p5
        have O:p.1<aa.size:=(kat.1 p3).1
        have ak:aa[p.1]=e0:=(kat.1 p3).2
        refine fin (aa.modify p.1 fun e=>{ e with key:=ev D kx,val:=ev D x }) ck ?_ (by rw [p1];rfl) ?_
        ·have:(aa.modify p.1 fun e=>{ e with key:=ev D kx,val:=ev D x }).toList=aa.toList.set p.1 ⟨ev D kx,ev D x,e0.born⟩:=by
          apply kaL
          intro i
          rw [kam,Array.getElem?_modify,List.getElem?_set]
          by_cases hi:p.1=i
          ·subst hi;simp [O,ak]
          ·simp [hi]
         rw [this];exact p5
        ·simp [Instr.mapUpdate,zC (Z.und hu),C,zbf q3,T L _ v3,q7,Instr.keyThatStays,p3,p4,MapKept.run_setObj_map _ q3]
      | _=>rw [V] at G;exact absurd trivial G
    | _=>exact absurd trivial G
  | _=>exact OpS.bad e
def zpD (P:Program) (ats:Array TypeId) (size:Nat) (z:Value) (w:World) (zeros:Bool) (x:Value) (n:Nat) (cs:List Value):Prop :=
 if zeros then (∃ u k,ats[1]?=some u∧P.underlying u=some (.int k))∧(∃ k,x=.int k (n:Int))∧n≤68719476736∧cs=(List.range n).flatMap fun _=>z.cells.toList
 else (∃ u d,ats[1]?=some u∧P.underlying u=some d∧∀ k,d≠.int k)∧(∀ A,(Builtin.lenOf x).run P A=.ok n A)∧∀ A:World,A.heap=w.heap→(Builtin.firstCells size n x).run P A=.ok cs.toArray A
theorem zd1 (z:Array Value) (n:Nat):(Builtin.zeroCells z n)=((List.range n).flatMap fun _=>z.toList).toArray:=by
 apply Array.ext'
 rw [←zhL]
 rfl
theorem zlQ (A:Nat):∀ (r c:Nat),Builtin.growBy A r c≤max c (A+(A+768) / 4)
 | 0,c=>by simp [Builtin.growBy];omega
 | r+1,c=>by
  rw [Builtin.growBy]
  split
  ·omega
  ·have:=zlQ A r (c+(c+768) / 4)
   omega
theorem zsG {G cap:Nat} (h:cap<G) (J:G≤68719476736):Builtin.nextslicecap G cap≤137438953472:=by
 unfold Builtin.nextslicecap
 split
 ·omega
 ·split
  ·omega
  ·have:=zlQ G 4 cap
   omega
section
variable {ats:Array TypeId} {t el:TypeId} {i:TypeInfo} {z:Value} {w:World} {zeros:Bool} {x:Value} {n:Nat} {cs:List Value} {cargs:Array Value} {base:Option Addr} {sLen sCap:Nat}
variable {ty:TypeId}
theorem zbc {b off:Nat} (h0:ats[0]?=some t) (hu:P.underlying t=some (.slice el)) (hi:P.info? el=some i) (hz:∀ w,(zeroValue el).run P w=.ok z w) (hb:i.bytes≤1024)
  (M:cargs[0]?=some (.slice (some ⟨b,off,none⟩) sLen sCap)) (c1:cargs[1]?=some x) (C:zpD P ats i.size z w zeros x n cs) (v:cs.length=n*i.size) (_:z.cells.size=i.size) (D:sLen+n≤sCap) (H:w.there b (off+sLen*i.size) cs.length) (I:∀ y∈cs,y.oneCell'=true) :
  (Builtin.append_ ats ty cargs).run P w=.ok (.slice (some ⟨b,off,none⟩) (sLen+n) sCap) (w.setCells b (off+sLen*i.size) cs):=by
 have Y:=zfz (P:=P) H I
 cases zeros with
 | false =>
  obtain ⟨⟨u,d,R,U,g⟩,E,K⟩:=C
  simp only [Builtin.append_,h0,M,c1,Sem.run_bind,zC hu,Result.andThen_ok,qN hi,R,zC U,Sem.run_pure,Bool.false_eq_true,if_false,E,D,if_true,Bool.not_false,K w rfl,jx,Y]
 | true =>
  obtain ⟨⟨u,k,R,U⟩,⟨A,g⟩,E,K⟩:=C
  subst g
  have wn:IntKind.i64.wrap (n:Int)=(n:Int):=yp (by show n<9223372036854775808;omega)
  have Z:¬((n:Int)<0):=by omega
  have p:¬((n:Int)*(i.bytes:Int) > 2 ^ 48):=by
   have:n*i.bytes≤68719476736*1024:=Nat.mul_le_mul E hb
   have J:((n*i.bytes:Nat):Int)≤((68719476736*1024:Nat):Int):=Int.ofNat_le.2 this
   rw [Int.natCast_mul] at J
   omega
  simp only [Builtin.append_,h0,M,c1,Sem.run_bind,zC hu,Result.andThen_ok,qN hi,R,zC U,Sem.run_pure,if_true,asInt,asIntOf,wn,Z,if_false,zbp hi,p,Int.toNat_natCast,D,Bool.not_true,Bool.false_eq_true]
  by_cases h:n*i.size=0
  ·have:cs=[]:=kap.1 (by rw [v];exact h)
   subst this
   simp only [h,if_true,Sem.run_pure,Result.andThen_ok,jx]
   have:=Y
   simp only [this,Result.andThen_ok]
  ·simp only [h,if_false,Sem.run_bind,hz,Result.andThen_ok,Sem.run_pure,zd1,←K,jx,Y]
theorem zpx (h0:ats[0]?=some t) (hu:P.underlying t=some (.slice el)) (hi:P.info? el=some i) (_:i.bytes≤1024)
  (M:cargs[0]?=some (.slice base sLen sCap)) (c1:cargs[1]?=some x) (C:zpD P ats i.size z w zeros x 0 cs) (v:cs.length=0*i.size) (D:sLen≤sCap) :
  (Builtin.append_ ats ty cargs).run P w=.ok (.slice base sLen sCap) w:=by
 have A:cs=[]:=kap.1 (by rw [v];simp)
 subst A
 have Y:∀ a,(storeCells a []).run P w=.ok () w:=fun a=>rfl
 cases zeros with
 | false =>
  obtain ⟨⟨u,d,R,U,g⟩,E,K⟩:=C
  cases base<;>simp only [Builtin.append_,h0,M,c1,Sem.run_bind,zC hu,Result.andThen_ok,qN hi,R,zC U,Sem.run_pure,Bool.false_eq_true,if_false,E,Nat.add_zero,D,if_true,Bool.not_false,K w rfl,Y]
 | true =>
  obtain ⟨⟨u,k,R,U⟩,⟨H,g⟩,E,K⟩:=C
  subst g
  have wn:IntKind.i64.wrap ((0:Nat):Int)=((0:Nat):Int):=yp (by show 0<9223372036854775808;omega)
  have Z:¬(((0:Nat):Int)<0):=by omega
  have p:¬(((0:Nat):Int)*(i.bytes:Int) > 2 ^ 48):=by
   have:((0:Nat):Int)*(i.bytes:Int)=0:=by simp
   rw [this];omega
  cases base<;>simp only [Builtin.append_,h0,M,c1,Sem.run_bind,zC hu,Result.andThen_ok,qN hi,R,zC U,Sem.run_pure,if_true,asInt,asIntOf,wn,Z,if_false,zbp hi,p,Int.toNat_natCast,Nat.add_zero,D,Bool.not_true,Bool.false_eq_true,Nat.zero_mul,Y]
theorem jP (h0:ats[0]?=some t) (hu:P.underlying t=some (.slice el)) (hi:P.info? el=some i) (hz:∀ w,(zeroValue el).run P w=.ok z w) (hb:i.bytes≤1024)
  (M:cargs[0]?=some (.slice base sLen sCap)) (c1:cargs[1]?=some x) (C:zpD P ats i.size z w zeros x n cs) (v:cs.length=n*i.size) (hzs:z.cells.size=i.size) (F:sCap<sLen+n) (D:sLen+n≤68719476736)
  {old:List Value} (hold:∀ w':World,w'.heap=w.heap→(Builtin.firstCells i.size sLen (.slice base sLen sCap)).run P w'=.ok old.toArray w') :
  ∃ A,sLen+n≤A∧∃ rest:List Value,rest.length=(A - (sLen+n))*i.size∧(Builtin.append_ ats ty cargs).run P w=.ok (.slice (some ⟨w.heap.size,0,none⟩) (sLen+n) A) (({ w with drawn:=w.drawn+1 }:World).alloc (.cells (old++cs++rest).toArray el)):=by
 have S:=zsG F D
 have B:¬(sLen+n≤sCap):=by omega
 have a:¬(((sLen+n:Nat):Int) > IntKind.i64.max):=by
  have e:IntKind.i64.max=9223372036854775807:=rfl
  rw [e];omega
 have s:¬(Builtin.nextslicecap (sLen+n) sCap*i.bytes > 2 ^ 48):=by
  have:Builtin.nextslicecap (sLen+n) sCap*i.bytes≤137438953472*1024:=Nat.mul_le_mul S hb
  omega
 have T:∀ m,(Builtin.zeroCells z.cells m).toList.length=m*i.size:=by
  intro m;simp [Builtin.zeroCells,hzs]
 let q:Question:=.appendCap (sLen+n) sCap el
 have G:∀ t,q.cut t=sLen+n+t % (2 ^ 63 - (sLen+n)):=fun t=>rfl
 have O:(choose (.appendCap (sLen+n) sCap el)).run P w=.ok (q.cut (w.tape w.drawn q)) { w with drawn:=w.drawn+1 }:=by
  simp [choose,Sem.run,Question.forced,q]
 generalize I:q.cut (w.tape w.drawn q)=N at O
 have V:sLen+n≤N:=by rw [←I,G];omega
 refine ⟨N,V,(Builtin.zeroCells z.cells (N - (sLen+n))).toList,T _,?_⟩
 have L:(old.toArray++cs.toArray++Builtin.zeroCells z.cells (N - (sLen+n)))=(old++cs++(Builtin.zeroCells z.cells (N - (sLen+n))).toList).toArray:=by
  apply Array.ext';simp
 cases zeros with
 | false =>
  obtain ⟨⟨u,d,R,U,g⟩,E,K⟩:=C
  simp only [Builtin.append_,h0,M,c1,Sem.run_bind,zC hu,Result.andThen_ok,qN hi,R,zC U,Sem.run_pure,Bool.false_eq_true,if_false,E,B,zbp hi,a,false_and,s,O,run_askRoom,
   hold { w with drawn:=w.drawn+1 } rfl,K { w with drawn:=w.drawn+1 } rfl,Bool.not_false,if_true,hz,L,wF]
 | true =>
  obtain ⟨⟨u,k,R,U⟩,⟨H,g⟩,E,K⟩:=C
  subst g
  have wn:IntKind.i64.wrap (n:Int)=(n:Int):=yp (by show n<9223372036854775808;omega)
  have Z:¬((n:Int)<0):=by omega
  have p:¬((n:Int)*(i.bytes:Int) > 2 ^ 48):=by
   have:n*i.bytes≤68719476736*1024:=Nat.mul_le_mul E hb
   have J:((n*i.bytes:Nat):Int)≤((68719476736*1024:Nat):Int):=Int.ofNat_le.2 this
   rw [Int.natCast_mul] at J
   omega
  have Q:∀ w:World,((if n*i.size=0 then pure #[] else do pure (Builtin.zeroCells (←zeroValue el).cells n):Sem (Array Value))).run P w=.ok cs.toArray w:=by
   intro w
   by_cases h:n*i.size=0
   ·have:cs=[]:=kap.1 (by rw [v];exact h)
    subst this
    simp [h]
   ·simp [h,hz,zd1,←K]
  simp only [Builtin.append_,h0,M,c1,Sem.run_bind,zC hu,Result.andThen_ok,qN hi,R,zC U,Sem.run_pure,if_true,asInt,asIntOf,wn,Z,if_false,zbp hi,p,Int.toNat_natCast,B,a,false_and,s,O,run_askRoom,
   hold { w with drawn:=w.drawn+1 } rfl,Bool.not_true,Bool.false_eq_true,Q,hz,L,wF]
end
variable {P:Program} {n0:Nat} {w0:World}
variable {s:S} {ν:Val} {w':World}
theorem St.heap {w:World} (h:St P n0 w0 ν s w) (y:w'.heap=w.heap) (C:w'.os=w.os) (H:w'.tape=w.tape) (hu:w'.output=w.output):St P n0 w0 ν s w' :=
 ⟨h.below.trans ⟨C,H,hu,by rw [y];exact kad _,fun k _=>by rw [y]⟩,h.n0le,fun a=>(h.rows a).frame fun v b q _ _=>by rw [y],h.fresh,h.sep,h.own⟩
theorem zmr {w:World} (h:w'.heap=w.heap) (a:Addr):w'.cell? a=w.cell? a:=by simp [World.cell?,h]
theorem zuT (s:ByteArray):VRs ν ((zP s).map fun b=>V.nat .u8 b) ((zP s).map fun b=>Value.int .u8 (Int.ofNat b))∧∀ y∈(zP s).map (fun b=>Value.int .u8 (Int.ofNat b)),y.oneCell'=true:=by
 constructor
 ·refine VRs.of_get (by simp) fun i x hi=>?_
  rw [kaD] at hi
  cases h:(zP s)[i]? with
  | none=>rw [h] at hi;cases hi
  | some b=>rw [h] at hi;simp at hi;subst hi;exact ⟨.int .u8 (Int.ofNat b),by simp [h],rfl⟩
 ·intro y Y
  rw [kau] at Y
  obtain ⟨b,_,rfl⟩:=Y
  rfl
theorem zin {β:Type} (l:List Nat) (c:List V→β):zjK l c=c (l.map fun b=>V.nat .u8 b):=by
 induction l generalizing c with
 | nil=>rfl
 | cons x l X=>exact X _
variable {sz:Nat}
theorem zek {y:V} {c:Nat→List V→A} (G:¬(qA sz y s c).isBad):∃ n new,c n new=qA sz y s c ∧
  ∀ (ν:Val) (w:World) (L:Value),zbt P ν s w→VR ν y L→∃ cs:List Value,VRs ν new cs∧(∀ v∈cs,v.oneCell'=true)∧cs.length=n*sz∧(∀ w',(Builtin.lenOf L).run P w'=.ok n w') ∧
   ∀ m,m≤n→∀ w':World,w'.heap=w.heap→(Builtin.firstCells sz m L).run P w'=.ok (cs.take (m*sz)).toArray w':=by
 have mem:∀ (a:K) (v o len:Nat),¬(zM s a v o (Nat.mul len sz) (fun l=>c len l)).isBad→(∀ (ν:Val) (L:Value),VR ν y L→∃ b q cap,ν.blk a v=some (b,q)∧L=.slice (some ⟨b,q+o,none⟩) len cap) →
   ∃ n new,c n new=zM s a v o (Nat.mul len sz) (fun l=>c len l)∧∀ (ν:Val) (w:World) (L:Value),zbt P ν s w→VR ν y L→∃ cs:List Value,VRs ν new cs∧(∀ v∈cs,v.oneCell'=true)∧cs.length=n*sz∧(∀ w',(Builtin.lenOf L).run P w'=.ok n w') ∧
   ∀ m,m≤n→∀ w':World,w'.heap=w.heap→(Builtin.firstCells sz m L).run P w'=.ok (cs.take (m*sz)).toArray w':=by
  intro a v o len G Y
  obtain ⟨l,I,J⟩:=je (P:=P) G
  refine ⟨len,l,I,fun ν w L F E=>?_⟩
  obtain ⟨b,q,cap,Q,O⟩:=Y ν L E
  obtain ⟨cs,d,W,g,B⟩:=J F b q Q
  subst O
  have d:cs.length=len*sz:=d
  refine ⟨cs,g,B,d,fun w'=>rfl,fun m p w' X=>?_⟩
  have hmul:m*sz≤len*sz:=kag _ p
  have:=run_loadCells_list (P:=P) (w:=w') ⟨b,q+o,none⟩ (cs.take (m*sz)) (fun j v E=>by
   rw [jx,zmr X]
   rw [List.getElem?_take] at E
   split at E
   ·exact W j v E
   ·cases E)
  rw [List.length_take,d,Nat.min_eq_left hmul] at this
  exact this
 cases y with
 | nil t =>
  unfold qA at G ⊢
  simp only at G ⊢
  cases H:Nat.beq t 1 with
  | false=>rw [H] at G;exact absurd trivial G
  | true =>
   have:=kac H
   subst this
   refine ⟨0,[],by simp only,fun ν w L F E=>⟨[],rfl,by simp,by simp,fun w'=>?_,fun m p w' _=>?_⟩⟩
   ·simp only [VR] at E;subst E;rfl
   ·simp only [VR] at E;subst E;simp [Builtin.firstCells]
 | ref t a =>
  unfold qA at G ⊢
  simp only at G ⊢
  cases H:Nat.beq t 1 with
  | false=>rw [H] at G;exact absurd trivial G
  | true =>
   have:=kac H
   subst this
   refine ⟨0,[],by simp only,fun ν w L F E=>⟨[],rfl,by simp,by simp,fun w'=>?_,fun m p w' _=>?_⟩⟩
   ·obtain ⟨_,_,e⟩:=VR.ref1 E;subst e;rfl
   ·obtain ⟨_,_,e⟩:=VR.ref1 E;subst e
    have:m=0:=by omega
    subst this
    simp [Builtin.firstCells,loadCells,loadCellsFrom]
 | sl a v o len cap=>exact mem a v o len G (fun ν L h=>by obtain ⟨b,q,I,J,_⟩:=h;exact ⟨b,q,cap,I,J⟩)
 | so a v o len e=>exact mem a v o len G (fun ν L h=>by obtain ⟨b,q,cap,I,J,_⟩:=h;exact ⟨b,q,cap,I,J⟩)
 | str l =>
  unfold qA at G ⊢
  simp only at G ⊢
  cases C:Nat.beq sz 1 with
  | false=>rw [C] at G;exact absurd trivial G
  | true =>
   have:=kac C
   subst this
   refine ⟨l.length,l.map fun b=>V.nat .u8 b,by simp only [zin,yy],fun ν w L F E=>?_⟩
   obtain ⟨t,T,D⟩:=E
   subst T
   obtain ⟨R,U⟩:=zuT (ν:=ν) t
   rw [D] at R U
   refine ⟨_,R,U,by simp,fun w'=>?_,fun m p w' _=>?_⟩
   ·have:l.length=t.size:=by rw [←D,qz]
    rw [this];rfl
   ·simp only [Builtin.firstCells,Sem.run_pure]
    congr 1
    apply Array.ext'
    have Q:=zd6 t 0 m
    rw [D] at Q
    unfold zP at Q
    simp only [List.drop_zero,Nat.sub_zero] at Q
    simp only [Array.toList_map,kaz,←List.map_take,←Q,List.map_map]
    rfl
 | _=>exact absurd trivial G
variable {l:List V}
theorem zeb {w w1:World} (Y:St P n0 w0 ν s w) (J:w1.heap=w.heap) (C:w1.os=w.os) (H:w1.tape=w.tape) (hu:w1.output=w.output) {el G A:Nat} {i:TypeInfo} (hi:P.info? el=some i) {L rest:List Value} (E:VRs ν l L) (D:∀ y∈L,y.oneCell'=true)
  (X:l.length=G*i.size) (M:G≤A) (T:rest.length=(A - G)*i.size) :
  ∃ W,Out P n0 w0 ν s W ⟨Tr.set B.none (.row l l.length el true 0 0 0) s.nx s.h,s.nx.succ⟩ (w1.alloc (.cells (L++rest).toArray el))∧VR W (.so s.nx l.length 0 G 0) (.slice (some ⟨w.heap.size,0,none⟩) G A):=by
 have I:=Y.heap J C H hu
 obtain ⟨o,_⟩:=Y.fresh s.nx (kad _)
 have c:=ziP I _ (BR.newRow (P:=P) (w:=w1) o l el true)
 have Q:n0≤w1.heap.size:=kaB I.n0le I.below.size
 have r:P.cellsOf el=i.size:=by simp [Program.cellsOf,hi]
 have R:=E.length
 have hmul:G*i.size+(A - G)*i.size=A*i.size:=by rw [←Nat.add_mul];congr 1;omega
 have:=zqk c s.nx o (by show _<s.nx.succ.toNat;rw [K.toNat_succ];omega) l el true A (by simp only [get_set,if_true]) (L++rest).toArray L E
  (fun j y d=>by
   simp only [List.getElem?_toArray]
   rw [kar (by have:=(kaE.1 d).1;exact this)]
   exact d) D (fun _=>by rw [r];simp only [List.size_toArray,kae];have:=kag i.size M;omega) (zcE w1 _) (fun k F=>Below.heap_alloc w1 _ k F) (c.below.alloc Q _) (zaR _ _)
 simp only [if_true] at this
 refine ⟨_,⟨Val.le_add o,this,by show _≤s.nx.succ.toNat;rw [K.toNat_succ];omega,fun a U O=>?_⟩,?_⟩
 ·have Z:a≠s.nx:=by intro e;subst e;omega
  exact ⟨fun v=>by rw [Val.add_other Z];exact U v,.inl (by simp only [get_set,if_neg Z])⟩
 ·refine ⟨w.heap.size,0,A,?_,rfl,M,?_,?_⟩
  ·rw [←J];exact Val.add_self
  ·simp [Val.add]
  ·simp
noncomputable def Val.addS (ν:Val) (a:K) (v b q cap sz:Nat):Val :=
 { blk:=fun r F=>if r=a∧F=v then some (b,q) else ν.blk r F,cap:=fun r F=>if r=a∧F=v then cap else ν.cap r F,sz:=fun r=>if r=a then sz else ν.sz r }
variable {b cap v:Nat}
theorem Val.le_addS {a:K} {q:Nat} (h:ν.blk a v=none) (C:∀ v p,ν.blk a v=some p→ν.sz a=sz):ν.le (ν.addS a v b q cap sz):=by
 intro r F p Z
 have u:¬(r=a∧F=v):=by rintro ⟨rfl,rfl⟩;rw [h] at Z;cases Z
 refine ⟨by simp [Val.addS,u,Z],by simp [Val.addS,u],?_⟩
 simp only [Val.addS]
 split
 ·rename_i e;subst e;exact (C _ _ Z).symm
 ·rfl
theorem Val.addS_self {a:K} {q:Nat}:(ν.addS a v b q cap sz).blk a v=some (b,q):=by simp [Val.addS]
theorem Val.addS_ne {a a':K} {q F:Nat} (h:¬(a'=a∧F=v)):(ν.addS a v b q cap sz).blk a' F=ν.blk a' F:=by simp [Val.addS,h]
variable {ln:List V} {old:List Value} {len m mn δ2:Nat}
theorem zxY {w:World} (Y:St P n0 w0 ν s w) {a:K} {q:Nat} {el:Nat} (hb:ν.blk a v=some (b,q)) (R:Tr.get B.none a s.h=.row l m el true mn 0 0)
  {i:TypeInfo} (hi:P.info? el=some i) {n:Nat} {lo:List V} {cs:List Value} (aB:VRs ν lo old) (o:VRs ν ln cs) (I:∀ y∈old,y.oneCell'=true) (J:∀ y∈cs,y.oneCell'=true)
  (aR:old.length=len*i.size) (aS:cs.length=n*i.size) (aF:w.rangeAt b δ2 old) (ar:len+n≤cap) (au:∀ c fz,w.heap[b]?=some (.cells c el fz)→δ2+cap*i.size≤c.size) :
  w.there b (δ2+len*i.size) cs.length∧∃ W,Out P n0 w0 ν s W ⟨Tr.set B.none (.row (lo++ln) (lo++ln).length el true 0 0 0) s.nx (Tr.set B.none .none a s.h),s.nx.succ⟩ (w.setCells b (δ2+len*i.size) cs) ∧
   VR W (.so s.nx (lo++ln).length 0 (len+n) 0) (.slice (some ⟨b,δ2,none⟩) (len+n) cap):=by
 have ai:(Tr.get B.none a s.h).live:=by rw [R];trivial
 have L:=Y.rows a
 rw [R] at L
 obtain ⟨c,fz,X,hsz,aj,aM,_⟩:=L.at_ v b q hb
 have al:=au c fz X
 have aG:n0≤b:=by
  rcases Y.own a v b q hb ai with h | h
  ·exact h
  ·rw [R] at h;exact absurd h.1 (by simp)
 have av:P.cellsOf el=i.size:=by simp [Program.cellsOf,hi]
 have hmul:len*i.size+n*i.size≤cap*i.size:=by rw [←Nat.add_mul];exact kag _ ar
 have aj:FzR fz q 0 0:=by
  rcases aj with ⟨h,_⟩ | h
  ·cases h
  ·exact h
 have aw:∀ j,j<c.size→w.frozen? ⟨b,j,none⟩=false:=by
  intro j G
  cases U:w.frozen? ⟨b,j,none⟩ with
  | false=>rfl
  | true=>have:=aj.old X j U;omega
 have an:w.there b (δ2+len*i.size) cs.length:=by
  intro j G
  have O:δ2+len*i.size+j<c.size:=by omega
  exact ⟨by rw [jl X];simp [O],aw _ O⟩
 refine ⟨an,?_⟩
 obtain ⟨c',aH,aC,ax⟩:=wo b cs (δ2+len*i.size) w c el fz X
 have aN:∀ x,(w.setCells b (δ2+len*i.size) cs).frozen? x=w.frozen? x:=fun x=>World.frozen?_setCells b cs _ w x
 have aO:=aB.length
 have aP:=o.length
 obtain ⟨A,aT⟩:=Y.fresh s.nx (kad _)
 have aQ:a≠s.nx:=by intro e;subst e;rw [A] at hb;cases hb
 have halt:a.toNat<s.nx.toNat:=by
  rcases kaK a.toNat s.nx.toNat with h | h
  ·exact h
  ·have:=(Y.fresh a h).1 v;rw [this] at hb;cases hb
 have ao:ν.le (ν.addS s.nx (lo++ln).length b δ2 cap i.size):=Val.le_addS (A _) (fun v p h=>by rw [A] at h;cases h)
 have ak:(ν.addS s.nx (lo++ln).length b δ2 cap i.size).blk s.nx (lo++ln).length=some (b,δ2):=Val.addS_self
 have aa:∀ r,r≠s.nx→∀ F,(ν.addS s.nx (lo++ln).length b δ2 cap i.size).blk r F=ν.blk r F:=fun r h F=>Val.addS_ne (fun e=>h e.1)
 have ad:∀ F p,(ν.addS s.nx (lo++ln).length b δ2 cap i.size).blk s.nx F=some p→F=(lo++ln).length∧p=(b,δ2):=by
  intro F p Z
  by_cases e:F=(lo++ln).length
  ·subst e;rw [ak] at Z;exact ⟨rfl,by simpa using Z.symm⟩
  ·rw [Val.addS_ne (fun h=>e h.2),A] at Z;cases Z
 generalize ay:ν.addS s.nx (lo++ln).length b δ2 cap i.size=W at *
 have ah:∀ r,Tr.get B.none r (Tr.set B.none (.row (lo++ln) (lo++ln).length el true 0 0 0) s.nx (Tr.set B.none .none a s.h))=if r=s.nx then .row (lo++ln) (lo++ln).length el true 0 0 0 else if r=a then .none else Tr.get B.none r s.h:=by
  intro r;rw [get_set,get_set]
 have ae:∀ r,r≠s.nx→(Tr.get B.none r (Tr.set B.none (.row (lo++ln) (lo++ln).length el true 0 0 0) s.nx (Tr.set B.none .none a s.h))).live→r≠a∧(Tr.get B.none r s.h).live:=by
  intro r h f
  rw [ah,if_neg h] at f
  by_cases e:r=a
  ·rw [if_pos e] at f;exact f.elim
  ·rw [if_neg e] at f;exact ⟨e,f⟩
 refine ⟨W,⟨ao,⟨Below.setCells aG cs _ w Y.below,Y.n0le,fun r=>?_,fun r az=>?_,fun a1 H b1 d1 a2 C d2 T D l1 l2=>?_,fun r F b' aq M aA=>?_⟩,by show _≤s.nx.succ.toNat;rw [K.toNat_succ];omega,fun r az O=>?_⟩,?_⟩
 ·simp only [ah]
  by_cases e:r=s.nx
  ·subst e
   rw [if_pos rfl]
   refine ⟨rfl,fun g=>(by cases g),fun _ F p Z=>Nat.le_of_eq (ad F p Z).1,fun _=>Nat.zero_le _,fun H C b' d1 d2 T D=>?_,fun F b' aq M=>?_⟩
   ·have N:=(ad _ _ T).2
    have E:=(ad _ _ D).2
    simp only [Prod.mk.injEq] at N E
    rw [N.2,E.2]
   ·obtain ⟨T,D⟩:=ad F _ M
    simp only [Prod.mk.injEq] at D
    obtain ⟨k,e4⟩:=D
    subst T
    rw [k,e4]
    have aD:W.sz s.nx=i.size:=by rw [←ay];simp [Val.addS]
    have aE:W.cap s.nx (lo++ln).length=cap:=by rw [←ay];simp [Val.addS]
    refine ⟨c',fz,aH,by rw [aD,av],.inr (.inl (by unfold FzR at aj;omega)),fun _=>?_,fun _ j x G _=>?_⟩
    ·rw [aD,aE,aC]
     refine ⟨al,?_⟩
     rw [kae];omega
    ·have aJ:j<(lo++ln).length:=(kaE.1 G).1
     rw [kae] at aJ
     rw [ax _ (by omega)]
     by_cases aK:j<lo.length
     ·rw [kar aK] at G
      obtain ⟨y,d,Q⟩:=aB.get j x G
      rw [if_neg (by omega)]
      have:=aF j y d
      rw [jl X] at this
      exact ⟨y,this,fun _=>I y (kav d),Q.mono' ao⟩
     ·rw [kaw (by omega)] at G
      obtain ⟨y,d,Q⟩:=o.get _ x G
      rw [if_pos (by omega),show δ2+j - (δ2+len*i.size)=j - lo.length by omega]
      exact ⟨y,d,fun _=>J y (kav d),Q.mono' ao⟩
  ·rw [if_neg e]
   by_cases D:r=a
   ·rw [if_pos D];trivial
   ·rw [if_neg D]
    refine BR.frame (BR.mono ao (aa r e) (Y.rows r)) fun F b' aq M aA=>jt _ _ _ _ _ fun eb=>D ?_
    subst eb
    rw [aa r e] at M
    exact Y.sep r F b' aq a v q M hb aA ai
 ·have aL:s.nx.succ.toNat≤r.toNat:=az
  rw [K.toNat_succ] at aL
  have e:r≠s.nx:=by intro e;subst e;omega
  have D:r≠a:=by intro e;subst e;omega
  obtain ⟨N,E⟩:=Y.fresh r (by omega)
  exact ⟨fun F=>by rw [aa r e];exact N F,by simp only [ah];rw [if_neg e,if_neg D];exact E⟩
 ·by_cases n1:a1=s.nx
  ·by_cases n2:a2=s.nx
   ·rw [n1,n2]
   ·exfalso
    subst n1
    have N:=(ad _ _ T).2
    simp only [Prod.mk.injEq] at N
    rw [aa a2 n2] at D
    obtain ⟨u,k2⟩:=ae a2 n2 l2
    rw [N.1] at D
    exact u (Y.sep _ _ _ _ _ _ _ D hb k2 ai)
  ·by_cases n2:a2=s.nx
   ·exfalso
    subst n2
    have N:=(ad _ _ D).2
    simp only [Prod.mk.injEq] at N
    rw [aa a1 n1] at T
    obtain ⟨u,k2⟩:=ae a1 n1 l1
    rw [N.1] at T
    exact u (Y.sep _ _ _ _ _ _ _ T hb k2 ai)
   ·rw [aa a1 n1] at T
    rw [aa a2 n2] at D
    exact Y.sep _ _ _ _ _ _ _ T D (ae a1 n1 l1).2 (ae a2 n2 l2).2
 ·by_cases e:r=s.nx
  ·subst e
   have N:=(ad _ _ M).2
   simp only [Prod.mk.injEq] at N
   left;omega
  ·obtain ⟨u,k2⟩:=ae r e aA
   rw [aa r e] at M
   simp only [ah,if_neg e,if_neg u]
   exact Y.own r F b' aq M k2
 ·have e:r≠s.nx:=by intro e;subst e;omega
  refine ⟨fun F=>by rw [aa r e];exact az F,?_⟩
  simp only [ah,if_neg e]
  by_cases D:r=a
  ·rw [if_pos D];exact .inr rfl
  ·rw [if_neg D];exact .inl rfl
 ·refine ⟨b,δ2,cap,ak,by rw [Nat.add_zero],ar,?_,?_⟩
  ·rw [←ay];simp [Val.addS]
  ·simp
theorem zt8 {w w2:World} (Y:St P n0 w0 ν s w) {a:K} {A el:Nat} (hb:ν.blk a m=some (b,A)) (o:Tr.get B.none a s.h=.row l m el true mn 0 0)
  {i:TypeInfo} (hi:P.info? el=some i) (aQ:0<ln.length) {b2 ad:Nat} {c2:Array Value} {an:Nat × Nat} (aH:Below n0 w0 w2) (aS:n0≤b2)
  (aB:∀ k,k<w.heap.size→k≠b2→w2.heap[k]?=w.heap[k]?) (aD:w2.heap[b2]?=some (.cells c2 el an)) (aJ:an.1=an.2)
  (aK:δ2+ad*i.size≤c2.size) (hm:m+ln.length≤ad*i.size) (aE:∀ j x,(l++ln)[j]?=some x→∃ y,c2[δ2+j]?=some y∧(x≠.bad→y.oneCell'=true)∧VR ν x y)
  (ax:(b2=b∧δ2=A∧∃ c fz,w.heap[b]?=some (.cells c el fz)∧c2.size=c.size∧∀ j,j<A+m→c2[j]?=c[j]?)∨w.heap.size≤b2) :
  ∃ W,Out P n0 w0 ν s W ⟨Tr.set B.none (.row (l++ln) (m+ln.length) el true mn 0 0) a s.h,s.nx⟩ w2∧W.blk a (m+ln.length)=some (b2,δ2)∧W.cap a (m+ln.length)=ad∧W.sz a=i.size:=by
 have ai:(Tr.get B.none a s.h).live:=by rw [o];trivial
 have L:=Y.rows a
 rw [o] at L
 have X:=L.len
 have ay:P.cellsOf el=i.size:=by simp [Program.cellsOf,hi]
 have hsz:∀ v p,ν.blk a v=some p→ν.sz a=i.size:=by
  intro v p Z
  obtain ⟨c,fz,_,h,_⟩:=L.at_ v p.1 p.2 Z
  rw [h,ay]
 have aF:ν.blk a (m+ln.length)=none:=by
  cases h:ν.blk a (m+ln.length) with
  | none=>rfl
  | some p=>have:=L.vn rfl _ _ h;omega
 have az:ν.le (ν.addS a (m+ln.length) b2 δ2 ad i.size):=Val.le_addS aF hsz
 have ae:(ν.addS a (m+ln.length) b2 δ2 ad i.size).blk a (m+ln.length)=some (b2,δ2):=Val.addS_self
 have u:∀ r F,¬(r=a∧F=m+ln.length)→(ν.addS a (m+ln.length) b2 δ2 ad i.size).blk r F=ν.blk r F:=fun r F h=>Val.addS_ne h
 have ao:(ν.addS a (m+ln.length) b2 δ2 ad i.size).cap a (m+ln.length)=ad:=by simp [Val.addS]
 have aq:∀ F,F≠m+ln.length→(ν.addS a (m+ln.length) b2 δ2 ad i.size).cap a F=ν.cap a F:=fun F h=>by simp [Val.addS,h]
 have aj:(ν.addS a (m+ln.length) b2 δ2 ad i.size).sz a=i.size:=by simp [Val.addS]
 generalize ν.addS a (m+ln.length) b2 δ2 ad i.size=W at *
 have ah:∀ r,r≠a→∀ F,W.blk r F=ν.blk r F:=fun r h F=>u r F (fun e=>h e.1)
 have ak:∀ r,Tr.get B.none r (Tr.set B.none (.row (l++ln) (m+ln.length) el true mn 0 0) a s.h)=if r=a then .row (l++ln) (m+ln.length) el true mn 0 0 else Tr.get B.none r s.h:=fun r=>get_set _ _ _ _ _
 have there:∀ r F b' aa,ν.blk r F=some (b',aa)→(Tr.get B.none r s.h).live→b'<w.heap.size:=fun r F b' aa h f=>(Y.rows r).there f h
 -- aL block aR this aO
 have al:∀ r F b' aa,r≠a→ν.blk r F=some (b',aa)→(Tr.get B.none r s.h).live→b'≠b2:=by
  intro r F b' aa aM M f e
  rcases ax with ⟨D,_⟩ | h
  ·rw [e,D] at M
   exact aM (Y.sep _ _ _ _ _ _ _ M hb f ai)
  ·have:=there r F b' aa M f;omega
 refine ⟨W,⟨az,⟨aH,Y.n0le,fun r=>?_,fun r ar=>?_,fun a1 H b1 d1 a2 C d2 T D l1 l2=>?_,fun r F b' aa M au=>?_⟩,kad _,fun r ar O=>?_⟩,ae,ao,aj⟩
 ·simp only [ak]
  by_cases e:r=a
  ·subst e
   rw [if_pos rfl]
   refine ⟨by rw [kae,X],fun g=>(by cases g),fun _ F p Z=>?_,fun _=>by have:=L.mnn rfl;omega,fun H C b' d1 d2 T D=>?_,fun F b' aa M=>?_⟩
   ·by_cases ev:F=m+ln.length
    ·omega
    ·rw [u _ _ (fun h=>ev h.2)] at Z
     have:=L.vn rfl _ _ Z;omega
   ·by_cases aA:H=m+ln.length
    ·by_cases av:C=m+ln.length
     ·rw [aA,ae] at T;rw [av,ae] at D
      simp only [Option.some.injEq,Prod.mk.injEq] at T D
      omega
     ·rw [aA,ae] at T;rw [u _ _ (fun h=>av h.2)] at D
      simp only [Option.some.injEq,Prod.mk.injEq] at T
      rcases ax with ⟨N,d,_⟩ | q
      ·rw [←T.1,N] at D
       rw [←T.2,d]
       exact L.same _ _ _ _ _ hb D
      ·have:=there _ _ _ _ D ai;omega
    ·by_cases av:C=m+ln.length
     ·rw [av,ae] at D;rw [u _ _ (fun h=>aA h.2)] at T
      simp only [Option.some.injEq,Prod.mk.injEq] at D
      rcases ax with ⟨N,d,_⟩ | q
      ·rw [←D.1,N] at T
       rw [←D.2,d]
       exact L.same _ _ _ _ _ T hb
      ·have:=there _ _ _ _ T ai;omega
     ·rw [u _ _ (fun h=>aA h.2)] at T;rw [u _ _ (fun h=>av h.2)] at D
      exact L.same _ _ _ _ _ T D
   ·by_cases ev:F=m+ln.length
    ·rw [ev,ae] at M
     simp only [Option.some.injEq,Prod.mk.injEq] at M
     obtain ⟨N,d⟩:=M
     rw [←N,←d]
     refine ⟨c2,an,aD,by rw [aj,ay],.inr (.inl aJ),fun _=>by rw [aj,ev,ao];exact ⟨aK,hm⟩,fun _ j x G _=>?_⟩
     ·obtain ⟨y,I,J,Q⟩:=aE j x G
      exact ⟨y,I,J,Q.mono' az⟩
    ·rw [u _ _ (fun h=>ev h.2)] at M
     have aT:=L.vn rfl _ _ M
     obtain ⟨c,fz,k1,k2,k3,k4,k5⟩:=L.at_ F b' aa M
     have k3:FzR fz aa 0 0:=by
      rcases k3 with ⟨h,_⟩ | h
      ·cases h
      ·exact h
     have aN:(true=true→mn≤F)→∀ (j:Nat) (x:V),(l++ln)[j]?=some x→(true=true→j<F)→∃ y,c[aa+j]?=some y∧(x≠.bad→y.oneCell'=true)∧VR W x y:=by
      intro g j x G E
      have:=E rfl
      rw [kar (by omega)] at G
      obtain ⟨y,I,J,Q⟩:=k5 g j x G E
      exact ⟨y,I,J,Q.mono' az⟩
     by_cases eb:b'=b2
     ·rcases ax with ⟨N,d,cc,ff,q3,q4,q5⟩ | q
      ·subst eb
       rw [N] at k1 M ⊢
       rw [N] at aD
       rw [q3] at k1
       simp only [Option.some.injEq,Obj.cells.injEq] at k1
       obtain ⟨rfl,_,rfl⟩:=k1
       have aP:=L.same _ _ _ _ _ M hb
       subst aP
       refine ⟨c2,an,aD,by rw [aj,ay],.inr (.inl aJ),fun g=>by rw [aj,aq F ev,q4,←hsz _ _ hb];exact k4 g,fun g j x G E=>?_⟩
       ·obtain ⟨y,I,J,Q⟩:=aN g j x G E
        have:=E rfl
        exact ⟨y,by rw [q5 _ (by omega)];exact I,J,Q⟩
      ·have:=there _ _ _ _ M ai;omega
     ·have O:=there _ _ _ _ M ai
      have hh:=aB b' O eb
      exact ⟨c,fz,by rw [hh];exact k1,by rw [aj,ay],.inr k3,fun g=>by rw [aj,aq F ev,←hsz _ _ hb];exact k4 g,aN⟩
  ·rw [if_neg e]
   exact BR.frame (BR.mono az (ah r e) (Y.rows r)) fun F b' aa M au=>by
    rw [ah r e] at M
    exact aB b' (there _ _ _ _ M au) (al r F b' aa e M au)
 ·have e:r≠a:=by intro e;subst e;have:=(Y.fresh r ar).1 m;rw [this] at hb;cases hb
  obtain ⟨N,d⟩:=Y.fresh r ar
  exact ⟨fun F=>by rw [ah r e];exact N F,by simp only [ak,if_neg e];exact d⟩
 ·have hold:∀ r F b' aa,r≠a→W.blk r F=some (b',aa)→(Tr.get B.none r (Tr.set B.none (.row (l++ln) (m+ln.length) el true mn 0 0) a s.h)).live→ν.blk r F=some (b',aa)∧(Tr.get B.none r s.h).live:=by
   intro r F b' aa e h f
   rw [ah r e] at h
   rw [ak,if_neg e] at f
   exact ⟨h,f⟩
  have aw:∀ r F aG b' aa aC,r≠a→W.blk r F=some (b',aa)→(Tr.get B.none r (Tr.set B.none (.row (l++ln) (m+ln.length) el true mn 0 0) a s.h)).live→W.blk a aG=some (b',aC)→False:=by
   intro r F aG b' aa aC e h f J
   obtain ⟨R,U⟩:=hold r F b' aa e h f
   by_cases ev:aG=m+ln.length
   ·rw [ev,ae] at J
    simp only [Option.some.injEq,Prod.mk.injEq] at J
    exact al r F b' aa e R U J.1.symm
   ·rw [u _ _ (fun h=>ev h.2)] at J
    exact e (Y.sep _ _ _ _ _ _ _ R J U ai)
  by_cases n1:a1=a
  ·by_cases n2:a2=a
   ·rw [n1,n2]
   ·subst n1;exact (aw a2 C H b1 d2 d1 n2 D l2 T).elim
  ·by_cases n2:a2=a
   ·subst n2;exact (aw a1 H C b1 d1 d2 n1 T l1 D).elim
   ·obtain ⟨R,U⟩:=hold a1 H b1 d1 n1 T l1
    obtain ⟨g3,g4⟩:=hold a2 C b1 d2 n2 D l2
    exact Y.sep _ _ _ _ _ _ _ R g3 U g4
 ·by_cases e:r=a
  ·subst e
   left
   by_cases ev:F=m+ln.length
   ·rw [ev,ae] at M
    simp only [Option.some.injEq,Prod.mk.injEq] at M
    omega
   ·rw [u _ _ (fun h=>ev h.2)] at M
    rcases Y.own _ _ _ _ M ai with h | h
    ·exact h
    ·rw [o] at h;exact absurd h.1 (by simp)
  ·simp only [ak,if_neg e] at au ⊢
   rw [ah r e] at M
   exact Y.own r F b' aa M au
 ·have e:r≠a:=by intro e;subst e;rw [ar] at hb;cases hb
  exact ⟨fun F=>by rw [ah r e];exact ar F,.inl (by simp only [ak,if_neg e])⟩
theorem zkM {w:World} {off:Nat} (U:w.rangeAt b off old) (f:old.length=len*sz):∀ w':World,w'.heap=w.heap→(Builtin.firstCells sz len (.slice (some ⟨b,off,none⟩) len cap)).run P w'=.ok old.toArray w':=by
 intro w' X
 have:=run_loadCells_list (P:=P) (w:=w') ⟨b,off,none⟩ old (fun j v E=>by rw [jx,zmr X];exact U j v E)
 rw [f] at this
 exact this
theorem Out.kill0 {n0:Nat} {w0 w:World} (Y:St P n0 w0 ν s w) {a:K} (halt:a.toNat<s.nx.toNat):Out P n0 w0 ν s ν ⟨Tr.set B.none .none a s.h,s.nx⟩ w:=by
 refine ⟨ν.le_refl,zqs Y a halt,kad _,fun r m O=>⟨m,?_⟩⟩
 simp only [get_set]
 split
 ·exact .inr rfl
 ·exact .inl rfl
theorem Out.kill {n0:Nat} {w0 w:World} (Y:St P n0 w0 ν s w) {a:K} {p:Nat × Nat} (hb:ν.blk a v=some p):Out P n0 w0 ν s ν ⟨Tr.set B.none .none a s.h,s.nx⟩ w:=by
 have halt:a.toNat<s.nx.toNat:=by
  rcases kaK a.toNat s.nx.toNat with h | h
  ·exact h
  ·have:=(Y.fresh a h).1 v;rw [this] at hb;cases hb
 refine ⟨ν.le_refl,zqs Y a halt,kad _,fun r m O=>⟨m,?_⟩⟩
 simp only [get_set]
 split
 ·exact .inr rfl
 ·exact .inl rfl
structure ApOk (P:Program) (ats:Array TypeId) (t el:TypeId) (i:TypeInfo) (z:Value):Prop where
 h0:ats[0]?=some t
 hu:P.underlying t=some (.slice el)
 hi:P.info? el=some i
 hz:∀ w,(zeroValue el).run P w=.ok z w
 hb:i.bytes≤1024
 hzs:z.cells.size=i.size
 hsz:i.size≠0
def zwj (P:Program) (ats:Array TypeId) (_ _:TypeId) (i:TypeInfo) (z:Value) (x:V) (n:Nat) (new:List V) (s:S) (v:V) (U:S):Prop :=
 ∀ n0 w0 L w (zeros:Bool) (cargs:Array Value) (ty:TypeId) (O B:Value) (cs:List Value),St P n0 w0 L s w→cargs[0]?=some O→cargs[1]?=some B→VR L x O→zpD P ats i.size z w zeros B n cs→VRs L new cs→(∀ y∈cs,y.oneCell'=true)→cs.length=n*i.size →
  ∃ W y A,Out P n0 w0 L s W U A∧VR W v y∧(Builtin.append_ ats ty cargs).run P w=.ok y A
variable {W f1 f2:Nat}
theorem zBB {w:World} {a:K} {el q:Nat} {D:Bool} {i:TypeInfo} (F:zbt P ν s w) (y:Tr.get B.none a s.h=.row l m el D W f1 f2) (hb:ν.blk a v=some (b,q)) (hi:P.info? el=some i):ν.sz a=i.size:=by
 have:=F a
 rw [y] at this
 obtain ⟨c,E,_,h,_⟩:=this.at_ v b q hb
 rw [h,Program.cellsOf,hi];rfl
theorem zkh {ats:Array TypeId} {t el:TypeId} {i:TypeInfo} {z:Value} (hA:ApOk P ats t el i z) {x:V} {n:Nat} {new:List V} {k:V→S→A} (G:¬(zbP el i.size x n new s k).isBad) :
  ∃ v U,k v U=zbP el i.size x n new s k∧zwj P ats t el i z x n new s v U:=by
 have aA:0<i.size:=Nat.pos_of_ne_zero hA.hsz
 unfold zbP at G ⊢
 cases hn:Nat.beq n 0 with
 | true =>
  have hn:=kac hn
  subst hn
  have zero:(∀ (L:Val) (y:Value),VR L x y→∃ base len cap,y=.slice base len cap∧len≤cap)→zwj P ats t el i z x 0 new s x s:=by
   intro M n0 w0 L w zeros cargs ty xv yv cs Y c0 c1 aj ae E I aa
   obtain ⟨base,len,cap,e,aB⟩:=M L xv aj
   subst e
   exact ⟨L,_,w,Out.refl Y,aj,zpx hA.h0 hA.hu hA.hi hA.hb c0 c1 ae aa aB⟩
  cases x with
  | nil u =>
   simp only at G ⊢
   cases hu:Nat.beq u 1 with
   | false=>rw [hu] at G;exact absurd trivial G
   | true =>
    have:=kac hu
    subst this
    exact ⟨_,_,rfl,zero fun L y h=>⟨none,0,0,h,kad _⟩⟩
  | ref u a =>
   simp only at G ⊢
   cases hu:Nat.beq u 1 with
   | false=>rw [hu] at G;exact absurd trivial G
   | true =>
    have:=kac hu
    subst this
    exact ⟨_,_,rfl,zero fun L y h=>by obtain ⟨_,cap,e⟩:=VR.ref1 h;exact ⟨_,0,cap,e,Nat.zero_le _⟩⟩
  | sl a v o len cap=>exact ⟨_,_,rfl,zero fun L y h=>by obtain ⟨b,q,_,e,h⟩:=h;exact ⟨_,len,cap,e,h⟩⟩
  | so a v o len e=>exact ⟨_,_,rfl,zero fun L y h=>by obtain ⟨b,q,cap,_,e,h,_⟩:=h;exact ⟨_,len,cap,e,h⟩⟩
  | _=>exact absurd trivial G
 | false =>
  have aM:n≠0:=fun h=>by subst h;simp at hn
  simp only [hn] at G ⊢
  -- a grown slice aN old cells ba known
  have grow:∀ (s:S) (l:List V) (ak:Nat),¬(wj s el l ak k).isBad→ak≤68719476736∧k (.so s.nx l.length 0 ak 0) ⟨Tr.set B.none (.row l l.length el true 0 0 0) s.nx s.h,s.nx.succ⟩=wj s el l ak k:=by
   intro s l ak G
   unfold wj at G ⊢
   cases hb:Nat.ble ak 68719476736 with
   | false=>rw [hb] at G;exact absurd trivial G
   | true=>exact ⟨kax.mp hb,(zcd (c:=fun a n s=>k (.so a n 0 ak 0) s)).symm⟩
  cases x with
  | nil u =>
   simp only at G ⊢
   cases hu:Nat.beq u 1 with
   | false=>rw [hu] at G;exact absurd trivial G
   | true =>
    have:=kac hu
    subst this
    simp only [hu] at G ⊢
    obtain ⟨I,J⟩:=grow _ _ _ G
    refine ⟨_,_,J,fun n0 w0 L w zeros cargs ty xv yv cs Y c0 c1 aj ae E C aa=>?_⟩
    simp only [VR] at aj
    subst aj
    obtain ⟨N,hN,an,hr,ah⟩:=jP (base:=none) (sLen:=0) (sCap:=0) (ty:=ty) hA.h0 hA.hu hA.hi hA.hz hA.hb c0 c1 ae aa hA.hzs (by omega) (by omega) (old:=[]) (fun w' _=>by simp [Builtin.firstCells])
    simp only [kas,List.nil_append] at hN hr ah
    obtain ⟨W,R,f⟩:=zeb Y (w1:={ w with drawn:=w.drawn+1 }) rfl rfl rfl rfl hA.hi E C (by rw [←E.length];exact aa) hN hr
    exact ⟨W,_,_,R,f,ah⟩
  | ref u a =>
   simp only at G ⊢
   cases hu:Nat.beq u 1 with
   | false=>rw [hu] at G;exact absurd trivial G
   | true =>
    have:=kac hu
    subst this
    simp only [hu,y8] at G ⊢
    cases Z:Tr.get B.none a s.h with
    | row l m aC gr mn f1 f2 =>
     rw [Z] at G
     simp only at G ⊢
     cases X:zB gr (zB (Nat.beq el aC) (zB (Nat.beq f1 0) (Nat.beq f2 0))) with
     | false=>rw [X] at G;exact absurd trivial G
     | true =>
      obtain ⟨D,p⟩:=zy X
      obtain ⟨p,q3⟩:=zy p
      obtain ⟨q3,q4⟩:=zy q3
      have p:=kac p
      have q3:=kac q3
      have q4:=kac q4
      subst D p q3 q4
      simp only [X,ym] at G ⊢
      obtain ⟨I,J⟩:=grow _ _ _ G
      refine ⟨_,_,J,fun n0 w0 L w zeros cargs ty xv yv cs Y c0 c1 aj ae E C aa=>?_⟩
      rcases aj with ⟨ad,f⟩ | ⟨v,b,q,off,cap,R,f,g3,g4⟩
      ·subst f
       obtain ⟨N,hN,an,hr,ah⟩:=jP (ty:=ty) hA.h0 hA.hu hA.hi hA.hz hA.hb c0 c1 ae aa hA.hzs (by omega) (by omega) (old:=[]) (fun w' _=>by simp [Builtin.firstCells,loadCells,loadCellsFrom])
       simp only [kas,List.nil_append] at hN hr ah
       have halt:a.toNat<s.nx.toNat:=by
        rcases kaK a.toNat s.nx.toNat with h | h
        ·exact h
        ·have:=(Y.fresh a h).2;rw [this] at Z;cases Z
       have F:=Out.kill0 Y halt
       obtain ⟨W,p1,p2⟩:=zeb F.st (w1:={ w with drawn:=w.drawn+1 }) rfl rfl rfl rfl hA.hi E C (by rw [←E.length];exact aa) hN hr
       exact ⟨W,_,_,F.trans p1,p2,ah⟩
      subst f
      have hsz:=zBB Y.rows Z R hA.hi
      have aD:=E.length
      by_cases ai:0+n≤cap
      ·have aE:∀ c fz,w.heap[b]?=some (.cells c el fz)→off+cap*i.size≤c.size:=by
        intro c fz ar
        have hr:=Y.rows a
        rw [Z] at hr
        obtain ⟨c',aO,k1,_,_,k4,_⟩:=hr.at_ v b q R
        rw [k1] at ar
        simp only [Option.some.injEq,Obj.cells.injEq] at ar
        obtain ⟨rfl,_,_⟩:=ar
        have:=(k4 rfl).1
        rw [hsz] at this g4
        omega
       obtain ⟨p1,W,p2,p3⟩:=zxY Y R Z hA.hi (δ2:=off) (len:=0) (n:=n) (cap:=cap) (lo:=[]) (ln:=new) (old:=[]) (cs:=cs) rfl E (by simp) C (by simp) aa (fun j v h=>by simp at h) ai aE
       have:=zbc (ty:=ty) hA.h0 hA.hu hA.hi hA.hz hA.hb c0 c1 ae aa hA.hzs ai p1 C
       rw [kas] at p3
       exact ⟨W,_,_,p2,p3,by rw [kas] at this;exact this⟩
      ·obtain ⟨N,hN,an,hr,ah⟩:=jP (ty:=ty) hA.h0 hA.hu hA.hi hA.hz hA.hb c0 c1 ae aa hA.hzs (by omega) (by omega) (old:=[]) (fun w' _=>by simp [Builtin.firstCells,loadCells,loadCellsFrom])
       simp only [kas,List.nil_append] at hN hr ah
       have F:=Out.kill Y R
       obtain ⟨W,p1,p2⟩:=zeb F.st (w1:={ w with drawn:=w.drawn+1 }) rfl rfl rfl rfl hA.hi E C (by rw [←E.length];exact aa) hN hr
       exact ⟨W,_,_,F.trans p1,p2,ah⟩
    | _=>rw [Z] at G;exact absurd trivial G
  | sl a v o len cap =>
   simp only [zE] at G ⊢
   cases ai:Nat.ble (Nat.add len n) cap with
   | true =>
    have al:len+n≤cap:=kax.mp ai
    simp only [ai] at G ⊢
    obtain ⟨U,g4,g5,g6⟩:=wP (P:=P) G
    refine ⟨_,U,g4,fun n0 w0 L w zeros cargs ty xv yv cs Y c0 c1 aj ae E C aa=>?_⟩
    obtain ⟨b,q,p1,p2,p3⟩:=aj
    subst p2
    obtain ⟨q5,q6,q7⟩:=g6 Y b q p1 cs E (by rw [←E.length];exact aa) C
    have T:q+(o+len*i.size)=q+o+len*i.size:=by omega
    have q5:w.there b (q+o+len*i.size) cs.length:=by rw [aa,←T];exact q5
    have q6:St P n0 w0 L U (w.setCells b (q+o+len*i.size) cs):=by rw [←T];exact q6
    exact ⟨L,_,_,Out.write q6 g5 q7,⟨b,q,p1,rfl,al⟩,zbc hA.h0 hA.hu hA.hi hA.hz hA.hb c0 c1 ae aa hA.hzs al q5 C⟩
   | false =>
    have aH:cap<len+n:=by
     rcases kaK cap (len+n) with h | h
     ·exact h
     ·have h9:Nat.ble (Nat.add len n) cap=true:=kax.mpr h
      rw [h9] at ai;cases ai
    simp only [ai,wr] at G ⊢
    obtain ⟨lo,I,J⟩:=je (P:=P) G
    rw [←I] at G ⊢
    obtain ⟨Q,K⟩:=grow _ _ _ G
    refine ⟨_,_,K,fun n0 w0 L w zeros cargs ty xv yv cs Y c0 c1 aj ae E C aa=>?_⟩
    obtain ⟨b,q,p1,p2,p3⟩:=aj
    subst p2
    obtain ⟨old,r1,r2,r3,r4⟩:=J Y.rows b q p1
    have r1:old.length=len*i.size:=r1
    have Q:len+n≤68719476736:=Q
    obtain ⟨N,hN,an,hr,ah⟩:=jP (ty:=ty) hA.h0 hA.hu hA.hi hA.hz hA.hb c0 c1 ae aa hA.hzs aH Q (old:=old) (zkM r2 r1)
    have au:=r3.append E
    obtain ⟨W,R,f⟩:=zeb Y (w1:={ w with drawn:=w.drawn+1 }) rfl rfl rfl rfl hA.hi au (fun y d=>by rcases kaq.1 d with h | h;exact r4 y h;exact C y h) (by rw [←au.length,kae,r1,aa,←Nat.add_mul]) hN hr
    exact ⟨W,_,_,R,f,ah⟩
  | so a v o len e =>
   simp only [zE,y8] at G ⊢
   cases Z:Tr.get B.none a s.h with
   | row l m aC gr mn f1 f2 =>
    rw [Z] at G
    simp only at G ⊢
    cases X:zB gr (zB (Nat.beq el aC) (zB (Nat.beq f1 0) (Nat.beq f2 0))) with
    | false=>rw [X] at G;exact absurd trivial G
    | true =>
     obtain ⟨D,p⟩:=zy X
     obtain ⟨p,q3⟩:=zy p
     obtain ⟨q3,q4⟩:=zy q3
     have p:=kac p
     have q3:=kac q3
     have q4:=kac q4
     subst D p q3 q4
     simp only [X] at G ⊢
     -- aJ aK slice is in aK machine
     have aF:∀ (n0:Nat) (w0:World) (L:Val) (w:World) (b q cap:Nat),St P n0 w0 L s w→L.blk a v=some (b,q)→L.cap a v=e+cap→o=e*L.sz a→∃ c fz,w.heap[b]?=some (.cells c el fz)∧L.sz a=i.size∧o=e*i.size∧q+o+cap*i.size≤c.size∧v≤o+cap*i.size∧fz.1=fz.2∧n0≤b ∧
       (mn≤v→∀ j x,l[j]?=some x→j<v→∃ y,c[q+j]?=some y∧(x≠.bad→y.oneCell'=true)∧VR L x y):=by
      intro n0 w0 L w b q cap Y hb aL C
      have hr:=Y.rows a
      rw [Z] at hr
      obtain ⟨c,fz,k1,k2,k3,k4,k5⟩:=hr.at_ v b q hb
      have hsz:=zBB Y.rows Z hb hA.hi
      have k3:FzR fz q 0 0:=by
       rcases k3 with ⟨h,_⟩ | h
       ·cases h
       ·exact h
      obtain ⟨k4,k6⟩:=k4 rfl
      rw [hsz,aL,Nat.add_mul] at k4 k6
      rw [hsz] at C
      refine ⟨c,fz,k1,hsz,C,by omega,by omega,(by unfold FzR at k3;omega),?_,fun g j x r E=>k5 (fun _=>g) j x r (fun _=>E)⟩
      ·rcases Y.own a v b q hb (by rw [Z];trivial) with h | h
       ·exact h
       ·rw [Z] at h;exact absurd h.1 (by simp)
     cases I:zB (Nat.beq v m) (Nat.ble (Nat.add (Nat.add o (Nat.mul len i.size)) (Nat.mul n i.size)) m) with
     | true =>
      obtain ⟨r1,r2⟩:=zy I
      have r1:=kac r1
      have r2:o+len*i.size+n*i.size≤m:=kax.mp r2
      subst r1
      simp only [I] at G ⊢
      obtain ⟨U,g4,g5,g6⟩:=wP (P:=P) G
      refine ⟨_,U,g4,fun n0 w0 L w zeros cargs ty xv yv cs Y c0 c1 aj ae E C aa=>?_⟩
      obtain ⟨b,q,cap,p1,p2,p3,p4,p5⟩:=aj
      subst p2
      obtain ⟨c,fz,t1,t2,t3,t4,t5,av,t7,t8⟩:=aF n0 w0 L w b q cap Y p1 p4 p5
      have t6:=fun (j:Nat) (_:j<c.size)=>zyL t1 av j
      have al:len+n≤cap:=by
       have:(len+n)*i.size≤cap*i.size:=by rw [Nat.add_mul];omega
       exact Nat.le_of_mul_le_mul_right this aA
      obtain ⟨q5,q6,q7⟩:=g6 Y b q p1 cs E (by rw [←E.length];exact aa) C
      have T:q+(o+len*i.size)=q+o+len*i.size:=by omega
      have q5:w.there b (q+o+len*i.size) cs.length:=by rw [aa,←T];exact q5
      have q6:St P n0 w0 L U (w.setCells b (q+o+len*i.size) cs):=by rw [←T];exact q6
      exact ⟨L,_,_,Out.write q6 g5 q7,⟨b,q,cap,p1,rfl,al,p4,p5⟩,zbc hA.h0 hA.hu hA.hi hA.hz hA.hb c0 c1 ae aa hA.hzs al q5 C⟩
     | false =>
      simp only [I] at G ⊢
      cases J:zB (Nat.beq v m) (zB (Nat.beq (Nat.add o (Nat.mul len i.size)) m) (zB (Nat.beq o 0) (Nat.beq e 0))) with
      | true =>
       obtain ⟨s1,H⟩:=zy J
       obtain ⟨s3,s4⟩:=zy H
       obtain ⟨s5,s6⟩:=zy s4
       have r1:=kac s1
       have r2:o+len*i.size=m:=kac s3
       have r3:=kac s5
       have r4:=kac s6
       clear s1 H s3 s4 s5 s6
       subst r1 r3 r4
       rw [kas] at r2
       simp only [J] at G ⊢
       cases Q:Nat.ble (Nat.add len n) 68719476736 with
       | false=>rw [Q] at G;exact absurd trivial G
       | true =>
        have aP:len+n≤68719476736:=kax.mp Q
        simp only [wr,ym] at G ⊢
        refine ⟨_,_,rfl,fun n0 w0 L w zeros cargs ty xv yv cs Y c0 c1 aj ae E C aa=>?_⟩
        obtain ⟨b,q,cap,p1,p2,p3,p4,p5⟩:=aj
        subst p2
        obtain ⟨c,fz,t1,t2,t3,t4,t5,av,t7,t8⟩:=aF n0 w0 L w b q cap Y p1 p4 p5
        have t6:=fun (j:Nat) (_:j<c.size)=>zyL t1 av j
        have ao:=Y.rows a
        rw [Z] at ao
        have bb:=ao.len
        have aQ:=E.length
        have aD:new.length=n*i.size:=by rw [←aQ,aa]
        have aw:0<new.length:=by rw [aD];exact Nat.mul_pos (Nat.pos_of_ne_zero aM) aA
        have aZ:v+n*i.size=(len+n)*i.size:=by rw [Nat.add_mul,r2]
        have e0:q+0+len*i.size=q+v:=by rw [r2];omega
        have aR:(Tr.get B.none a s.h)=.row l v el true mn 0 0:=Z
        -- aJ aK row holds
        obtain ⟨old,o1,o2,o3,o4⟩:=ao.cells' (v:=v) (o:=0) (m:=v) p1 ((zeq _ _ _ _ _).2 ⟨fun _=>⟨ao.mnn rfl,kad _,by omega⟩,fun g=>by cases g⟩)
        rw [List.drop_zero,List.take_of_length_le (by omega)] at o3 o4
        rw [Nat.add_zero] at o2
        have gen:∀ (b2 δ2 aq:Nat) (y:Value) (w2:World),(∃ W,Out P n0 w0 L s W ⟨Tr.set B.none (.row (l++new) (v+new.length) el true mn 0 0) a s.h,s.nx⟩ w2∧W.blk a (v+new.length)=some (b2,δ2)∧W.cap a (v+new.length)=aq∧W.sz a=i.size)→y=.slice (some ⟨b2,δ2,none⟩) (len+n) aq→len+n≤aq→(Builtin.append_ ats ty cargs).run P w=.ok y w2 →
          ∃ W y w',Out P n0 w0 L s W ⟨Tr.set B.none (.row (l++new) (Nat.add v (Nat.mul n i.size)) el true mn 0 0) a s.h,s.nx⟩ w'∧VR W (.so a (Nat.add v (Nat.mul n i.size)) 0 (Nat.add len n) 0) y∧(Builtin.append_ ats ty cargs).run P w=.ok y w':=by
         rintro b2 δ2 aq y w2 ⟨W,u1,u2,u3,u4⟩ d aB ah
         have em:Nat.add v (Nat.mul n i.size)=v+new.length:=by rw [aD];rfl
         rw [em]
         exact ⟨W,y,w2,u1,⟨b2,δ2,aq,u2,by rw [d];rfl,aB,by rw [u3,kas],by rw [Nat.zero_mul]⟩,ah⟩
        by_cases ai:len+n≤cap
        ·have aS:(len+n)*i.size≤cap*i.size:=kag _ ai
         have ay:w.there b (q+v) cs.length:=by
          intro j r
          have O:q+v+j<c.size:=by omega
          exact ⟨by rw [jl t1];simp [O],t6 _ O⟩
         obtain ⟨c2,k1,k2,k3⟩:=wo b cs (q+v) w c el fz t1
         refine gen b q cap _ _ (zt8 Y p1 Z hA.hi aw (Below.setCells t7 cs _ w Y.below) t7 (fun kk F az=>jt _ _ _ _ _ az) k1 av (by omega) (by omega) (fun j x r=>?_) (.inl ⟨rfl,rfl,c,fz,t1,k2,fun j r=>by rw [k3 j (by omega),if_neg (by omega)]⟩)) rfl ai ?_
         ·have aG:=(kaE.1 r).1
          rw [kae] at aG
          rw [k3 _ (by omega)]
          by_cases aT:j<l.length
          ·rw [kar aT] at r
           rw [if_neg (by omega)]
           exact t8 (ao.mnn rfl) j x r (by omega)
          ·rw [kaw (by omega)] at r
           obtain ⟨y,d,hr⟩:=E.get _ x r
           rw [if_pos (by omega),show q+j - (q+v)=j - l.length by omega]
           exact ⟨y,d,fun _=>C y (kav d),hr⟩
         ·have:=zbc (ty:=ty) hA.h0 hA.hu hA.hi hA.hz hA.hb c0 c1 ae aa hA.hzs ai (by rw [e0];exact ay) C
          rw [e0] at this
          exact this
        ·obtain ⟨N,hN,an,hr,ah⟩:=jP (ty:=ty) hA.h0 hA.hu hA.hi hA.hz hA.hb c0 c1 ae aa hA.hzs (by omega) aP (old:=old) (zkM (by rw [Nat.add_zero];exact o2) (by rw [o1,r2]))
         have ax:n0≤w.heap.size:=kaB Y.n0le Y.below.size
         have aU:(len+n)*i.size+(N - (len+n))*i.size=N*i.size:=by rw [←Nat.add_mul];congr 1;omega
         have aV:Below n0 w0 ({ w with drawn:=w.drawn+1 }:World):=Y.below.trans ⟨rfl,rfl,rfl,kad _,fun _ _=>rfl⟩
         refine gen w.heap.size 0 N _ _ (zt8 Y p1 Z hA.hi aw (aV.alloc ax _) ax (fun kk F az=>Below.heap_alloc ({ w with drawn:=w.drawn+1 }:World) _ kk F) (zaR ({ w with drawn:=w.drawn+1 }:World) _) rfl ?_ ?_ (fun j x r=>?_) (.inr (kad _))) rfl hN ah
         ·simp only [List.size_toArray,kae];omega
         ·omega
         ·have aG:=(kaE.1 r).1
          rw [kae] at aG
          have au:=o3.append E
          obtain ⟨y,d,aW⟩:=au.get j x r
          have aX:=(kaE.1 d).1
          refine ⟨y,by rw [kas,List.getElem?_toArray,kar aX];exact d,fun az=>?_,aW⟩
          by_cases aY:j<old.length
          ·rw [kar aY] at d
           rw [kar (by omega)] at r
           exact o4 j x y r d az
          ·rw [kaw (by omega)] at d
           exact C y (kav d)
      | false =>
       simp only [J,wr] at G ⊢
       obtain ⟨lo,R,f⟩:=je (P:=P) G
       rw [←R] at G ⊢
       simp only [ym] at G ⊢
       obtain ⟨Q,K⟩:=grow _ _ _ G
       have Q:len+n≤68719476736:=Q
       refine ⟨_,_,K,fun n0 w0 L w zeros cargs ty xv yv cs Y c0 c1 aj ae E C aa=>?_⟩
       obtain ⟨b,q,cap,p1,p2,p3,p4,p5⟩:=aj
       subst p2
       obtain ⟨c,fz,t1,t2,t3,t4,t5,av,t7,t8⟩:=aF n0 w0 L w b q cap Y p1 p4 p5
       have t6:=fun (j:Nat) (_:j<c.size)=>zyL t1 av j
       obtain ⟨old,r1,r2,r3,r4⟩:=f Y.rows b q p1
       have r1:old.length=len*i.size:=r1
       have au:=r3.append E
       by_cases ai:len+n≤cap
       ·obtain ⟨k1,W,k2,k3⟩:=zxY Y p1 Z hA.hi (δ2:=q+o) (len:=len) (n:=n) (cap:=cap) r3 E r4 C r1 aa r2 ai (fun c' aO ar=>by
         rw [t1] at ar
         simp only [Option.some.injEq,Obj.cells.injEq] at ar
         obtain ⟨rfl,_,_⟩:=ar
         exact t4)
        exact ⟨W,_,_,k2,k3,zbc (ty:=ty) hA.h0 hA.hu hA.hi hA.hz hA.hb c0 c1 ae aa hA.hzs ai k1 C⟩
       ·obtain ⟨N,hN,an,hr,ah⟩:=jP (ty:=ty) hA.h0 hA.hu hA.hi hA.hz hA.hb c0 c1 ae aa hA.hzs (by omega) Q (old:=old) (zkM r2 r1)
        have F:=Out.kill Y p1
        obtain ⟨W,k1,k2⟩:=zeb F.st (w1:={ w with drawn:=w.drawn+1 }) rfl rfl rfl rfl hA.hi au (fun y d=>by rcases kaq.1 d with h | h;exact r4 y h;exact C y h) (by rw [←au.length,kae,r1,aa,←Nat.add_mul]) hN hr
        exact ⟨W,_,_,F.trans k1,k2,ah⟩
   | _=>rw [Z] at G;exact absurd trivial G
  | _=>exact absurd trivial G
def zsF (P:Program) (pc:PC) (b:Builtin) (ts:List TypeId):Prop:=∀ H s k,¬((buC pc b ts).run H s k).isBad→∃ v U,k v U=(buC pc b ts).run H s k ∧
 ∀ n0 w0 L w (cargs:Array Value) (ty:TypeId) (S:Array Bool),St P n0 w0 L s w→VRs L H cargs.toList→∃ W y A,Out P n0 w0 L s W U A∧VR W v y∧(builtin b ts.toArray ty S cargs).run P w=.ok (.value y) A
variable {ts:List TypeId}
theorem zdP.op {pc:PC} {b:Builtin} (h:zdP P pc b ts):zsF P pc b ts:=fun H s k G=>by
 obtain ⟨z,I,J⟩:=h H s k G
 refine ⟨z,s,I,fun n0 w0 L w cargs ty S Y E=>?_⟩
 obtain ⟨y,Q,K⟩:=J L w cargs ty S Y.rows E
 exact ⟨L,y,w,Out.refl Y,Q,K⟩
variable {fi:FI} {o:Oper}
theorem zsJ {pc:PC} {ds:List Nat} {c:Call} {b:Builtin} (C:o.op=.call c) (X:c.callee=.builtin b) (hb:b≠.recover) (h:zsF P pc b c.argTypes.toList):OpS P pc fi ds o:=by
 intro r N le s k G
 rw [zgD C X hb] at G ⊢
 obtain ⟨H,I,J⟩:=zay fi ds c.args.toList N le _ G
 rw [←I] at G ⊢
 obtain ⟨v,U,Q,K⟩:=h H s k G
 refine ⟨v,U,Q,fun n0 w0 L w D Y O B=>?_⟩
 obtain ⟨S,d⟩:=zgH (P:=P) C X (ev D) w
 obtain ⟨W,y,A,Z,g,R⟩:=K n0 w0 L w (c.args.map (ev D)) o.type S Y (by simpa using J L D O (fun x M=>B x (zew C M)))
 exact ⟨W,y,A,Z,g,.inl (by rw [d];simpa using R)⟩
theorem zux {pc:PC} (Z:PcOk P pc) (ts:List TypeId):zsF P pc .append ts:=by
 intro H s k G
 cases ts with
 | nil=>exact absurd trivial G
 | cons t ts =>
  have e:buC pc .append (t::ts)=buC pc .append (t::ts):=rfl
  conv at e=>rhs;simp only [buC]
  have dead:∀ m,buC pc .append (t::ts)=wX m→False:=fun m h=>by rw [h] at G;exact G trivial
  cases hu:pc.und t with
  | none=>rw [hu] at e;exact (dead _ e).elim
  | some d =>
   rw [hu] at e
   cases d with
   | slice el =>
    simp only at e
    rcases PC.sz_or pc el (wX 0) _ with h | ⟨i,hi,h⟩
    ·exact (dead _ (e.trans h)).elim
    ·rw [h] at e
     rcases PC.by_or pc el (wX 0) _ with h | ⟨i',N,h⟩
     ·exact (dead _ (e.trans h)).elim
     ·rw [h] at e
      rw [hi] at N
      simp only [Option.some.injEq] at N
      subst N
      rcases PC.zc_or Z el (wX 0) _ with h | ⟨zc,h,z,hz,q,T⟩
      ·exact (dead _ (e.trans h)).elim
      ·rw [h] at e
       rcases zbd (Nat.beq (zk5 zc) i.size && (Nat.ble i.bytes 1024 && !(Nat.beq i.size 0))) (wX 0) _ with h | ⟨X,h⟩
       ·exact (dead _ (e.trans h)).elim
       ·rw [h] at e
        simp only [zE] at e
        simp only [kaf] at X
        obtain ⟨c1,c2,c3⟩:=X
        have ah:zc.length=i.size:=by rw [←ziL];exact kac c1
        have b:z.cells.size=i.size:=by have:=(q ⟨fun _ _=>none,fun _ _=>0,fun _=>0⟩).length;simp at this;omega
        have p:ApOk P (t::ts).toArray t el i z:=⟨by simp,Z.und hu,Z.info _ _ hi,hz,kax.mp c2,b,fun h=>by rw [h] at c3;cases c3⟩
        cases aa:apZ pc ts with
        | none=>rw [aa] at e;exact (dead _ e).elim
        | some zeros =>
         rw [aa] at e
         obtain ⟨u,r,ae,ad⟩:∃ u r,ts=u::r∧(if zeros then ∃ l,pc.und u=some (.int l) else ∃ d,pc.und u=some d∧∀ l,d≠.int l):=by
          cases ts with
          | nil=>cases aa
          | cons u r =>
           refine ⟨u,r,rfl,?_⟩
           simp only [apZ] at aa
           cases B:pc.und u with
           | none=>rw [B] at aa;cases aa
           | some d =>
            rw [B] at aa
            cases d<;>simp only [Option.some.injEq] at aa<;>subst aa<;>first
             | exact ⟨_,rfl⟩
             | exact ⟨_,rfl,fun l h=>by cases h⟩
         have fin:∀ (x:V) (n:Nat) (new:List V) (v:V) (U:S),zwj P (t::ts).toArray t el i z x n new s v U→∀ n0 w0 L w (cargs:Array Value) (ty:TypeId) (F:Array Bool) (O yv:Value) (cs:List Value),St P n0 w0 L s w→cargs[0]?=some O→cargs[1]?=some yv→VR L x O→zpD P (t::ts).toArray i.size z w zeros yv n cs→VRs L new cs→(∀ y∈cs,y.oneCell'=true)→cs.length=n*i.size →
           ∃ W y A,Out P n0 w0 L s W U A∧VR W v y∧(builtin .append (t::ts).toArray ty F cargs).run P w=.ok (.value y) A:=by
          intro x n new v U Q n0 w0 L w cargs ty F O yv cs a1 a2 a3 a4 a5 a6 a7 a8
          obtain ⟨W,y,A,M,j,g⟩:=Q n0 w0 L w zeros cargs ty O yv cs a1 a2 a3 a4 a5 a6 a7 a8
          exact ⟨W,y,A,M,j,by simp only [builtin,Sem.run_bind,g,Result.andThen_ok,Sem.run_pure]⟩
         cases zeros with
         | true =>
          simp only [if_true] at ad
          obtain ⟨l,ad⟩:=ad
          have D:(buC pc .append (t::ts)).run H s k=zq3 H fun x y=>zjr el i.size zc x y s k:=by rw [e]
          rw [D] at G ⊢
          obtain ⟨x,y,J,ea,I⟩:=znO G
          subst ea
          rw [←I] at G ⊢
          cases y with
          | nat ky n =>
           unfold zjr at G ⊢
           simp only at G ⊢
           cases hb:Nat.ble n 68719476736 with
           | false=>rw [hb] at G;exact absurd trivial G
           | true =>
            simp only [hb,zg1] at G ⊢
            obtain ⟨v,U,R,f⟩:=zkh p G
            refine ⟨v,U,R,fun n0 w0 L w cargs ty F Y E=>?_⟩
            obtain ⟨O,C,o⟩:=E.first
            obtain ⟨yv,a,c⟩:=E.second
            simp only [VR] at c
            refine fin x n (rep zc n) v U f n0 w0 L w cargs ty F O yv ((List.range n).flatMap fun _=>z.cells.toList) Y C a o ?_ (zgG (q L) n) (znZ T) ?_
            ·exact ⟨⟨u,l,by rw [ae];simp,Z.und ad⟩,⟨ky,c⟩,kax.mp hb,rfl⟩
            ·have:=(zgG (q L) n).length
             rw [zjg,ah] at this
             exact this
          | _=>exact absurd trivial G
         | false =>
          simp only [Bool.false_eq_true,if_false] at ad
          obtain ⟨d,ad,B⟩:=ad
          have D:(buC pc .append (t::ts)).run H s k=zq3 H fun x y=>zN el i.size x y s k:=by rw [e]
          rw [D] at G ⊢
          obtain ⟨x,y,J,ea,I⟩:=znO G
          subst ea
          rw [←I] at G ⊢
          unfold zN at G ⊢
          obtain ⟨n,new,f1,f2⟩:=zek (P:=P) G
          rw [←f1] at G ⊢
          obtain ⟨v,U,R,f⟩:=zkh p G
          refine ⟨v,U,R,fun n0 w0 L w cargs ty F Y E=>?_⟩
          obtain ⟨O,C,o⟩:=E.first
          obtain ⟨yv,a,c⟩:=E.second
          obtain ⟨cs,c4,c5,c6,c7,c8⟩:=f2 L w yv Y.rows c
          refine fin x n new v U f n0 w0 L w cargs ty F O yv cs Y C a o ?_ c4 c5 c6
          refine ⟨⟨u,d,by rw [ae];simp,Z.und ad,B⟩,c7,fun A K=>?_⟩
          have:=c8 n (kad _) A K
          rwa [List.take_of_length_le (by omega)] at this
   | _=>exact (dead _ e).elim
theorem zAZ {pc:PC} (Z:PcOk P pc) (ts:List TypeId):zsF P pc .copy ts:=by
 intro H s k G
 cases ts with
 | nil=>exact absurd trivial G
 | cons t ts =>
  have e:buC pc .copy (t::ts)=buC pc .copy (t::ts):=rfl
  conv at e=>rhs;simp only [buC]
  have dead:∀ m,buC pc .copy (t::ts)=wX m→False:=fun m h=>by rw [h] at G;exact G trivial
  cases hu:pc.und t with
  | none=>rw [hu] at e;exact (dead _ e).elim
  | some d =>
   rw [hu] at e
   cases d with
   | slice el =>
    simp only at e
    rcases PC.sz_or pc el (wX 0) _ with h | ⟨i,hi,h⟩
    ·exact (dead _ (e.trans h)).elim
    ·rw [h] at e
     have D:(buC pc .copy (t::ts)).run H s k=zq3 H fun x y=>ztH i.size x y s k:=by rw [e]
     rw [D] at G ⊢
     obtain ⟨x,y,rr,ea,I⟩:=znO G
     subst ea
     rw [←I] at G ⊢
     have go:∀ (a:K) (v o len:Nat),(∀ (L:Val) (z:Value),VR L x z→∃ b O cap,L.blk a v=some (b,O)∧z=.slice (some ⟨b,O+o,none⟩) len cap)→¬(zkO i.size a v o len y s k).isBad→∃ C U,k C U=zkO i.size a v o len y s k ∧
       ∀ n0 w0 L w (cargs:Array Value) (ty:TypeId) (S:Array Bool),St P n0 w0 L s w→VRs L (x::y::rr) cargs.toList→∃ W z w',Out P n0 w0 L s W U w'∧VR W C z∧(builtin .copy (t::ts).toArray ty S cargs).run P w=.ok (.value z) w':=by
      intro a v o len M G
      unfold zkO at G ⊢
      obtain ⟨n,new,f1,f2⟩:=zek (P:=P) G
      rw [←f1] at G ⊢
      simp only [zE] at G ⊢
      have core:∀ n0 w0 L w (cargs:Array Value) (ty:TypeId) (S:Array Bool),St P n0 w0 L s w→VRs L (x::y::rr) cargs.toList→∃ (b O:Nat) (cs:List Value),L.blk a v=some (b,O)∧VRs L new cs∧(∀ y∈cs,y.oneCell'=true)∧cs.length=n*i.size ∧
        ∀ w',(storeCells ⟨b,O+o,none⟩ (cs.take (Nat.min n len*i.size))).run P w=.ok () w'→(builtin .copy (t::ts).toArray ty S cargs).run P w=.ok (.value (.int .i64 (Int.ofNat (Nat.min n len)))) w':=by
       intro n0 w0 L w cargs ty S Y E
       obtain ⟨xv,u,r⟩:=E.first
       obtain ⟨yv,y1,y2⟩:=E.second
       obtain ⟨b,O,cap,R,q⟩:=M L xv r
       obtain ⟨cs,c4,c5,c6,c7,c8⟩:=f2 L w yv Y.rows y2
       refine ⟨b,O,cs,R,c4,c5,c6,fun w' g=>?_⟩
       subst q
       have B:=c8 (Nat.min n len) (Nat.min_le_left _ _) w rfl
       have:(Builtin.copy_ (t::ts).toArray ty cargs).run P w=.ok (.int .i64 (Int.ofNat (Nat.min n len))) w':=by
        simp only [Builtin.copy_,List.getElem?_toArray,List.getElem?_cons_zero,u,y1,Sem.run_bind,zC (Z.und hu),Result.andThen_ok,c7,qN (Z.info _ _ hi),B,g,Sem.run_pure,goInt]
        rfl
       simp only [builtin,Sem.run_bind,this,Result.andThen_ok,Sem.run_pure]
      cases Q:Nat.beq (Nat.min n len) 0 with
      | true =>
       have Q:=kac Q
       refine ⟨_,_,rfl,fun n0 w0 L w cargs ty S Y E=>?_⟩
       obtain ⟨b,O,cs,R,c4,c5,c6,c⟩:=core n0 w0 L w cargs ty S Y E
       have:=c w (by rw [Q];simp [storeCells])
       rw [Q] at this
       exact ⟨L,_,w,Out.refl Y,rfl,this⟩
      | false =>
       simp only [Q,zgX] at G ⊢
       obtain ⟨U,p,X,g6⟩:=wP (P:=P) G
       refine ⟨_,U,p,fun n0 w0 L w cargs ty S Y E=>?_⟩
       obtain ⟨b,O,cs,R,c4,c5,c6,c⟩:=core n0 w0 L w cargs ty S Y E
       have j:Nat.min n len*i.size≤n*i.size:=kag _ (Nat.min_le_left _ _)
       have f:=c4.length
       have V:(cs.take (Nat.min n len*i.size)).length=Nat.min n len*i.size:=by rw [List.length_take];omega
       have aa:∀ y∈cs.take (Nat.min n len*i.size),y.oneCell'=true:=fun y F=>c5 y (List.mem_of_mem_take F)
       obtain ⟨q5,q6,q7⟩:=g6 Y b O R _ (c4.take (Nat.min n len*i.size)) (by rw [List.length_take];show min (Nat.min n len*i.size) _=Nat.min n len*i.size;omega) aa
       have q5:w.there b (O+o) (cs.take (Nat.min n len*i.size)).length:=by rw [V];exact q5
       exact ⟨L,_,_,Out.write q6 X q7,rfl,c _ (zfz q5 aa)⟩
     cases x with
     | sl a v o len cap=>exact go a v o len (fun L z h=>by obtain ⟨b,O,I,J,_⟩:=h;exact ⟨b,O,cap,I,J⟩) G
     | so a v o len e=>exact go a v o len (fun L z h=>by obtain ⟨b,O,cap,I,J,_⟩:=h;exact ⟨b,O,cap,I,J⟩) G
     | ref t a =>
      by_cases l:t=1
      ·subst l
       have N:ztH i.size (.ref 1 a) y s k=qA i.size y s fun _ _=>k (.nat .i64 0) s:=rfl
       rw [N] at G ⊢
       obtain ⟨n,new,f1,f2⟩:=zek (P:=P) G
       refine ⟨_,_,f1,fun n0 w0 L w cargs ty S Y E=>?_⟩
       obtain ⟨xv,u,r⟩:=E.first
       obtain ⟨yv,y1,y2⟩:=E.second
       obtain ⟨ad,cap,q⟩:=r.ref1
       obtain ⟨cs,c4,c5,c6,c7,c8⟩:=f2 L w yv Y.rows y2
       subst q
       have B:=c8 0 (Nat.zero_le _) w rfl
       have Q:Nat.min n 0=0:=Nat.min_zero _
       have:(Builtin.copy_ (t::ts).toArray ty cargs).run P w=.ok (.int .i64 (Int.ofNat 0)) w:=by
        simp only [Builtin.copy_,List.getElem?_toArray,List.getElem?_cons_zero,u,y1,Sem.run_bind,zC (Z.und hu),Result.andThen_ok,c7,qN (Z.info _ _ hi),Q,B,Nat.zero_mul,List.take_zero,storeCells,Sem.run_pure,goInt]
        simp 
       refine ⟨L,.int .i64 (Int.ofNat 0),w,Out.refl Y,rfl,?_⟩
       simp only [builtin,Sem.run_bind,this,Result.andThen_ok,Sem.run_pure]
      ·have N:Nat.beq t 1=false:=by
        cases h:Nat.beq t 1 with
        | true=>exact absurd (kac h) l
        | false=>rfl
       have T:ztH i.size (.ref t a) y s k=.bad 0:=by
        show (@Bool.rec (fun _=>A) eA _ (Nat.beq t 1):A)=_
        rw [N]
       rw [T] at G
       exact absurd trivial G
     | _=>exact absurd trivial G
   | _=>exact (dead _ e).elim
variable {U:Nat}
theorem FzR.grow {E:Nat × Nat} {q R:Nat} (h:FzR E q f1 f2) (Q:(f1=f2)∨(R≤f1∧f2≤U)):FzR E q R U:=by
 unfold FzR at *
 omega
theorem zsh {o n:Nat} {c:Nat→Nat→A}:∃ R U,zod f1 f2 o n c=c R U∧((f1=f2∧R=o∧U=o+n)∨(f1≠f2∧R=min f1 o∧U=max f2 (o+n))):=by
 unfold zod
 cases h:Nat.beq f1 f2 with
 | true=>exact ⟨o,o+n,by simp only [zE];rfl,.inl ⟨kac h,rfl,rfl⟩⟩
 | false=>exact ⟨min f1 o,max f2 (o+n),by simp only [zE];rfl,.inr ⟨fun e=>by subst e;simp at h,rfl,rfl⟩⟩
theorem zrA {n0:Nat} {w0 w:World} (Y:St P n0 w0 ν s w) {a:K} {el q o n R:Nat} (y:Tr.get B.none a s.h=.row l m el true W f1 f2) (hb:ν.blk a v=some (b,q)) (j:n≠0)
  (X:(f1=f2∧R=o∧U=o+n)∨(f1≠f2∧R=min f1 o∧U=max f2 (o+n))) :
  St P n0 w0 ν ⟨Tr.set B.none (.row l m el true W R U) a s.h,s.nx⟩ (w.freeze ⟨b,q+o,none⟩ n):=by
 have A:(Tr.get B.none a s.h).live:=by rw [y];trivial
 have L:=Y.rows a
 rw [y] at L
 have ae:n0≤b:=by
  rcases Y.own a v b q hb A with h | h
  ·exact h
  ·rw [y] at h;exact absurd h.1 (by simp)
 have ad:∀ k,k≠b→(w.freeze ⟨b,q+o,none⟩ n).heap[k]?=w.heap[k]?:=by
  intro k F
  unfold World.freeze
  rw [if_neg j]
  simp only [Array.getElem?_modify]
  rw [if_neg (fun e=>F e.symm)]
 have ah:∀ c E,w.heap[b]?=some (.cells c el E)→(w.freeze ⟨b,q+o,none⟩ n).heap[b]?=some (.cells c el (if E.1 == E.2 then (q+o,q+o+n) else (min E.1 (q+o),max E.2 (q+o+n)))):=by
  intro c E h
  unfold World.freeze
  rw [if_neg j]
  simp only [Array.getElem?_modify,h]
  simp
 have qk:∀ r,Tr.get B.none r (Tr.set B.none (.row l m el true W R U) a s.h)=if r=a then .row l m el true W R U else Tr.get B.none r s.h:=fun r=>get_set _ _ _ _ _
 have aa:∀ r,(Tr.get B.none r (Tr.set B.none (.row l m el true W R U) a s.h)).live→(Tr.get B.none r s.h).live:=by
  intro r h
  rw [qk] at h
  by_cases e:r=a
  ·rw [e];exact A
  ·rwa [if_neg e] at h
 refine ⟨Lib.below_freeze Y.below ae n,Y.n0le,fun r=>?_,fun r O=>?_,fun a1 H D aj a2 C ak I J g l2=>Y.sep _ _ _ _ _ _ _ I J (aa _ g) (aa _ l2),fun r Z N f M T=>?_⟩
 ·simp only [qk]
  by_cases e:r=a
  ·subst e
   rw [if_pos rfl]
   refine ⟨L.len,L.v0,L.vn,L.mnn,L.same,fun Z N f M=>?_⟩
   obtain ⟨c,E,u,Q,d,p,G⟩:=L.at_ Z N f M
   have d:FzR E f f1 f2:=by
    rcases d with ⟨h,_⟩ | h
    ·cases h
    ·exact h
   by_cases eb:N=b
   ·subst eb
    have ai:=L.same _ _ _ _ _ M hb
    subst ai
    refine ⟨c,_,ah c E u,Q,.inr ?_,p,G⟩
    unfold FzR at *
    by_cases e0:E.1=E.2
    ·have:(E.1 == E.2)=true:=by simp [e0]
     rw [this]
     simp only [if_true]
     right
     omega
    ·have:(E.1 == E.2)=false:=by simp [e0]
     rw [this]
     simp only [Bool.false_eq_true,if_false]
     right
     omega
   ·exact ⟨c,E,by rw [ad _ eb];exact u,Q,.inr (d.grow (by omega)),p,G⟩
  ·rw [if_neg e]
   refine (Y.rows r).frame fun Z N f M T=>ad _ fun eb=>e ?_
   subst eb
   exact Y.sep r Z N f a v q M hb T A
 ·obtain ⟨I,J⟩:=Y.fresh r O
  refine ⟨I,?_⟩
  simp only [qk]
  rw [if_neg]
  ·exact J
  ·intro e;subst e;rw [J] at y;cases y
 ·rcases Y.own r Z N f M (aa _ T) with h | h
  ·exact .inl h
  ·refine .inr ?_
   simp only [qk]
   by_cases e:r=a
   ·subst e;rw [y] at h;exact absurd h.1 (by simp)
   ·rw [if_neg e];exact h
theorem zo8 {c:V→A} (G:¬(zmN l c).isBad):∃ x,l=[x]∧c x=zmN l c:=by
 cases l with
 | nil=>exact absurd trivial G
 | cons x r=>cases r with
  | nil=>exact ⟨x,rfl,rfl⟩
  | cons _ _=>exact absurd trivial G
theorem zq6 {c:V→V→A} (G:¬(zlC l c).isBad):∃ x y,l=[x,y]∧c x y=zlC l c:=by
 cases l with
 | nil=>exact absurd trivial G
 | cons x r=>cases r with
  | nil=>exact absurd trivial G
  | cons y r=>cases r with
   | nil=>exact ⟨x,y,rfl,rfl⟩
   | cons _ _=>exact absurd trivial G
variable {c:Array Value}
theorem VRs.one {x:V} (h:VRs ν [x] c.toList):∃ y,c=#[y]∧VR ν x y:=by
 obtain ⟨y,r,e,I,J⟩:=h
 simp only [VRs] at J
 subst J
 exact ⟨y,by apply Array.ext';simpa using e,I⟩
theorem VRs.two {x y:V} (h:VRs ν [x,y] c.toList):∃ u v,c=#[u,v]∧VR ν x u∧VR ν y v:=by
 obtain ⟨u,r,e,I,v,Y,D,J,Q⟩:=h
 simp only [VRs] at Q
 subst Q D
 exact ⟨u,v,by apply Array.ext';simpa using e,I,J⟩
theorem znm {pc:PC} (ts:List TypeId):zdP P pc .unsafeSliceData ts:=by
 intro H s k G
 have e:(buC pc .unsafeSliceData ts).run H s k=zmN H fun x=>jL x fun v=>k v s:=by cases ts<;>rfl
 rw [e] at G ⊢
 obtain ⟨x,ea,I⟩:=zo8 G
 subst ea
 rw [←I] at G ⊢
 have fin:∀ (w:World) (ty:TypeId) (S:Array Bool) (a:Option Addr) (n c:Nat),(a=none∨c≠0)→(builtin .unsafeSliceData ts.toArray ty S #[.slice a n c]).run P w=.ok (.value (.pointer a)) w:=by
  intro w ty S a n c T
  rcases a with _ | a
  ·simp [builtin,Lib.run_unsafeSliceData_nil]
  ·rcases T with h | h
   ·cases h
   ·simp [builtin,Lib.run_unsafeSliceData_row w ts.toArray ty a n c h]
 cases x with
 | nil t =>
  unfold jL at G ⊢
  simp only at G ⊢
  cases F:Nat.beq t 1 with
  | false=>rw [F] at G;exact absurd trivial G
  | true =>
   have:=kac F
   subst this
   refine ⟨.nil 0,rfl,fun L w cargs ty S m E=>?_⟩
   obtain ⟨y,Y,J⟩:=E.one
   simp only [VR] at J
   subst Y J
   exact ⟨_,rfl,fin w ty S none 0 0 (.inl rfl)⟩
 | sl a v o len cap =>
  unfold jL at G ⊢
  simp only at G ⊢
  cases F:Nat.beq cap 0 with
  | true=>rw [F] at G;exact absurd trivial G
  | false =>
   have h0:cap≠0:=fun h=>by subst h;simp at F
   refine ⟨.ptr a v o,rfl,fun L w cargs ty S m E=>?_⟩
   obtain ⟨y,Y,b,q,J,Q,K⟩:=E.one
   subst Y Q
   exact ⟨_,⟨b,q,J,rfl⟩,fin w ty S _ _ _ (.inr h0)⟩
 | so a v o len p =>
  unfold jL at G ⊢
  simp only at G ⊢
  cases F:Nat.beq len 0 with
  | true=>rw [F] at G;exact absurd trivial G
  | false =>
   have h0:len≠0:=fun h=>by subst h;simp at F
   refine ⟨.ptr a v o,rfl,fun L w cargs ty S m E=>?_⟩
   obtain ⟨y,Y,b,q,cap,J,Q,K,_⟩:=E.one
   subst Y Q
   exact ⟨_,⟨b,q,J,rfl⟩,fin w ty S _ _ _ (.inr (by omega))⟩
 | _=>exact absurd trivial G
variable {k:IntKind} {pt ty:TypeId}
theorem zfj {w:World} {ats:Array TypeId} {e:TypeId} (d:ats[0]?=some pt) (Z:P.underlying pt=some (.pointer e)) (X:P.cellsOf e=1) {x cells:Nat} (F:w.shape? b=some (e,cells)) (l:List UInt8) (h0:l≠[]) (o:x+l.length≤cells) (E:l.length≤9223372036854775807)
  (r:∀ j u,l[j]?=some u→w.cell? ((⟨b,x,none⟩:Addr).add j)=some (.int .u8 u.toNat)) :
  (Builtin.unsafeString_ ats ty #[.pointer (some ⟨b,x,none⟩),.int k (Int.ofNat l.length)]).run P w=.ok (.string ⟨l.toArray⟩) (w.freeze ⟨b,x,none⟩ l.length):=by
 have f:l.length≠0:=by simpa using h0
 have S:=Lib.run_loadBytes (P:=P) w l ⟨b,x,none⟩ .empty r
 have G:=zhT (P:=P) (e:=e) (by rw [X];simp) (cells / P.cellsOf e) x l.length (by rw [X];simp [Nat.mod_one]) (by rw [X];simpa using o)
 have D:¬(9223372036854775807:Int)<(l.length:Int):=by omega
 have A:IntKind.i64.max=9223372036854775807:=rfl
 have B:¬(l.length:Int)<0:=by omega
 have C:Builtin.unsafeString_ ats ty #[.pointer (some ⟨b,x,none⟩),.int k (Int.ofNat l.length)] =
   (do
    let n ←asInt (.int k (Int.ofNat l.length))
    let some pt := ats[0]? | stuck "unsafe.String: no argument types"
    if n < 0 then runtimePanic (.error "unsafe.String: len out of range")
    if n > IntKind.i64.max then unsupported (.unsafePointer "String: a length above the largest int")
    if n=0 then pure (.string .empty)
    else if ←variablesAt ⟨b,x,none⟩ (←elemOf pt) n.toNat then do
     let s ←loadBytes ⟨b,x,none⟩ .empty n.toNat
     freeze ⟨b,x,none⟩ n.toNat
     pure (.string s)
    else unsupported (.unsafePointer "String: not so many bytes at ptr")) := rfl
 rw [C]
 simp [asInt,asIntOf,A,D,B,f,variablesAt,F,elemOf,run_underlying Z,G,S,d]
theorem zdy {w:World} {ats:Array TypeId} (d:ats[0]?=some pt) (p:Option Addr):(Builtin.unsafeString_ ats ty #[.pointer p,.int k (Int.ofNat 0)]).run P w=.ok (.string .empty) w:=by
 have A:IntKind.i64.max=9223372036854775807:=rfl
 cases p with
 | none =>
  have C:Builtin.unsafeString_ ats ty #[.pointer none,.int k (Int.ofNat 0)] =
    (do
     let n ←asInt (.int k (Int.ofNat 0))
     let some pt := ats[0]? | stuck "unsafe.String: no argument types"
     if n < 0 then runtimePanic (.error "unsafe.String: len out of range")
     if n > IntKind.i64.max then unsupported (.unsafePointer "String: a length above the largest int")
     if n=0 then pure (.string .empty)
     else runtimePanic (.error "unsafe.String: ptr is nil and len is not zero")) := rfl
  rw [C]
  simp [asInt,asIntOf,A,d]
 | some a =>
  have C:Builtin.unsafeString_ ats ty #[.pointer (some a),.int k (Int.ofNat 0)] =
    (do
     let n ←asInt (.int k (Int.ofNat 0))
     let some pt := ats[0]? | stuck "unsafe.String: no argument types"
     if n < 0 then runtimePanic (.error "unsafe.String: len out of range")
     if n > IntKind.i64.max then unsupported (.unsafePointer "String: a length above the largest int")
     if n=0 then pure (.string .empty)
     else if ←variablesAt a (←elemOf pt) n.toNat then do
      let s ←loadBytes a .empty n.toNat
      freeze a n.toNat
      pure (.string s)
     else unsupported (.unsafePointer "String: not so many bytes at ptr")) := rfl
  rw [C]
  simp [asInt,asIntOf,A,d]
theorem ziK {pc:PC} (Z:PcOk P pc) (ts:List TypeId):zsF P pc .unsafeString ts:=by
 intro H s k G
 cases ts with
 | nil=>exact absurd trivial G
 | cons t ts =>
  have e:buC pc .unsafeString (t::ts)=buC pc .unsafeString (t::ts):=rfl
  conv at e=>rhs;simp only [buC]
  have dead:∀ m,buC pc .unsafeString (t::ts)=wX m→False:=fun m h=>by rw [h] at G;exact G trivial
  cases hu:pc.und t with
  | none=>rw [hu] at e;exact (dead _ e).elim
  | some d =>
   rw [hu] at e
   cases d with
   | pointer el =>
    simp only at e
    rcases PC.sz_or pc el (wX 0) _ with h | ⟨i,hi,h⟩
    ·exact (dead _ (e.trans h)).elim
    ·rw [h] at e
     rcases zbd (Nat.beq i.size 1) (wX 0) _ with h | ⟨X,h⟩
     ·exact (dead _ (e.trans h)).elim
     ·rw [h] at e
      simp only [zE] at e
      have ae:P.cellsOf el=1:=by simp [Program.cellsOf,Z.info _ _ hi,kac X]
      have D:(buC pc .unsafeString (t::ts)).run H s k=zlC H fun x y=>zqW el x y s k:=by rw [e]
      rw [D] at G ⊢
      obtain ⟨x,y,ea,I⟩:=zq6 G
      subst ea
      rw [←I] at G ⊢
      have ak:(t::ts).toArray[0]?=some t:=by simp
      have none_:∀ (kk:IntKind) (_:∀ (L:Val) (z:Value),VR L x z→∃ p,z=.pointer p) U,U=s→y=.nat kk 0→k (.str []) U=k (.str []) s∧∀ n0 w0 L w (cargs:Array Value) (ty:TypeId) (S:Array Bool),St P n0 w0 L s w→VRs L [x,y] cargs.toList→∃ W y w',Out P n0 w0 L s W U w'∧VR W (.str []) y∧(builtin .unsafeString (t::ts).toArray ty S cargs).run P w=.ok (.value y) w':=by
       intro kk M U hs F
       subst hs F
       refine ⟨rfl,fun n0 w0 L w cargs ty S Y E=>?_⟩
       obtain ⟨u,v,T,D,e3⟩:=E.two
       obtain ⟨p,e4⟩:=M L u D
       simp only [VR] at e3
       subst T e3 e4
       refine ⟨L,.string .empty,w,Out.refl Y,⟨_,rfl,rfl⟩,?_⟩
       have:=zdy (P:=P) (w:=w) (ty:=ty) (k:=kk) ak p
       simp only [builtin,Sem.run_bind,this,Result.andThen_ok,Sem.run_pure]
      cases y with
      | nat kk n =>
       unfold zqW at G ⊢
       simp only at G ⊢
       cases ah:Nat.ble n 9223372036854775807 with
       | false=>rw [ah] at G;exact absurd trivial G
       | true =>
        have al:n≤9223372036854775807:=kax.mp ah
        simp only [ah] at G ⊢
        cases x with
        | nil u =>
         simp only at G ⊢
         cases an:zB (Nat.beq u 0) (Nat.beq n 0) with
         | false=>rw [an] at G;exact absurd trivial G
         | true =>
          obtain ⟨N,K⟩:=zy an
          have N:=kac N
          have K:=kac K
          subst N K
          obtain ⟨R,f⟩:=none_ kk (fun L z h=>⟨none,h⟩) s rfl rfl
          exact ⟨.str [],s,rfl,f⟩
        | ptr a v o =>
         simp only at G ⊢
         cases ai:Nat.beq n 0 with
         | true =>
          have K:=kac ai
          subst K
          obtain ⟨R,f⟩:=none_ kk (fun L z h=>by obtain ⟨b,O,_,h⟩:=h;exact ⟨_,h⟩) s rfl rfl
          exact ⟨.str [],s,rfl,f⟩
         | false =>
          have A:n≠0:=fun h=>by subst h;simp at ai
          simp only [ai,y8] at G ⊢
          generalize V:Tr.get B.none a s.h=B' at G ⊢
          cases B' with
          | row l m ao gr mn f1 f2 =>
           simp only at G ⊢
           cases aj:zB gr (Nat.beq ao el) with
           | false=>rw [aj] at G;exact absurd trivial G
           | true =>
            obtain ⟨N,K⟩:=zy aj
            have K:=kac K
            subst N K
            simp only [aj] at G ⊢
            obtain ⟨cv,r1,r2⟩:=je (P:=P) G
            rw [←r1] at G ⊢
            obtain ⟨bs,r3,r4,r5⟩:=zmw G
            rw [←r3] at G ⊢
            obtain ⟨R,f,r6,r7⟩:=zsh (f1:=f1) (f2:=f2) (o:=o) (n:=n) (c:=fun R f=>wV s a (.row l m ao true mn R f) fun s=>k (.str bs) s)
            rw [r6] at G ⊢
            simp only [ym] at G ⊢
            refine ⟨_,_,rfl,fun n0 w0 L w cargs ty S Y E=>?_⟩
            obtain ⟨u,C,T,⟨b,O,D,e4⟩,e3⟩:=E.two
            simp only [VR] at e3
            subst T e3 e4
            obtain ⟨cs,g,k2,k3,k4⟩:=r2 Y.rows b O D
            rw [r5] at k3
            have k5:=zhA k3
            have Q:=Y.rows a
            rw [V] at Q
            obtain ⟨c,fz,t1,_⟩:=Q.at_ v b O D
            have aa:bs.length=n:=by rw [←g,k5];simp
            have aq:∀ j z,cs[j]?=some z→O+o+j<c.size:=by
             intro j z hz
             have:=k2 j z hz
             rw [jl t1] at this
             exact (kat.1 this).1
            have hsz:O+o+n≤c.size:=by
             have:n - 1<cs.length:=by omega
             have:=aq (n - 1) _ (kab this)
             omega
            have ad:=zfj (P:=P) (w:=w) (ty:=ty) (k:=kk) ak (Z.und hu) ae (b:=b) (x:=O+o) (zjB t1) (bs.map UInt8.ofNat) (by intro h;have h9:=congrArg List.length h;simp at h9;subst h9;simp at aa;omega) (by simpa [aa] using hsz) (by simpa [aa] using al) (fun j z hz=>by
             rw [jx]
             refine k2 j _ ?_
             rw [k5]
             rw [kaD] at hz ⊢
             cases r:bs[j]? with
             | none=>rw [r] at hz;cases hz
             | some q =>
              rw [r] at hz
              simp only [Option.map_some,Option.some.injEq] at hz ⊢
              rw [←hz]
              have:=r4 q (kav r)
              simp;omega)
            have ar:(bs.map UInt8.ofNat).length=n:=by simpa using aa
            rw [ar] at ad
            refine ⟨L,_,_,Out.write (zrA Y V D A r7) rfl (zba D _),?_,by simp only [builtin,Sem.run_bind,ad,Result.andThen_ok,Sem.run_pure];rfl⟩
            refine ⟨_,rfl,?_⟩
            unfold zP
            simp only [List.map_map]
            conv=>rhs;rw [←List.map_id bs]
            apply List.map_congr_left
            intro q J
            have:=r4 q J
            simp;omega
          | _=>exact absurd trivial G
        | _=>exact absurd trivial G
      | _=>exact absurd trivial G
   | _=>exact (dead _ e).elim
theorem zyl {pc:PC} {b:Builtin} (h:∃ m,buC pc b ts=wX m):zsF P pc b ts:=fun H s k G=>by
 obtain ⟨m,h⟩:=h
 rw [h] at G;exact absurd trivial G
theorem zCg {pc:PC} (Z:PcOk P pc) (b:Builtin) (ts:List TypeId):zsF P pc b ts:=by
 cases b
 case append=>exact zux Z ts
 case copy=>exact zAZ Z ts
 case len=>exact (zxr Z ts).op
 case cap=>exact (zwl Z ts).op
 case min=>exact (zyI ts).op
 case max=>exact (zwW ts).op
 case unsafeSliceData=>exact (znm ts).op
 case unsafeString=>exact ziK Z ts
 all_goals exact zyl ⟨0,by cases ts<;>rfl⟩
variable {ok:Bool}
theorem zrS {t:Nat} {z x:V} {c:V→A} (G:¬(zby t ok z x c).isBad):∃ v,c v=zby t ok z x c∧∀ (ν:Val) (y f:Value) (H:TypeId) (d:TypeDesc),VR ν x y→VR ν z f→P.underlying t=some d→(∀ m,d≠.interface m)→(∀ w,(zeroValue t).run P w=.ok f w) →
  ∃ F,VR ν v F∧∀ w,(Instr.typeAssert y H t ok).run P w=.ok F w:=by
 cases x with
 | nil u =>
  unfold zby at G ⊢
  simp only at G ⊢
  cases X:zB ok (Nat.beq u 4) with
  | false=>rw [X] at G;exact absurd trivial G
  | true =>
   obtain ⟨j,p⟩:=zy X
   have p:=kac p
   subst j p
   refine ⟨_,rfl,fun ν y f H d Y hz hu B U=>?_⟩
   simp only [VR] at Y
   subst Y
   refine ⟨.tuple #[f,.bool false],VR.pair hz,fun w=>?_⟩
   unfold Instr.typeAssert
   rw [Sem.run_bind,zC hu]
   cases d<;>first | exact absurd rfl (B _) | simp [U]
 | ifc u v =>
  unfold zby at G ⊢
  simp only at G ⊢
  cases X:Nat.beq u t with
  | true =>
   have p:=kac X
   subst p
   cases ok with
   | true =>
    refine ⟨_,rfl,fun ν y f H d Y hz hu B U=>?_⟩
    obtain ⟨L,g,k⟩:=Y
    subst k
    refine ⟨.tuple #[L,.bool true],VR.pair g,fun w=>?_⟩
    unfold Instr.typeAssert
    rw [Sem.run_bind,zC hu]
    cases d<;>first | exact absurd rfl (B _) | simp
   | false =>
    refine ⟨_,rfl,fun ν y f H d Y hz hu B U=>?_⟩
    obtain ⟨L,g,k⟩:=Y
    subst k
    refine ⟨L,g,fun w=>?_⟩
    unfold Instr.typeAssert
    rw [Sem.run_bind,zC hu]
    cases d<;>first | exact absurd rfl (B _) | simp
  | false =>
   cases ok with
   | false=>rw [X] at G;exact absurd trivial G
   | true =>
    have Z:u≠t:=fun h=>by subst h;simp at X
    refine ⟨_,rfl,fun ν y f H d Y hz hu B U=>?_⟩
    obtain ⟨L,g,k⟩:=Y
    subst k
    refine ⟨.tuple #[f,.bool false],VR.pair hz,fun w=>?_⟩
    unfold Instr.typeAssert
    rw [Sem.run_bind,zC hu]
    cases d<;>first | exact absurd rfl (B _) | simp [Z,U]
 | _=>exact absurd trivial G
theorem ziF {pc:PC} (Z:PcOk P pc) {ds:List Nat} {H t:TypeId} {x:Operand} (C:o.op=.typeAssert x H t ok):jn P pc fi ds o:=by
 have e:op pc fi ds o=op pc fi ds o:=rfl
 conv at e=>rhs;simp only [op,C]
 cases hu:pc.und t with
 | none=>rw [hu] at e;exact zX e
 | some d =>
  have go:op pc fi ds o=(match pc.zero t with | .bad=>zO 0 | z=>fN t fun t=>cB ok fun ok=>un fi ds x fun v s k=>zby t ok z v fun v=>k v s)→(∀ m,d≠.interface m)→jn P pc fi ds o:=by
   intro e B
   by_cases hz:pc.zero t=.bad
   ·rw [hz] at e;exact zX e
   ·have e:op pc fi ds o=un fi ds x (fun v s k=>zby t ok (pc.zero t) v fun v=>k v s):=by
     rw [e]
     cases T:pc.zero t<;>first | exact absurd T hz | simp only [ztj,zE]
    obtain ⟨f,U⟩:=PC.zero_ok Z hz
    refine zbx (X:=zby t ok (pc.zero t)) e (by simp [C,Op.operands]) (fun v c G=>?_)
    obtain ⟨u,I,J⟩:=zrS (P:=P) G
    refine ⟨u,I,fun L D E=>?_⟩
    obtain ⟨F,Q,K⟩:=J L _ f H d E ((U default).2 L) (Z.und hu) B (fun w=>(U w).1)
    exact ⟨F,Q,fun w=>by simp [execOp,C,K]⟩
  rw [hu] at e
  cases d<;>first | exact zX e | exact go e (fun _ h=>by cases h)
theorem zyP {pc:PC} (Z:PcOk P pc) {ds:List Nat} {t:TypeId} {x:Operand} (C:o.op=.range t x):OpS P pc fi ds o:=by
 have e:op pc fi ds o=op pc fi ds o:=rfl
 conv at e=>rhs;simp only [op,C]
 cases hu:pc.und t with
 | none=>rw [hu] at e;exact OpS.bad e
 | some d =>
  rw [hu] at e
  cases d with
  | string =>
   simp only at e
   refine qE.op ?_
   intro r N le s k G
   rw [e,zbX] at G
   obtain ⟨u,I,J⟩:=qf fi ds x N le _ G
   rw [←I] at G
   cases u with
   | str l =>
    refine ⟨.ptr s.nx 0 0,.it l 0 0,by rw [e,zbX,←I];simp only [ztZ,zfc],fun L w j v b q h=>(by rw [j] at h;cases h),fun n0 w0 L D W w Y E B j O y=>?_⟩
    have Q:n0≤w.heap.size:=kaB Y.n0le Y.below.size
    obtain ⟨st,T,M⟩:=J L D E (B x (by simp [C,Op.operands]))
    refine ⟨L.add s.nx 0 w.heap.size 0 0,.pointer (some ⟨w.heap.size,0,none⟩),w.alloc (.stringIter st 0),Val.le_add j,?_,fun a K u=>Val.add_other K,zov Val.add_self,?_⟩
    ·refine zef Y s.nx j O 0 0 0 (zcE _ _) (fun k F=>Below.heap_alloc w _ k F) (Y.below.alloc Q _) ?_
     rcases y with h | h
     ·rw [h]
      intro v b q hb
      obtain ⟨R,U⟩:=Val.add_only j hb
      simp only [Prod.mk.injEq] at U
      obtain ⟨rfl,rfl⟩:=U
      exact ⟨R,rfl,st,zaR _ _,by rw [List.drop_zero];exact M⟩
     ·rw [h];trivial
    ·simp [execOp,C,T,Instr.range,zC (Z.und hu)]
   | _=>exact absurd trivial G
  | _=>exact OpS.bad e
variable {pos:Nat}
theorem zok {t:ByteArray} {c:Nat} {l:List Nat} (h:(zP t).drop pos=c::l) (X:c<128):pos<t.size∧Utf8.decode t pos=(c,1):=by
 have O:pos<t.size:=by
  rw [←qz]
  rcases kaK pos (zP t).length with I | I
  ·exact I
  ·rw [List.drop_eq_nil_of_le I] at h;cases h
 refine ⟨O,?_⟩
 have hb:(t.get! (pos+0)).toNat=c:=by
  have J:(zP t)[pos]?=some c:=by
   have:=List.getElem?_drop (xs:=zP t) (i:=pos) (j:=0)
   rw [h] at this
   simpa using this.symm
  unfold zP at J
  rw [kaD] at J
  have u:pos<t.data.size:=O
  rw [kam,Array.getElem?_eq_getElem u] at J
  simp only [Option.map_some,Option.some.injEq] at J
  rw [←J]
  congr 1
  simp only [Nat.add_zero,ByteArray.get!]
  exact getElem!_pos t.data pos u
 unfold Utf8.decode
 simp only [hb]
 rw [if_pos (by omega)]
theorem zvp (t:ByteArray) (pos k:Nat):(t.get! (pos+k)).toNat=((zP t).drop pos).getD k 0:=by
 rw [kaa,List.getElem?_drop]
 unfold zP
 rw [kaD,kam]
 by_cases u:pos+k<t.data.size
 ·rw [Array.getElem?_eq_getElem u]
  simp only [Option.map_some,Option.getD_some]
  congr 1
  simp only [ByteArray.get!]
  exact getElem!_pos t.data (pos+k) u
 ·rw [Array.getElem?_eq_none (by omega)]
  simp only [Option.map_none,Option.getD_none,ByteArray.get!]
  rw [getElem!_neg t.data (pos+k) u];rfl
theorem zpp {t:ByteArray}:Utf8.decode t pos=dcL ((zP t).drop pos):=by
 have C:∀ k,decide (pos+k<t.size)=decide (k<((zP t).drop pos).length):=fun k=>by
  rw [List.length_drop,qz]
  exact decide_eq_decide.2 (by omega)
 unfold Utf8.decode dcL
 simp only [zvp,C]
 rfl
theorem zAu {pc:PC} {ds:List Nat} {x:Operand} {aj:Bool} (C:o.op=.next x aj):OpS P pc fi ds o:=by
 have e:op pc fi ds o=op pc fi ds o:=rfl
 conv at e=>rhs;simp only [op,C]
 cases aj with
 | false=>exact OpS.bad e
 | true =>
  simp only at e
  intro r N le s k G
  rw [e,zbX] at G ⊢
  obtain ⟨u,I,J⟩:=qf fi ds x N le _ G
  rw [←I] at G ⊢
  cases u with
  | ptr a v off =>
   unfold zx1 at G ⊢
   simp only at G ⊢
   cases aa:Nat.beq off 0 with
   | false=>rw [aa] at G;exact absurd trivial G
   | true =>
    have aa:=kac aa
    subst aa
    simp only [y8] at G ⊢
    cases y:Tr.get B.none a s.h with
    | it l pos rr =>
     rw [y] at G
     have iter:∀ {n0:Nat} {w0 w:World} {L:Val} {D:Array Value},St P n0 w0 L s w→VR L (.ptr a v 0) (ev D x)→∃ b t,v=0∧L.blk a 0=some (b,0)∧ev D x=.pointer (some ⟨b,0,none⟩)∧w.heap[b]?=some (.stringIter t pos)∧(zP t).drop pos=l:=by
      intro n0 w0 w L D Y M
      obtain ⟨b,A,R,U⟩:=M
      have Q:=Y.rows a
      rw [y] at Q
      obtain ⟨j,d,t,m,V⟩:=Q v b A R
      subst j d
      exact ⟨b,t,rfl,R,by rw [U],m,V⟩
     have ad:∀ {w:World} {b:Nat} {t:ByteArray},w.heap[b]?=some (.stringIter t pos)→(getObj b).run P w=.ok (.stringIter t pos) w:=fun h=>by simp [getObj,Sem.run,h]
     cases l with
     | nil =>
      simp only at G ⊢
      refine ⟨_,s,rfl,fun n0 w0 L w D Y K F=>?_⟩
      obtain ⟨b,t,_,R,U,g,S⟩:=iter Y (J L D K (F x (by simp [C,Op.operands])))
      refine ⟨L,.tuple #[.bool false],w,Out.refl Y,⟨[.bool false],⟨_,_,rfl,rfl,rfl⟩,rfl⟩,.inl ?_⟩
      have Z:¬pos<t.size:=by
       intro O
       have:=congrArg List.length S
       rw [List.length_drop,qz] at this
       simp at this;omega
      simp [execOp,C,Instr.next,U,ad g,Z]
     | cons c l =>
      simp only at G ⊢
      cases X:Nat.blt c 128 with
      | false =>
       simp only [X,zBr,zE,ym] at G ⊢
       refine ⟨_,_,rfl,fun n0 w0 L w D Y K F=>?_⟩
       obtain ⟨b,t,ae,R,U,g,S⟩:=iter Y (J L D K (F x (by simp [C,Op.operands])))
       subst ae
       have d1:pos<t.size:=by
        rw [←qz]
        rcases kaK pos (zP t).length with I | I
        ·exact I
        ·rw [List.drop_eq_nil_of_le I] at S;cases S
       have d2:Utf8.decode t pos=dcL (c::l):=by rw [zpp,S]
       generalize dcL (c::l)=q at d2 ⊢
       obtain ⟨j,d⟩:=q
       have E:∀ v p,L.blk a v=some p→v=0:=by
        intro v p ah
        have:=Y.rows a
        rw [y] at this
        exact (this v p.1 p.2 ah).1
       refine ⟨L,.tuple #[.bool true,.int .i64 (Int.ofNat pos),.int .i32 (Int.ofNat j)],_,Out.write (zgM Y R (by rw [y];trivial) (by rw [y];exact fun h=>h) E (B':=.it ((c::l).drop d) (Nat.add pos d) rr) (o:=.stringIter t (pos+d)) (fun h=>h) (fun W ai=>?_)) rfl (zba R _),⟨[.bool true,.int .i64 (Int.ofNat pos),.int .i32 (Int.ofNat j)],⟨_,_,rfl,rfl,_,_,rfl,rfl,_,_,rfl,rfl,rfl⟩,rfl⟩,.inl ?_⟩
       ·intro v H f T
        have Q:=Y.rows a
        rw [y] at Q
        obtain ⟨j,d,_⟩:=Q v H f T
        subst j d
        rw [R] at T
        simp only [Option.some.injEq,Prod.mk.injEq,and_true] at T
        subst T
        refine ⟨rfl,rfl,t,ai,?_⟩
        rw [show Nat.add pos _=pos+_ from rfl,←List.drop_drop,S]
       ·have O:b<w.heap.size:=(kat.1 g).1
        have wV:(setObj b (.stringIter t (pos+d))).run P w=.ok () { w with heap:=w.heap.setIfInBounds b (.stringIter t (pos+d)) }:=by simp [setObj,Sem.run,g]
        simp [execOp,C,Instr.next,U,ad g,d1,d2,wV,goInt]
      | true =>
       have ak:c<128:=by simpa [Nat.blt_eq] using X
       simp only [X,zE,ym] at G ⊢
       refine ⟨_,_,rfl,fun n0 w0 L w D Y K F=>?_⟩
       obtain ⟨b,t,ae,R,U,g,S⟩:=iter Y (J L D K (F x (by simp [C,Op.operands])))
       subst ae
       obtain ⟨d1,d2⟩:=zok S ak
       have E:∀ v p,L.blk a v=some p→v=0:=by
        intro v p ah
        have:=Y.rows a
        rw [y] at this
        exact (this v p.1 p.2 ah).1
       refine ⟨L,.tuple #[.bool true,.int .i64 (Int.ofNat pos),.int .i32 (Int.ofNat c)],_,Out.write (zgM Y R (by rw [y];trivial) (by rw [y];exact fun h=>h) E (B':=.it l (Nat.succ pos) rr) (o:=.stringIter t (pos+1)) (fun h=>h) (fun W ai=>?_)) rfl (zba R _),⟨[.bool true,.int .i64 (Int.ofNat pos),.int .i32 (Int.ofNat c)],⟨_,_,rfl,rfl,_,_,rfl,rfl,_,_,rfl,rfl,rfl⟩,rfl⟩,.inl ?_⟩
       ·intro v H f T
        have Q:=Y.rows a
        rw [y] at Q
        obtain ⟨j,d,_⟩:=Q v H f T
        subst j d
        rw [R] at T
        simp only [Option.some.injEq,Prod.mk.injEq,and_true] at T
        subst T
        refine ⟨rfl,rfl,t,ai,?_⟩
        rw [show Nat.succ pos=pos+1 from rfl,←List.drop_drop,S];rfl
       ·have O:b<w.heap.size:=(kat.1 g).1
        have wV:(setObj b (.stringIter t (pos+1))).run P w=.ok () { w with heap:=w.heap.setIfInBounds b (.stringIter t (pos+1)) }:=by simp [setObj,Sem.run,g]
        simp [execOp,C,Instr.next,U,ad g,d1,d2,wV,goInt]
    | _=>rw [y] at G;exact absurd trivial G
  | _=>exact absurd trivial G
theorem bq {a:Nat} (h:Nat.beq a b=true):a=b:=kac h
theorem zBe:∀ (a b:V),yT a b=true→a=b:=by
 refine V.rec (motive_1:=fun a=>∀ b,yT a b=true→a=b) (motive_2:=fun l=>∀ m,yT (.ls 0 l) (.ls 0 m)=true→l=m) ?_ ?_ ?_ ?_ ?_ ?_ ?_ ?_ ?_ ?_ ?_ ?_ ?_ ?_ ?_
 ·intro b h;cases h
 ·intro k n b h
  cases b<;>first | (cases h;done) | skip
  obtain ⟨I,J⟩:=zy h
  rw [(qx _ _).1 I,bq J]
 ·intro k n b h
  cases b<;>first | (cases h;done) | skip
  obtain ⟨I,J⟩:=zy h
  rw [(qx _ _).1 I,bq J]
 ·intro x b h
  cases b<;>first | (cases h;done) | skip
  rename_i y
  cases x<;>cases y<;>first | rfl | cases h
 ·intro x b h
  cases b<;>first | (cases h;done) | skip
  rw [(zi2 _ _).1 h]
 ·intro a v o b h
  cases b<;>first | (cases h;done) | skip
  obtain ⟨I,J⟩:=zy h
  obtain ⟨J,Q⟩:=zy J
  rw [(K.beq_iff _ _).1 I,bq J,bq Q]
 ·intro a v o l c b h
  cases b<;>first | (cases h;done) | skip
  obtain ⟨I,J⟩:=zy h
  obtain ⟨J,Q⟩:=zy J
  obtain ⟨Q,O⟩:=zy Q
  obtain ⟨O,d⟩:=zy O
  rw [(K.beq_iff _ _).1 I,bq J,bq Q,bq O,bq d]
 ·intro a v o l c b h
  cases b<;>first | (cases h;done) | skip
  obtain ⟨I,J⟩:=zy h
  obtain ⟨J,Q⟩:=zy J
  obtain ⟨Q,O⟩:=zy Q
  obtain ⟨O,d⟩:=zy O
  rw [(K.beq_iff _ _).1 I,bq J,bq Q,bq O,bq d]
 ·intro t b h
  cases b<;>first | (cases h;done) | skip
  rw [bq h]
 ·intro t a b h
  cases b<;>first | (cases h;done) | skip
  obtain ⟨I,J⟩:=zy h
  rw [bq I,(K.beq_iff _ _).1 J]
 ·intro t l X b h
  cases b<;>first | (cases h;done) | skip
  obtain ⟨I,J⟩:=zy h
  rw [bq I,X _ J]
 ·intro f a b A B c h
  cases c<;>first | (cases h;done) | skip
  rename_i g x y
  obtain ⟨I,J⟩:=zy h
  obtain ⟨J,Q⟩:=zy J
  rw [A _ J,B _ Q]
  cases f<;>cases g<;>first | (cases I;done) | rw [bq I]
 ·intro t v X b h
  cases b<;>first | (cases h;done) | skip
  obtain ⟨I,J⟩:=zy h
  rw [bq I,X _ J]
 ·intro m h
  cases m with
  | nil=>rfl
  | cons y m=>cases h
 ·intro x l A B m h
  cases m with
  | nil=>cases h
  | cons y m =>
   have u:zB (yT x y) (yT (.ls 0 l) (.ls 0 m))=true:=h
   obtain ⟨I,J⟩:=zy u
   rw [A _ I,B _ J]
end Go.Ev
