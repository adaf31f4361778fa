/- The evaluator, run on unknown arguments: laws of its steps, contracts of calls and of loops, any world as its state. No statement of the seat stands here. No condition. By an AI agent. -/
import Derived.Test.YthdlmdoppfigoaaGreatDoorEvG
import Derived.KernelRfl
import Derived.Deep.SlicePairs
import Derived.ChangeSlices
import Derived.Carry
namespace Go.Ev
def zG:List Nat→Code→Code
 | [],c=>c
 | 0::p,.seq a _=>zG p a
 | _::p,.seq _ b=>zG p b
 | 0::p,.cond _ a _=>zG p a
 | _::p,.cond _ _ b=>zG p b
 | _::p,.block _ c=>zG p c
 | _::p,.loop c=>zG p c
 | _::p,.scope c=>zG p c
 | _,c=>c
def zDf:Code→List Oper
 | .region _ l _=>l.toList
 | _=>[]
noncomputable def ztR (pc:PC) (fi:FI) (all:List Oper) (o:Oper) (ds:List Nat) (g:LoC):LoC:=qZ fi ds all o (zj9 fi o (op pc fi ds o) g) (zhQ fi o g)
noncomputable def zZ (pc:PC) (fi:FI) (all:List Oper):List (Bool × Nat)→List Nat→LoC→LoC
 | [],_,g=>g
 | (again,i)::l,ds,g=>match all[i]? with
  | none=>⟨fun _ _ _ _=>.bad 0⟩
  | some o=>match again with
   | false=>ztR pc fi all o ds (zZ pc fi all l (push o ds) g)
   | true=>qZ fi ds all o (zbV fi ds o (op pc fi ds o) (zZ pc fi all l ds g)) (zZ pc fi all l ds g)
def zfM:LoC:=⟨fun _ N _ s=>.nrm N s⟩
def zbz (all:List Oper):List (Bool × Nat)→List Nat→List Nat
 | [],ds=>ds
 | (again,i)::l,ds=>match all[i]? with
  | none=>zbz all l ds
  | some o=>match again with
   | false=>zbz all l (push o ds)
   | true=>zbz all l ds
def stp:Code→List (Bool × Nat)
 | .region _ l true=>yh l.toList
 | .region _ l false=>(List.range' 0 l.toList.length).map fun i=>(false,i)
 | _=>[]
def zDN (mixed:Bool):Code→Bool
 | .region _ l true=>mixed && zhb l.toList (ya l.toList []) (l.toList.map zT) (yh l.toList)
 | .region _ _ false=>true
 | _=>false
theorem zyZ (pc:PC) (fi:FI) (all:List Oper):∀ (l:List Oper) (i:Nat) (ds:List Nat),all.drop i=l→ops pc fi all l ds=zZ pc fi all ((List.range' i l.length).map fun i=>(false,i)) ds zfM
 | [],_,_,_=>rfl
 | o::os,i,ds,h=>by
  have I:all[i]?=some o:=by
   have:(all.drop i)[0]?=some o:=by rw [h];rfl
   rwa [List.getElem?_drop] at this
  have J:all.drop (i+1)=os:=by
   have:(all.drop i).drop 1=os:=by rw [h];rfl
   rwa [List.drop_drop] at this
  show (match ops pc fi all os (push o ds) with | ⟨g⟩=>qZ fi ds all o (zj9 fi o (op pc fi ds o) ⟨g⟩) (zhQ fi o ⟨g⟩))=zZ pc fi all ((false,i)::(List.range' (i+1) os.length).map fun i=>(false,i)) ds zfM
  unfold zZ
  simp only [I]
  rw [←zyZ pc fi all os (i+1) (push o ds) J];rfl
theorem znx (pc:PC) (fi:FI) (all:List Oper):∀ (l:List (Bool × Nat)) (ds:List Nat),jp pc fi all l ds=zZ pc fi all l ds zfM
 | [],_=>rfl
 | (again,i)::l,ds=>by
  have I:=znx pc fi all l ds
  unfold jp zZ
  cases e:all[i]? with
  | none=>rfl
  | some o =>
   cases again with
   | false =>
    have J:=znx pc fi all l (push o ds)
    show (match jp pc fi all l (push o ds) with | ⟨g⟩=>qZ fi ds all o (zj9 fi o (op pc fi ds o) ⟨g⟩) (zhQ fi o ⟨g⟩))=ztR pc fi all o ds (zZ pc fi all l (push o ds) zfM)
    rw [←J];rfl
   | true =>
    show (match jp pc fi all l ds with | ⟨g⟩=>qZ fi ds all o (zbV fi ds o (op pc fi ds o) ⟨g⟩) ⟨g⟩)=qZ fi ds all o (zbV fi ds o (op pc fi ds o) (zZ pc fi all l ds zfM)) (zZ pc fi all l ds zfM)
    rw [←I]
theorem zfD (pc:PC) (fi:FI) (all:List Oper) (g:LoC) (b:List (Bool × Nat)):∀ (a:List (Bool × Nat)) (ds:List Nat),zZ pc fi all (a++b) ds g=zZ pc fi all a ds (zZ pc fi all b (zbz all a ds) g)
 | [],_=>rfl
 | (again,i)::l,ds=>by
  have I:=zfD pc fi all g b l ds
  show zZ pc fi all ((again,i)::(l++b)) ds g=_
  unfold zZ zbz
  cases e:all[i]? with
  | none=>rfl
  | some o =>
   have J:=zfD pc fi all g b l (push o ds)
   cases again with
   | false=>simp only [J]
   | true=>simp only [I]
theorem zl {pc:PC} {fi:FI} {u:Code} {f:R→S→T→A} (h:∀ r s tm,(zZ pc fi (zDf u) ((stp u).drop 0) [] zfM).run r tm [] s=f r s tm) (X:zDN pc.mixed u=true:=by kernel_rfl) (r:R) (s:S) (tm:T):(zj pc fi u).run r tm s=f r s tm:=by
 rw [←h]
 match u,X with
 | .region _ l true,X =>
  show (match (match pc.mixed && zhb l.toList (ya l.toList []) (l.toList.map zT) (yh l.toList) with
   | true=>(match jp pc fi l.toList (yh l.toList) [] with | ⟨f⟩=>(⟨fun r tm le s=>f r tm le s⟩:LoC))
   | false=>⟨fun _ _ _ _=>.bad 0⟩) with | ⟨f⟩=>(⟨fun r tm s=>f r tm [] s⟩:CoC)).run r tm s=(zZ pc fi l.toList (yh l.toList) [] zfM).run r tm [] s
  have X:(pc.mixed && zhb l.toList (ya l.toList []) (l.toList.map zT) (yh l.toList))=true:=X
  rw [X,znx]
 | .region _ l false,_ =>
  show (match ops pc fi l.toList l.toList [] with | ⟨f⟩=>(⟨fun r tm s=>f r tm [] s⟩:CoC)).run r tm s=(zZ pc fi l.toList ((List.range' 0 l.toList.length).map fun i=>(false,i)) [] zfM).run r tm [] s
  rw [zyZ pc fi l.toList l.toList 0 [] rfl]
def zjp (o:Oper) (v:V) (le:List V):List V:=match o.dst with | some _=>v::le | none=>le
variable {o:Oper}
theorem zyQ {fi:FI} {c z:T→List V→A} {le:List V} (v:V) (h:∀ tm,c tm (zjp o v le)=z tm (zjp o v le)) (tm:T):(dsC fi o).run v tm le c=(dsC fi o).run v tm le z:=by
 unfold zjp at h
 unfold dsC
 cases u:o.dst with
 | none=>rw [u] at h;exact h tm
 | some d =>
  rw [u] at h
  simp only at h ⊢
  cases Nat.blt d fi.nt with
  | false=>rfl
  | true =>
   cases qV fi.ns d with
   | true=>exact h tm
   | false =>
    show (puC (qy fi.ns d)).run v tm (fun tm=>c tm (v::le))=(puC (qy fi.ns d)).run v tm (fun tm=>z tm (v::le))
    rw [show (fun tm=>c tm (v::le))=(fun tm=>z tm (v::le)) from funext h]
variable {g:LoC}
theorem zmB {fi:FI} {ds:List Nat} {all:List Oper} {e f K:LoC} {r:R} {tm:T} {le:List V} {s:S} (I:e.run r tm le s=f.run r tm le s) (J:g.run r tm le s=K.run r tm le s):(qZ fi ds all o e g).run r tm le s=(qZ fi ds all o f K).run r tm le s:=by
 unfold qZ
 cases o.guard with
 | none=>exact I
 | some p =>
  obtain ⟨j,want⟩:=p
  simp only
  cases (all[j]?).bind (·.dst) with
  | none=>rfl
  | some d =>
   cases want with
   | true =>
    show (opd fi ds (.tmp d)).run tm le (fun v=>zfC v (fun _=>e.run r tm le s) (fun _=>g.run r tm le s))=(opd fi ds (.tmp d)).run tm le (fun v=>zfC v (fun _=>f.run r tm le s) (fun _=>K.run r tm le s))
    rw [I,J]
   | false =>
    show (opd fi ds (.tmp d)).run tm le (fun v=>zc9 v (fun _=>e.run r tm le s) (fun _=>g.run r tm le s))=(opd fi ds (.tmp d)).run tm le (fun v=>zc9 v (fun _=>f.run r tm le s) (fun _=>K.run r tm le s))
    rw [I,J]
theorem zxR {pc:PC} {fi:FI} {all:List Oper} {ds:List Nat} {K:LoC} {r:R} {le:List V} (h:∀ v t s,g.run r t (zjp o v le) s=K.run r t (zjp o v le) s) (tm:T) (s:S):(ztR pc fi all o ds g).run r tm le s=(ztR pc fi all o ds K).run r tm le s:=by
 refine zmB ?_ (zyQ undef (fun t=>h undef t s) tm)
 have u:∀ v s,(fun tm=>(dsC fi o).run v tm le fun tm le=>g.run r tm le s)=fun tm=>(dsC fi o).run v tm le fun tm le=>K.run r tm le s:=fun v s=>funext fun tm=>zyQ v (fun t=>h v t s) tm
 cases hi:z7 o with
 | false =>
  rw [zbk hi,zbk hi]
  congr 1
  funext v s
  exact congrFun (u v s) tm
 | true =>
  rw [zbh hi,zbh hi]
  congr 1
  funext v s
  simp only [fun s=>congrFun (u undef s)]
def zvk (all:List Oper):List (Bool × Nat)→(List V→Prop)→List V→Prop
 | [],Q,le=>Q le
 | (again,i)::l,Q,le=>match all[i]? with
  | none=>True
  | some o=>match again with
   | false=>∀ v,zvk all l Q (zjp o v le)
   | true=>zvk all l Q le
theorem zha {pc:PC} {fi:FI} {all:List Oper} {g K:LoC} {r:R}:∀ (l:List (Bool × Nat)) {ds:List Nat} {le:List V},zvk all l (fun le=>∀ t s,g.run r t le s=K.run r t le s) le→∀ t s,(zZ pc fi all l ds g).run r t le s=(zZ pc fi all l ds K).run r t le s
 | [],_,_,h=>h
 | (again,i)::l,ds,le,h=>by
  intro t s
  unfold zvk at h
  unfold zZ
  cases e:all[i]? with
  | none=>rfl
  | some o =>
   rw [e] at h
   cases again with
   | false=>exact zxR (fun v t s=>zha l (h v) t s) t s
   | true =>
    have I:=fun t s=>zha (pc:=pc) (fi:=fi) (ds:=ds) l h t s
    refine zmB ?_ (I t s)
    unfold zbV
    cases o.dst with
    | none=>rfl
    | some d =>
     show (op pc fi ds o).run r t le s (fun v _=>(opd fi ds (.tmp d)).run t le fun w=>(@Bool.rec (fun _=>A) eA ((zZ pc fi all l ds g).run r t le s) (yT v w)))=(op pc fi ds o).run r t le s (fun v _=>(opd fi ds (.tmp d)).run t le fun w=>(@Bool.rec (fun _=>A) eA ((zZ pc fi all l ds K).run r t le s) (yT v w)))
     rw [I t s]
def zrb (all:List Oper):List (Bool × Nat)→Nat
 | []=>0
 | (again,i)::l=>match all[i]? with
  | none=>0
  | some o=>match again,o.dst with
   | false,some _=>zrb all l+1
   | _,_=>zrb all l
def zxO:Nat→(List V→Prop)→List V→Prop
 | 0,Q,le=>Q le
 | m+1,Q,le=>∀ v,zxO m Q (v::le)
theorem znI {all:List Oper} {Q:List V→Prop}:∀ (l:List (Bool × Nat)) {le:List V},zxO (zrb all l) Q le→zvk all l Q le
 | [],_,h=>h
 | (again,i)::l,le,h=>by
  unfold zrb at h
  unfold zvk
  cases e:all[i]? with
  | none=>trivial
  | some o =>
   rw [e] at h
   cases again with
   | true=>exact znI l h
   | false =>
    unfold zjp
    cases u:o.dst with
    | none=>simp only [u] at h ⊢;exact fun _=>znI l h
    | some d=>simp only [u] at h ⊢;exact fun v=>znI l (h v)
section
variable {pc:PC} {fi:FI} {all:List Oper} {L:List (Bool × Nat)} {b:Nat} {ds:List Nat} {le:List V} {r:R} {t:T} {s:S}
theorem ckL (n m:Nat) (K:LoC) (h:zxO m (fun le=>∀ t s,(zZ pc fi all (L.drop (b+n)) (zbz all ((L.drop b).take n) ds) zfM).run r t le s=K.run r t le s) le) (Y:zrb all ((L.drop b).take n)=m) :
  (zZ pc fi all (L.drop b) ds zfM).run r t le s=(zZ pc fi all ((L.drop b).take n) ds K).run r t le s:=by
 subst Y
 rw [←zha ((L.drop b).take n) (znI _ h) t s,←zfD,←List.drop_drop,List.take_append_drop]
abbrev uD:V:=.ls 1 []
def bq1 (F:(V→T→S→A)→A) (K:V→T→S→A):A:=F K
@[simp] theorem zEB (a:V) (t:T) (s:S) (K:V→T→S→A):bq1 (fun g=>g a t s) K=K a t s:=rfl
variable (n m:Nat)
theorem ck1 (i:Nat) {F:(V→T→S→A)→A} {K:V→T→S→A} (h:zxO m (fun le=>∀ t s,(zZ pc fi all (L.drop (b+n)) (zbz all ((L.drop b).take n) ds) zfM).run r t le s=K (le.getD i .bad) t s) le) (Y:zrb all ((L.drop b).take n)=m:=by kernel_rfl)
  (p:∀ K:V→T→S→A,(zZ pc fi all ((L.drop b).take n) ds ⟨fun _ t le s=>K (le.getD i .bad) t s⟩).run r t le s=F K:=by intro;kernel_rfl):(zZ pc fi all (L.drop b) ds zfM).run r t le s=bq1 F K:=(ckL n m _ h Y).trans (p K)
noncomputable def gw (w:Bool) (v:V) (y n:A):A:=match w with
 | true=>zfC v (fun _=>y) (fun _=>n)
 | false=>zc9 v (fun _=>y) (fun _=>n)
@[simp] theorem zzC (w b:Bool) (y n:A):gw w (.bool b) y n=if b=w then y else n:=by cases w<;>cases b<;>rfl
@[simp] theorem zEe (w:Bool) (t:Nat) (l:List V) (y n:A):gw w (.ls t l) y n=n:=by cases w<;>rfl
def zAi (all:List Oper):List (Bool × Nat)→List Nat→Option (Nat × Bool)
 | (_,i)::_,ds=>(match all[i]? with
  | some o=>(match o.guard with
   | some (k,w)=>(match (all[k]?).bind (·.dst) with
    | some d=>(idx d ds 0).map fun j=>(j,w)
    | none=>none)
   | none=>none)
  | none=>none)
 | [],_=>none
theorem zxH:∀ {j:Nat} {le:List V} {v:V} (c:V→A),le[j]?=some v→(ntC j).run le c=c v
 | 0,x::le,v,c,h=>by cases h;rfl
 | j+1,x::le,v,c,h=>zxH (j:=j) (le:=le) c (by simpa using h)
variable {w:Bool} {g:LoC} {j:Nat} {v:V}
theorem zlT {o:Oper} {e:LoC} {k d:Nat} (I:o.guard=some (k,w)) (J:(all[k]?).bind (·.dst)=some d) (Q:idx d ds 0=some j) (h:le[j]?=some v):(qZ fi ds all o e g).run r t le s=gw w v (e.run r t le s) (g.run r t le s):=by
 unfold qZ
 simp only [I,J,opd,Q]
 cases w<;>exact zxH _ h
theorem zyK (hb:∀ b,v≠.bool b) (f:∀ t l,v≠.ls t l) (y n:A):gw w v y n=.bad 0:=by
 cases v<;>first | exact absurd rfl (hb _) | exact absurd rfl (f _ _) | (cases w<;>rfl)
variable {l:List (Bool × Nat)}
theorem zyW (h:zAi all l ds=some (j,w)) (E:le[j]?=some v) (hb:∀ b,v≠.bool b) (f:∀ t l,v≠.ls t l):(zZ pc fi all l ds g).run r t le s=.bad 0:=by
 match l,h with
 | (again,i)::l,h =>
  unfold zAi at h
  unfold zZ
  cases e:all[i]? with
  | none=>simp [e] at h
  | some o =>
   simp only [e] at h ⊢
   cases Q:o.guard with
   | none=>simp [Q] at h
   | some p =>
    obtain ⟨k,K⟩:=p
    simp only [Q] at h
    cases u:(all[k]?).bind (·.dst) with
    | none=>simp [u] at h
    | some d =>
     simp only [u] at h
     cases hi:idx d ds 0 with
     | none=>simp [hi] at h
     | some W =>
      simp only [hi,Option.map_some,Option.some.injEq,Prod.mk.injEq] at h
      obtain ⟨rfl,rfl⟩:=h
      cases again with
      | false=>exact (zlT Q u hi E).trans (zyK hb f _ _)
      | true=>exact (zlT Q u hi E).trans (zyK hb f _ _)
theorem zEq {K:LoC} {Y N:A} (G:zAi all l ds=some (j,w)) (g:Nat.blt j le.length=true)
  (D:(zZ pc fi all l ds K).run r t (le.set j (.bool w)) s=Y) (I:(zZ pc fi all l ds K).run r t (le.set j (.bool !w)) s=N)
  (z:∀ a Z,(zZ pc fi all l ds K).run r t (le.set j (.ls a Z)) s=N):(zZ pc fi all l ds K).run r t le s=gw w (le.getD j .bad) Y N:=by
 have O:j<le.length:=by simpa [Nat.blt_eq] using g
 have E:le[j]?=some (le.getD j .bad):=by rw [kaa,kab O];rfl
 have C:le.set j (le.getD j .bad)=le:=by
  rw [kaa,kab O]
  exact List.set_getElem_self O
 by_cases hb:∃ b,le.getD j .bad=.bool b
 ·obtain ⟨b,hb⟩:=hb
  rw [hb] at C
  rw [hb,zzC,←C]
  by_cases e:b=w
  ·rw [if_pos e,e];exact D
  ·rw [if_neg e,←I]
   cases b<;>cases w<;>first | rfl | exact absurd rfl e
 ·by_cases f:∃ a Z,le.getD j .bad=.ls a Z
  ·obtain ⟨a,Z,f⟩:=f
   rw [f,zEe,←z a Z,←f,C]
  ·rw [zyK (fun b h=>hb ⟨b,h⟩) (fun a Z h=>f ⟨a,Z,h⟩)]
   exact zyW G E (fun b h=>hb ⟨b,h⟩) (fun a Z h=>f ⟨a,Z,h⟩)
theorem cg1 (i:Nat) (j:Nat) {Y N:(V→T→S→A)→A} {K:V→T→S→A} (h:zxO m (fun le=>∀ t s,(zZ pc fi all (L.drop (b+n)) (zbz all ((L.drop b).take n) ds) zfM).run r t le s=K (le.getD i .bad) t s) le) (Q:(Nat.beq (zrb all ((L.drop b).take n)) m && Nat.blt j le.length)=true:=by kernel_rfl) (G:zAi all ((L.drop b).take n) ds=some (j,w):=by kernel_rfl)
  (D:∀ K:V→T→S→A,(zZ pc fi all ((L.drop b).take n) ds ⟨fun _ t le s=>K (le.getD i .bad) t s⟩).run r t (le.set j (.bool w)) s=Y K:=by intro;kernel_rfl) (I:∀ K:V→T→S→A,(zZ pc fi all ((L.drop b).take n) ds ⟨fun _ t le s=>K (le.getD i .bad) t s⟩).run r t (le.set j (.bool !w)) s=N K:=by intro;kernel_rfl)
  (z:∀ (K:V→T→S→A) a Z,(zZ pc fi all ((L.drop b).take n) ds ⟨fun _ t le s=>K (le.getD i .bad) t s⟩).run r t (le.set j (.ls a Z)) s=N K:=by intros;kernel_rfl):(zZ pc fi all (L.drop b) ds zfM).run r t le s=bq1 (fun g=>gw w (le.getD j .bad) (Y g) (N g)) K:=by
 rw [kaf] at Q
 exact (ckL n m _ h (kac Q.1)).trans (zEq G Q.2 (D K) (I K) (z K))
end
def zH:Code→Nat
 | .seq a b=>zH a+zH b+1
 | .cond _ a b=>zH a+zH b+1
 | .block _ a=>zH a+1
 | .loop a=>zH a+1
 | .scope a=>zH a+1
 | .rangeFunc _ _ a b=>zH a+zH b+1
 | .region _ l _=>l.size+1
 | _=>1
def zu (P:Program) (f:Nat):Code:=((P.funcs[f]?).bind (·.body)).getD .skip
def N.nth {α:Type} (n:N α) (i:Nat):α:=match i with
 | 0=>n.a0 | 1=>n.a1 | 2=>n.a2 | 3=>n.a3 | 4=>n.a4 | 5=>n.a5 | 6=>n.a6 | 7=>n.a7 | 8=>n.a8 | 9=>n.a9 | 10=>n.a10 | 11=>n.a11 | 12=>n.a12 | 13=>n.a13 | 14=>n.a14 | _=>n.a15
def N.upd {α:Type} (n:N α) (i:Nat) (x:α):N α:=match i with
 | 0=>⟨x,n.a1,n.a2,n.a3,n.a4,n.a5,n.a6,n.a7,n.a8,n.a9,n.a10,n.a11,n.a12,n.a13,n.a14,n.a15⟩
 | 1=>⟨n.a0,x,n.a2,n.a3,n.a4,n.a5,n.a6,n.a7,n.a8,n.a9,n.a10,n.a11,n.a12,n.a13,n.a14,n.a15⟩
 | 2=>⟨n.a0,n.a1,x,n.a3,n.a4,n.a5,n.a6,n.a7,n.a8,n.a9,n.a10,n.a11,n.a12,n.a13,n.a14,n.a15⟩
 | 3=>⟨n.a0,n.a1,n.a2,x,n.a4,n.a5,n.a6,n.a7,n.a8,n.a9,n.a10,n.a11,n.a12,n.a13,n.a14,n.a15⟩
 | 4=>⟨n.a0,n.a1,n.a2,n.a3,x,n.a5,n.a6,n.a7,n.a8,n.a9,n.a10,n.a11,n.a12,n.a13,n.a14,n.a15⟩
 | 5=>⟨n.a0,n.a1,n.a2,n.a3,n.a4,x,n.a6,n.a7,n.a8,n.a9,n.a10,n.a11,n.a12,n.a13,n.a14,n.a15⟩
 | 6=>⟨n.a0,n.a1,n.a2,n.a3,n.a4,n.a5,x,n.a7,n.a8,n.a9,n.a10,n.a11,n.a12,n.a13,n.a14,n.a15⟩
 | 7=>⟨n.a0,n.a1,n.a2,n.a3,n.a4,n.a5,n.a6,x,n.a8,n.a9,n.a10,n.a11,n.a12,n.a13,n.a14,n.a15⟩
 | 8=>⟨n.a0,n.a1,n.a2,n.a3,n.a4,n.a5,n.a6,n.a7,x,n.a9,n.a10,n.a11,n.a12,n.a13,n.a14,n.a15⟩
 | 9=>⟨n.a0,n.a1,n.a2,n.a3,n.a4,n.a5,n.a6,n.a7,n.a8,x,n.a10,n.a11,n.a12,n.a13,n.a14,n.a15⟩
 | 10=>⟨n.a0,n.a1,n.a2,n.a3,n.a4,n.a5,n.a6,n.a7,n.a8,n.a9,x,n.a11,n.a12,n.a13,n.a14,n.a15⟩
 | 11=>⟨n.a0,n.a1,n.a2,n.a3,n.a4,n.a5,n.a6,n.a7,n.a8,n.a9,n.a10,x,n.a12,n.a13,n.a14,n.a15⟩
 | 12=>⟨n.a0,n.a1,n.a2,n.a3,n.a4,n.a5,n.a6,n.a7,n.a8,n.a9,n.a10,n.a11,x,n.a13,n.a14,n.a15⟩
 | 13=>⟨n.a0,n.a1,n.a2,n.a3,n.a4,n.a5,n.a6,n.a7,n.a8,n.a9,n.a10,n.a11,n.a12,x,n.a14,n.a15⟩
 | 14=>⟨n.a0,n.a1,n.a2,n.a3,n.a4,n.a5,n.a6,n.a7,n.a8,n.a9,n.a10,n.a11,n.a12,n.a13,x,n.a15⟩
 | _=>⟨n.a0,n.a1,n.a2,n.a3,n.a4,n.a5,n.a6,n.a7,n.a8,n.a9,n.a10,n.a11,n.a12,n.a13,n.a14,x⟩
def gp (i:Nat) (t:T):V:=(t.nth (i / 16)).nth (i % 16)
def sp (i:Nat) (v:V) (t:T):T:=t.upd (i / 16) ((t.nth (i / 16)).upd (i % 16) v)
noncomputable def zi (v:V) (a b:A):A:=@V.rec mA mU eA eC eC (fun N=>@Bool.rec (fun _=>A) b a N) eB eD eF eF eB eC eD eF eD () tE v
noncomputable def jO (b:Bool) (x y:A):A:=@Bool.rec (fun _=>A) y x b
noncomputable def za (f:T→S→A) (a:A):A:=zd7 f (fun i N s=>.ext i N s) (fun N s=>.ret N s) a
noncomputable def zae (v:V) (x:A):A:=@V.rec mA mU x eC eC eB eB eD eF eF eB eC eD eF eD () tE v
noncomputable abbrev xb (o:BinOp) (x y:V) (k:V→A):A:=zw ⟨9,[]⟩ false o x y k
abbrev nI (n:Nat):V:=.nat .i64 n
noncomputable abbrev xp (v:V) (a b:A):A:=zt0 v (fun _=>a) (fun _=>b)
abbrev nS (i:Nat) (v:V) (t:T) (s:S):A:=.nrm (sp i v t) s
noncomputable def fv (i:Nat) (t:T) (s:S):A:=zae (gp 240 t) (wu [gp i t] s)
noncomputable def fw (i j:Nat) (t:T) (s:S):A:=zae (gp 240 t) (wu [gp i t,gp j t] s)
@[simp] theorem zEA (i:Nat) (t:T) (s:S):fv i t s=zae (gp 240 t) (wu [gp i t] s):=rfl
@[simp] theorem zEC (i j:Nat) (t:T) (s:S):fw i j t s=zae (gp 240 t) (wu [gp i t,gp j t] s):=rfl
section
variable {α:Type}
theorem N.nth_upd (n:N α) (i j:Nat) (x:α) (hi:i<16) (G:j<16):(n.upd i x).nth j=if j=i then x else n.nth j:=by
 have I:i=0∨i=1∨i=2∨i=3∨i=4∨i=5∨i=6∨i=7∨i=8∨i=9∨i=10∨i=11∨i=12∨i=13∨i=14∨i=15:=by omega
 have J:j=0∨j=1∨j=2∨j=3∨j=4∨j=5∨j=6∨j=7∨j=8∨j=9∨j=10∨j=11∨j=12∨j=13∨j=14∨j=15:=by omega
 rcases I with rfl | rfl | rfl | rfl | rfl | rfl | rfl | rfl | rfl | rfl | rfl | rfl | rfl | rfl | rfl | rfl <;>
  rcases J with rfl | rfl | rfl | rfl | rfl | rfl | rfl | rfl | rfl | rfl | rfl | rfl | rfl | rfl | rfl | rfl<;>rfl
end
@[simp] theorem qK (i j : Nat) (v : V) (t : T) (hi : i < 256) (G : j < 256) : gp i (sp j v t) = if i = j then v else gp i t := by
  unfold gp sp
  rw [N.nth_upd _ _ _ _ (by omega) (by omega)]
  by_cases h : i / 16 = j / 16
  · rw [if_pos h, N.nth_upd _ _ _ _ (by omega) (by omega)]
    by_cases J : i % 16 = j % 16
    · rw [if_pos J, if_pos (by omega)]
    · rw [if_neg J, if_neg (by omega), h]
  · rw [if_neg h, if_neg (by omega)]
theorem zl2 {α:Type} (x:α) (d:Nat) (e:N α) (z:e=.mk x x x x x x x x x x x x x x x x):e.nth d=x:=by
 subst z
 unfold N.nth
 split<;>rfl
@[simp] theorem zEt (i : Nat) : gp i T.new = .bad := by
  unfold gp T.new
  rw [zl2 (zj1 .bad) _ (zxb (zj1 .bad)) rfl]
  exact zl2 _ _ _ rfl
@[simp] theorem zD3 (f:T→S→A) (tm:T) (s:S):za f (.nrm tm s)=f tm s:=rfl
@[simp] theorem zDJ (f:T→S→A) (i:Nat) (tm:T) (s:S):za f (.ext i tm s)=.ext i tm s:=rfl
@[simp] theorem zDP (f:T→S→A) (tm:T) (s:S):za f (.ret tm s)=.ret tm s:=rfl
@[simp] theorem zEj (x y:A):jO true x y=x:=rfl
@[simp] theorem zEg (b:Bool) (x y:A):zi (.bool b) x y=if b=true then x else y:=by cases b<;>rfl
@[simp] theorem zEh (b:Bool) (x y:Unit→A):zt0 (.bool b) x y=if b=true then x () else y ():=by cases b<;>rfl
@[simp] theorem zDH (x:A):zae .bad x=x:=rfl
@[simp] theorem zDA (f:T→S→A) (tm:T) (s:S):zx f (.nrm tm s)=f tm s:=rfl
@[simp] theorem zDz (f:T→S→A) (tm:T) (s:S):zx f (.ret tm s)=f tm s:=rfl
@[simp] theorem zEa (v:V) (s:S):zF (.fin v s)=.ret v s:=rfl
@[simp] theorem zEr (v:V) (s:S):wu [v] s=.fin v s:=rfl
@[simp] theorem zEo (v u:V) (s:S):wu [v,u] s=.fin (.ls 1 [v,u]) s:=rfl
@[simp] theorem zEm (v u x:V) (s:S):wu [v,u,x] s=.fin (.ls 1 [v,u,x]) s:=rfl
@[simp] theorem zEp (s:S):wu [] s=.fin undef s:=rfl
@[simp] theorem zDy (v:V) (s:S) (k:V→S→A):zq (.ret v s) k=k v s:=rfl
@[simp] theorem yz (k:IntKind) (n:Nat):V.nat k n=iv k (n:Int):=rfl
theorem zaM (k:IntKind):qO k k=true:=by cases k<;>rfl
section
variable (q:EK) (cst:Bool) (k:IntKind) (c:V→A)
theorem yD (op:BinOp) (a b:Nat):zw q cst op (.nat k a) (.nat k b) c=zgj op k a b c:=by
 show (@Bool.rec (fun _=>A) _ _ (qO k k):A)=_
 rw [zaM]
theorem zbL (op:BinOp) (a b:Nat):zw q cst op (.nat k a) (.neg k b) c=zhS op k false (.nat k a) (.neg k b) c:=by
 show (@Bool.rec (fun _=>A) _ _ (qO k k):A)=_
 rw [zaM]
theorem zbF (op:BinOp) (a b:Nat):zw q cst op (.neg k a) (.nat k b) c=zhS op k true (.neg k a) (.nat k b) c:=by
 show (@Bool.rec (fun _=>A) _ _ (qO k k):A)=_
 rw [zaM]
theorem zbR (op:BinOp) (a b:Nat):zw q cst op (.neg k a) (.neg k b) c=zt3 op k a b c:=by
 show (@Bool.rec (fun _=>A) _ _ (qO k k):A)=_
 rw [zaM]
private theorem zdw {p:Bool} {r:Prop} [Decidable r] (h:p=true↔r):fB p c=c (.bool (decide r)):=by
 rw [za1];congr 2;rw [kaA];simpa using h
@[simp] theorem zwm (a b : Int) : zw q cst .lss (iv k a) (iv k b) c = c (.bool (decide (a < b))) := by
  cases a <;> cases b <;> simp only [iv]
  · rw [yD]; exact zdw c (by simp [Nat.blt_eq])
  · rw [zbL]; exact zdw c (p := false) (by simp; omega)
  · rw [zbF]; exact zdw c (p := true) (by simp; omega)
  · rw [zbR]; exact zdw c (by rw [Nat.blt_eq]; omega)
@[simp] theorem zEv (a b : Int) : zw q cst .leq (iv k a) (iv k b) c = c (.bool (decide (a ≤ b))) := by
  cases a <;> cases b <;> simp only [iv]
  · rw [yD]; exact zdw c (by simp)
  · rw [zbL]; exact zdw c (p := false) (by simp; omega)
  · rw [zbF]; exact zdw c (p := true) (by simp; omega)
  · rw [zbR]; exact zdw c (by rw [kax]; omega)
@[simp] theorem zdV (a b : Int) : zw q cst .gtr (iv k a) (iv k b) c = c (.bool (decide (b < a))) := by
  cases a <;> cases b <;> simp only [iv]
  · rw [yD]; exact zdw c (by simp [Nat.blt_eq])
  · rw [zbL]; exact zdw c (p := true) (by simp; omega)
  · rw [zbF]; exact zdw c (p := false) (by simp; omega)
  · rw [zbR]; exact zdw c (by rw [Nat.blt_eq]; omega)
@[simp] theorem jr (a b : Int) : zw q cst .geq (iv k a) (iv k b) c = c (.bool (decide (b ≤ a))) := by
  cases a <;> cases b <;> simp only [iv]
  · rw [yD]; exact zdw c (by simp)
  · rw [zbL]; exact zdw c (p := true) (by simp; omega)
  · rw [zbF]; exact zdw c (p := false) (by simp; omega)
  · rw [zbR]; exact zdw c (by rw [kax]; omega)
@[simp] theorem zEs (a b : Int) : zw q cst .eql (iv k a) (iv k b) c = c (.bool (decide (a = b))) := by
  cases a <;> cases b <;> simp only [iv]
  · rw [yD]; exact zdw c (by rw [Nat.beq_eq]; simp; omega)
  · rw [zbL]; show c (.bool false) = _; congr 2
  · rw [zbF]; show c (.bool false) = _; congr 2
  · rw [zbR]; exact zdw c (by rw [Nat.beq_eq]; constructor <;> intro h <;> first | (subst h; rfl) | (injection h with h; exact h.symm))
@[simp] theorem zEy (a b : Int) : zw q cst .neq (iv k a) (iv k b) c = c (.bool (!decide (a = b))) := by
  cases a <;> cases b <;> simp only [iv]
  · rw [yD]; show fB (zbj (Nat.beq _ _)) c = _; rw [za1, j6]; congr 3; rw [kaA, Nat.beq_eq]; simp; omega
  · rw [zbL]; show c (.bool true) = _; congr 2
  · rw [zbF]; show c (.bool true) = _; congr 2
  · rw [zbR]; show fB (zbj (Nat.beq _ _)) c = _; rw [za1, j6]; congr 3; rw [kaA, Nat.beq_eq]; simp; omega
@[simp] theorem qj (a b : Int) : zw q cst .add (iv k a) (iv k b) c = c (iv k (k.wrap (a + b))) := by
  cases a <;> cases b <;> simp only [iv]
  · rw [yD]; show zdz k _ c = _; rw [jh]; rfl
  · rw [zbL]; exact yN k _ c
  · rw [zbF]; exact yN k _ c
  · rw [zbR]; exact yN k _ c
@[simp] theorem wC (a b : Int) : zw q cst .sub (iv k a) (iv k b) c = c (iv k (k.wrap (a - b))) := by
  cases a <;> cases b <;> simp only [iv]
  · rename_i m n
    rw [yD]
    show (@Bool.rec (fun _ => A) (zdM k (Int.sub (Int.ofNat m) (Int.ofNat n)) c) (zdz k (Nat.sub m n) c) (Nat.ble n m) : A) = _
    cases h : Nat.ble n m with
    | true =>
      have g : n ≤ m := kaJ h
      show zdz k _ c = _
      rw [jh]
      have : Int.ofNat (Nat.sub m n) = Int.ofNat m - Int.ofNat n := by
        show ((m - n : Nat) : Int) = (m : Int) - (n : Int)
        omega
      rw [this]; rfl
    | false => exact yN k _ c
  · rw [zbL]; exact yN k _ c
  · rw [zbF]; exact yN k _ c
  · rw [zbR]; exact yN k _ c
end
theorem z8 {z:Int} (h:-9223372036854775808≤z) (J:z<9223372036854775808):IntKind.i64.wrap z=z:=by
 rw [IntKind.wrap_i64]
 omega
@[simp] theorem zEi (b : Bool) (c : V → A) : xUn .not (.bool b) c = c (.bool (!b)) := by
  show fB (zbj b) c = _
  rw [za1, j6]
open Go.RowKit
variable {P:Program}
open Classical in
noncomputable def Rq (P:Program) (Q:Nat→List V→S→V→S→Prop) (QC:FI→Code→T→S→A→Prop):R :=
  ⟨fun fi c N s=>if h:∃ a:A,zh5 P fi c N s a∧QC fi c N s a then h.choose else .bad 0,
   fun f B s=>if h:∃ p:V × S,zai P f B s p.1 p.2∧Q f B s p.1 p.2 then .ret h.choose.1 h.choose.2 else .bad 0⟩
theorem zwR (pc:PC) (Q:Nat→List V→S→V→S→Prop) (QC:FI→Code→T→S→A→Prop):RS P pc (Rq P Q QC):=by
 refine ⟨fun fi c N s G=>?_,fun f B s G=>?_⟩
 ·unfold Rq at G ⊢
  simp only at G ⊢
  split at G
  ·rename_i h
   rw [dif_pos h]
   exact h.choose_spec.1
  ·exact absurd trivial G
 ·unfold Rq at G ⊢
  simp only at G ⊢
  split at G
  ·rename_i h
   rw [dif_pos h]
   exact h.choose_spec.1
  ·exact absurd trivial G
variable {args:List V} {f:Nat} {Q:Nat→List V→S→V→S→Prop}
open Classical in
theorem zAx {QC:FI→Code→T→S→A→Prop} {s:S} (h:∃ v U,zai P f args s v U∧Q f args s v U) :
  ∃ v U,(Rq P Q QC).call f args s=.ret v U∧Q f args s v U:=by
 have u:∃ p:V × S,zai P f args s p.1 p.2∧Q f args s p.1 p.2:=by
  obtain ⟨v,U,h⟩:=h
  exact ⟨(v,U),h⟩
 refine ⟨u.choose.1,u.choose.2,?_,u.choose_spec.2⟩
 show (if h:∃ p:V × S,zai P f args s p.1 p.2∧Q f args s p.1 p.2 then F.ret h.choose.1 h.choose.2 else .bad 0)=_
 rw [dif_pos u]
variable {tm:T}
open Classical in
theorem zzp {QC:FI→Code→T→S→A→Prop} {fi:FI} {c:Code} {s:S} (h:∃ a,zh5 P fi c tm s a∧QC fi c tm s a) :
  ∃ a,(Rq P Q QC).code fi c tm s=a∧QC fi c tm s a:=by
 refine ⟨h.choose,?_,h.choose_spec.2⟩
 show (if h:∃ a,zh5 P fi c tm s a∧QC fi c tm s a then h.choose else .bad 0)=_
 rw [dif_pos h]
variable {U:S}
theorem ziN {pc:PC} (Z:PcOk P pc) {r:R} (N:RS P pc r) {s:S} {v:V} (h:(fnC pc f).run r args s=.ret v U):zai P f args s v U:=by
 have:=zxv Z N (f:=f) (args:=args) (s:=s) (by rw [h];exact fun h=>h)
 rw [h] at this
 exact this
theorem zuJ {pc:PC} (Z:PcOk P pc) {r:R} (N:RS P pc r) {fi:FI} {c:Code} {s:S} {a:A} (h:(zj pc fi c).run r tm s=a) (G:¬a.isBad):zh5 P fi c tm s a:=by
 have:=wk Z N c tm s (by rw [h];exact G)
 rw [h] at this
 exact this
theorem zgg {pc:PC} (Z:PcOk P pc) (Q:Nat→List V→S→V→S→Prop) (QC:FI→Code→T→S→A→Prop) {fi:FI} {c:Code} (D:T→S→Prop) (B:T→S→Nat)
  (body:∀ tm s,D tm s→(∀ F U,B F U<B tm s→D F U→QC fi c F U ((Rq P Q QC).code fi c F U))→¬((zj pc fi c).run (Rq P Q QC) tm s).isBad∧QC fi c tm s ((zj pc fi c).run (Rq P Q QC) tm s)) :
  ∀ tm s,D tm s→¬((zj pc fi c).run (Rq P Q QC) tm s).isBad∧QC fi c tm s ((zj pc fi c).run (Rq P Q QC) tm s):=by
 have key:∀ n tm s,B tm s=n→D tm s→¬((zj pc fi c).run (Rq P Q QC) tm s).isBad∧QC fi c tm s ((zj pc fi c).run (Rq P Q QC) tm s):=by
  intro n
  induction n using Nat.strongRecOn with
  | ind n X =>
   intro tm s e h
   refine body tm s h fun F U Y W=>?_
   obtain ⟨I,J⟩:=X (B F U) (by omega) F U rfl W
   obtain ⟨a,C,K⟩:=zzp (P:=P) (Q:=Q) (QC:=QC) (fi:=fi) (c:=c) (tm:=F) (s:=U) ⟨_,zuJ Z (zwR pc Q QC) rfl I,J⟩
   rw [C];exact K
 exact fun tm s h=>key _ tm s rfl h
variable {D:Bool} {W e v:Nat}
theorem ql {n:Nat}:jV n D W v e=true↔(D=true∧W≤v∧v≤n∧e≤v)∨(D=false∧e≤n):=by
 cases D with
 | false =>
  show Nat.ble e n=true↔_
  simp
 | true =>
  show (@Bool.rec (fun _=>Bool) false (@Bool.rec (fun _=>Bool) false (Nat.ble e v) (Nat.ble v n)) (Nat.ble W v):Bool)=true↔_
  cases I:Nat.ble W v with
  | false=>simp;intro h;rw [kah h] at I;cases I
  | true =>
   cases J:Nat.ble v n with
   | false=>simp;intro _ h;rw [kah h] at J;cases J
   | true =>
    have I:=kaJ I
    have J:=kaJ J
    simp [I,J]
theorem zcY {n:Nat} (h:jV n D W v e=true) (g:f≤e):jV n D W v f=true:=by
 rw [ql] at h ⊢
 rcases h with ⟨I,J,Q,K⟩ | ⟨I,J⟩
 ·exact .inl ⟨I,J,Q,by omega⟩
 ·exact .inr ⟨I,by omega⟩
theorem zwg {n:Nat} (h:jV n D W v e=true):e≤n:=by
 rw [ql] at h
 rcases h with ⟨I,J,Q,K⟩ | ⟨I,J⟩<;>omega
def Pt (s:S) (p:V) (m:Nat) (f:Nat→V):Prop:=∃ a w o l n el D W f1 f2,p=.ptr a w o∧Tr.get B.none a s.h=.row l n el D W f1 f2∧l.length=n∧jV n D W w (o+m)=true∧∀ j,j<m→l.getD (o+j) .bad=f j
def qm (v:V):Nat:=match v with | .sl _ _ _ l _=>l | .so _ _ _ l _=>l | _=>0
def yR (b:B):List V:=match b with | .row l _ _ _ _ _ _=>l | _=>[]
def qg (s:S) (v:V) (j:Nat):V:=match v with | .sl a _ o _ _=>(yR (Tr.get B.none a s.h)).getD (o+j) .bad | .so a _ o _ _=>(yR (Tr.get B.none a s.h)).getD (o+j) .bad | _=>.bad
def Sl (s:S) (sz:Nat) (v:V):Prop:=(v=.nil 1∨∃ M,v=.ref 1 M)∨∃ a w o len,((∃ cap,v=.sl a w o len cap∧len≤cap)∨∃ e,v=.so a w o len e)∧a.toNat<s.nx.toNat∧∃ l n el D W f1 f2,Tr.get B.none a s.h=.row l n el D W f1 f2∧l.length=n∧jV n D W w (o+len*sz)=true
def Fx (v:V):Prop:=match v with | .so _ _ _ _ _=>False | _=>True
theorem zu9 {x:V} (h:x≠.bad) (c:V→A):zoi x c=c x:=by
 cases x with
 | bad=>exact absurd rfl h
 | _=>rfl
theorem zez (n:Nat):∀ (l:List V) (c:List V→A),(∀ x∈l.take n,x≠.bad)→zil n l c=c (l.take n):=by
 induction n with
 | zero=>intro l c _;show c []=_;simp
 | succ n X =>
  intro l c h
  cases l with
  | nil=>rfl
  | cons x t =>
   have M:x≠.bad:=h x (by simp)
   have F:=X t (fun r=>c (x::r)) (fun y Y=>h y (by simp [Y]))
   cases x with
   | bad=>exact absurd rfl M
   | _=>exact F
theorem qG (k:IntKind) (z:Int):iv k z≠.bad:=by cases z<;>exact fun h=>by cases h
variable {f:Nat→V} {p:V}
theorem Pt.load1 {s:S} {m:Nat} (h:Pt s p m f) (Y:0<m) (F:f 0≠.bad) (k:V→S→A):zd false 1 p s k=k (f 0) s:=by
 obtain ⟨a,w,o,l,n,el,D,W,f1,f2,rfl,I,u,J,Q⟩:=h
 show zbb s a w o (fun x=>k x s)=_
 unfold zbb
 rw [qb,I]
 show (@Bool.rec (fun _=>A) _ _ (jV n D W w (Nat.succ o)):A)=_
 rw [zcY J (show Nat.succ o≤o+m by omega)]
 show zB1 o l _=_
 rw [ztJ]
 have:=Q 0 Y
 rw [Nat.add_zero] at this
 rw [this,zu9 F]
variable {l:List V} {sz:Nat}
theorem zfF {o:Nat} (e:o+sz≤l.length) (Q:∀ j,j<sz→l.getD (o+j) .bad=f j):(l.drop o).take sz=(List.range sz).map f:=by
 apply kaL
 intro i
 by_cases hi:i<sz
 ·rw [List.getElem?_take_of_lt hi,List.getElem?_drop]
  have:=Q i (by omega)
  rw [kaa] at this
  rw [kab (by omega)] at this ⊢
  simp [hi] at this ⊢
  exact this
 ·rw [kal (by simp;omega),kal (by simp;omega)]
theorem Pt.loadN {s:S} {m:Nat} (h:Pt s p m f) (sz:Nat) (Y:sz≤m) (F:∀ j,j<sz→f j≠.bad) (k:V→S→A):zd true sz p s k=k (.ls 0 ((List.range sz).map f)) s:=by
 obtain ⟨a,w,o,l,n,el,D,W,f1,f2,rfl,I,u,J,Q⟩:=h
 have C:=zwg J
 show zM s a w o sz (fun x=>k (.ls 0 x) s)=_
 unfold zM
 rw [qb,I]
 show (@Bool.rec (fun _=>A) _ _ (jV n D W w (Nat.add o sz)):A)=_
 rw [zcY J (show Nat.add o sz≤o+m by show o+sz≤o+m;omega)]
 show zem o l _=_
 have e:=zfF (l:=l) (o:=o) (sz:=sz) (f:=f) (by omega) (fun j G=>Q j (by omega))
 rw [jY,zez _ _ _ (by rw [e];intro x M;simp at M;obtain ⟨j,G,rfl⟩:=M;exact F j G),e]
theorem Pt.field {s:S} {m:Nat} (h:Pt s p m f) (off:Nat) (C:off≤m):∃ p',(∀ c,zb off p c=c p')∧Pt s p' (m - off) (fun j=>f (off+j)):=by
 obtain ⟨a,w,o,l,n,el,D,W,f1,f2,rfl,I,u,J,Q⟩:=h
 refine ⟨.ptr a w (o+off),fun c=>?_,a,w,o+off,l,n,el,D,W,f1,f2,rfl,I,u,zcY J (by omega),fun j G=>?_⟩
 ·show fN (Nat.add o off) (fun o=>c (V.ptr a w o))=_
  rw [zE];rfl
 ·rw [kaI];exact Q (off+j) (by omega)
variable {v:V}
theorem Sl.len {s:S} (h:Sl s sz v) (c:V→A):zm v c=c (iv .i64 (qm v)):=by
 rcases h with (rfl | ⟨M,rfl⟩) | ⟨a,w,o,len,⟨cap,rfl,_⟩ | ⟨e,rfl⟩,_⟩<;>rfl
theorem Sl.idx {s:S} (h:Sl s sz v) {i:Int} (h0:0≤i) (hi:i<qm v):∃ p,(∀ k c,ze sz v (iv k i) c=c p)∧Pt s p sz (fun j=>qg s v (i.toNat*sz+j)):=by
 obtain ⟨i,rfl⟩:=Int.eq_ofNat_of_zero_le h0
 rcases h with (rfl | ⟨M,rfl⟩) | ⟨a,w,o,len,E,_,l,n,el,D,W,f1,f2,I,f,J⟩
 ·exact absurd hi (by simp [qm])
 ·exact absurd hi (by simp [qm])
 ·have Q:qm v=len:=by rcases E with ⟨cap,rfl,_⟩ | ⟨e,rfl⟩<;>rfl
  have N:i<len:=by rw [Q] at hi;omega
  have g:(i+1)*sz≤len*sz:=kag _ N
  rw [Nat.add_mul] at g
  refine ⟨.ptr a w (o+i*sz),fun k c=>?_,a,w,o+i*sz,l,n,el,D,W,f1,f2,rfl,I,f,zcY J (by omega),fun j G=>?_⟩
  ·rcases E with ⟨cap,rfl,_⟩ | ⟨e,rfl⟩
   all_goals
    show (@Bool.rec (fun _=>A) _ _ (Nat.blt i len):A)=_
    rw [show Nat.blt i len=true by rw [Nat.blt_eq];exact N]
    show fN (Nat.add o (Nat.mul i sz)) (fun o=>c (.ptr a w o))=_
    rw [zE];rfl
  ·rw [kaI]
   rcases E with ⟨cap,rfl,_⟩ | ⟨e,rfl⟩<;>simp [qg,I,yR]
structure Ext (s s':S):Prop where
 nx:s.nx.toNat≤s'.nx.toNat
 get:∀ a,a.toNat<s.nx.toNat→Tr.get B.none a s'.h=Tr.get B.none a s.h
theorem Ext.refl (s:S):Ext s s:=⟨kad _,fun _ _=>rfl⟩
theorem Ext.trans {a b c:S} (h:Ext a b) (k:Ext b c):Ext a c:=⟨kaB h.nx k.nx,fun x M=>(k.get x (kan M h.nx)).trans (h.get x M)⟩
theorem Sl.ext {s:S} (h:Sl s sz v) (e:Ext s U):Sl U sz v∧∀ j,qg U v j=qg s v j:=by
 rcases h with (rfl | ⟨M,rfl⟩) | ⟨a,w,o,len,E,O,l,n,el,D,W,f1,f2,I,J⟩
 ·exact ⟨.inl (.inl rfl),fun j=>rfl⟩
 ·exact ⟨.inl (.inr ⟨M,rfl⟩),fun j=>rfl⟩
 ·refine ⟨.inr ⟨a,w,o,len,E,kan O e.nx,l,n,el,D,W,f1,f2,(e.get a O).trans I,J⟩,fun j=>?_⟩
  rcases E with ⟨cap,rfl,_⟩ | ⟨p,rfl⟩<;>simp [qg,e.get a O]
def zY (s:S) (b:B):S:=⟨Tr.set B.none b s.nx s.h,s.nx.succ⟩
theorem yc (s:S) (b:B):Ext s (zY s b):=⟨by show s.nx.toNat≤s.nx.succ.toNat;rw [K.toNat_succ];omega,fun a U=>by
 show Tr.get B.none a (Tr.set B.none b s.nx s.h)=_
 rw [get_set,if_neg (fun e=>by rw [e] at U;omega)]⟩
theorem qQ (s:S) (b:B):Tr.get B.none s.nx (zY s b).h=b:=by
 show Tr.get B.none s.nx (Tr.set B.none b s.nx s.h)=_
 rw [get_set,if_pos rfl]
theorem zU (s:S) (el:Nat) (l:List V) (D:Bool) (c:K→Nat→S→A):Go.Ev.newRow s el l D c=c s.nx l.length (zY s (.row l l.length el D 0 0 0)):=by
 unfold Go.Ev.newRow
 rw [yy,zfc];rfl
@[simp] theorem yP (k:IntKind) (z:Int) (c:List V→A):zg 1 (iv k z) c=c [iv k z]:=by cases z<;>rfl
@[simp] theorem wm (r : R) (g : Nat) (first cap args : List V) (tm : T) (s : S) (k : V → S → A) : jv r (.fn (.func g) first cap) args tm s k = zq (r.call g (first ++ (args ++ cap)) s) k := by
  show zfX args cap (fun l => zfX first l fun l => zdA r g l s k) = _
  rw [wr, wr]; rfl
theorem znU {k:IntKind} {a b:Int} (h:iv k a=iv k b):a=b:=by
 have:=congrArg toI h
 rwa [zp,zp] at this
def kOf:Nat→K
 | 0=>.h
 | n+1=>(kOf n).succ
theorem qX:∀ n,(kOf n).toNat=n+1
 | 0=>rfl
 | n+1=>by rw [kOf,K.toNat_succ,qX n]
variable {a:Nat}
theorem zuf {b:Nat} (h:kOf a=kOf b):a=b:=by
 have:=congrArg K.toNat h
 rw [qX,qX] at this
 omega
theorem zkb (k:K):∃ n,k=kOf n:=by
 refine ⟨k.toNat - 1,K.toNat_inj ?_⟩
 have:=k.toNat_pos
 rw [qX];omega
def zch (N:Nat):Value→V
 | .bool b=>.bool b
 | .int k n=>iv k n
 | .string s=>.str (zP s)
 | .pointer none=>.nil 0
 | .pointer (some ⟨b,o,none⟩)=>if b<N then .ptr (kOf b) 0 o else .bad
 | .slice none 0 0=>.nil 1
 | .slice (some _) 0 0=>.ref 1 .h
 | .slice (some ⟨b,o,none⟩) len cap=>if b<N∧len≤cap then .sl (kOf b) 0 o len cap else .bad
 | .map none=>.nil 2
 | .nilFunc=>.nil 3
 | .nilIface=>.nil 4
 | _=>.bad
def zBo (N:Nat):Value→V
 | .agg ⟨Z⟩=>if Z.all (·.oneCell') then .ls 0 (Z.map (zch N)) else .bad
 | v=>zch N v
def zxI (N:Nat):Option Obj→B
 | some (.cells c el _)=>.row (c.toList.map (zch N)) c.size el false 0 0 c.size
 | _=>.none
def zxM (w:World):Nat→Tr B
 | 0=>.lf
 | n+1=>Tr.set B.none (zxI w.heap.size w.heap[n]?) (kOf n) (zxM w n)
def jg (w:World):S:=⟨zxM w w.heap.size,kOf w.heap.size⟩
theorem zqK (w:World):∀ n b,Tr.get B.none (kOf b) (zxM w n)=if b<n then zxI w.heap.size w.heap[b]? else .none
 | 0,b=>by rw [zxM,zj6,if_neg (by omega)]
 | n+1,b=>by
  rw [zxM,get_set,zqK w n b]
  by_cases h:b=n
  ·subst h;rw [if_pos rfl,if_pos (by omega)]
  ·rw [if_neg (fun e=>h (zuf e))]
   by_cases g:b<n
   ·rw [if_pos g,if_pos (by omega)]
   ·rw [if_neg g,if_neg (by omega)]
theorem zge (w:World) (b:Nat):Tr.get B.none (kOf b) (jg w).h=if b<w.heap.size then zxI w.heap.size w.heap[b]? else .none:=zqK w _ b
def zhm (P : Program) (w : World) : Val :=
  { blk := fun a v => if v = 0 ∧ a.toNat ≤ w.heap.size then some (a.toNat - 1, 0) else none, cap := fun _ _ => 0,
    sz := fun a => match w.heap[a.toNat - 1]? with | some (.cells _ el _) => P.cellsOf el | _ => 0 }
variable {w:World}
theorem zb4 {a:K} {v:Nat} {p:Nat × Nat} (h:(zhm P w).blk a v=some p):v=0∧p.2=0∧p.1<w.heap.size∧a=kOf p.1:=by
 unfold zhm at h
 simp only at h
 split at h
 ·rename_i g
  cases h
  have:=a.toNat_pos
  refine ⟨g.1,rfl,by show a.toNat - 1<_;omega,K.toNat_inj ?_⟩
  rw [qX];show a.toNat=a.toNat - 1+1;omega
 ·cases h
theorem zk8 {b:Nat} (h:b<w.heap.size):(zhm P w).blk (kOf b) 0=some (b,0):=by
 unfold zhm
 simp only [qX]
 rw [if_pos ⟨trivial,by omega⟩];rfl
theorem zwo (N:Nat) (x:Value) (h:zch N x≠.bad):x.oneCell'=true:=by
 cases x<;>first | rfl | exact absurd rfl h
theorem zon (w:World) (x:Value):VR (zhm P w) (zch w.heap.size x) x:=by
 unfold zch
 split<;>first
  | trivial
  | rfl
  | (exact zds _ _ _)
  | (exact ⟨_,rfl,rfl⟩)
  | (exact .inl ⟨_,rfl⟩)
  | skip
 ·split
  ·rename_i h;exact ⟨_,0,zk8 h,by simp⟩
  ·trivial
 ·split
  ·rename_i h;exact ⟨_,0,zk8 h.1,by simp,h.2⟩
  ·trivial
theorem zoL (w:World):∀ l:List Value,VRs (zhm P w) (l.map (zch w.heap.size)) l
 | []=>rfl
 | x::l=>⟨x,l,rfl,zon w x,zoL w l⟩
theorem zAG (w:World) (x:Value):VR (zhm P w) (zBo w.heap.size x) x:=by
 unfold zBo
 split
 ·rename_i Z
  split
  ·rename_i h
   exact ⟨Z,zoL w Z,rfl,by simpa using h⟩
  ·trivial
 ·exact zon w x
variable {G:Nat}
theorem zCy (w:World) (E:G≤w.heap.size) (o:G<2 ^ 24):St P w.heap.size w (zhm P w) (jg w) w∧yn (zhm P w) G:=by
 refine ⟨⟨Below.refl _ _,kad _,fun a=>?_,fun a l=>⟨fun v=>?_,?_⟩,fun a v b O W F j I J _ _=>?_,fun a v b O h f=>?_⟩,fun g h=>?_⟩
 ·obtain ⟨b,rfl⟩:=zkb a
  rw [zge]
  split
  ·rename_i hb
   unfold zxI
   split
   ·rename_i c el B X
    show RowR P (zhm P w) w (kOf b) _ _ _ _ _ _ _
    refine ⟨by simp,fun _ v p Z=>?_,(fun h=>by cases h),(fun h=>by cases h),fun v F N O j z U=>?_,fun v N O Z=>?_⟩
    ·obtain ⟨u,Q,_⟩:=zb4 Z;exact ⟨u,Q⟩
    ·obtain ⟨_,Q,_⟩:=zb4 z;obtain ⟨_,d,_⟩:=zb4 U
     simp at Q d;omega
    ·obtain ⟨u,Q,d,D⟩:=zb4 Z
     have e:=zuf D
     simp at e Q
     subst e Q
     refine ⟨c,B,X,?_,.inl ⟨rfl,rfl,kad _⟩,(fun h=>by cases h),fun _ i x M _=>?_⟩
     ·show (match w.heap[(kOf b).toNat - 1]? with | some (.cells _ el _)=>P.cellsOf el | _=>0)=_
      rw [qX,Nat.add_sub_cancel,X]
     ·rw [kaD,Option.map_eq_some_iff] at M
      obtain ⟨y,Y,rfl⟩:=M
      exact ⟨y,by simpa using Y,zwo _ y,zon w y⟩
   ·trivial
  ·trivial
 ·unfold zhm
  have:(jg w).nx.toNat=w.heap.size+1:=qX _
  simp only
  rw [if_neg (by omega)]
 ·obtain ⟨b,rfl⟩:=zkb a
  have:(jg w).nx.toNat=w.heap.size+1:=qX _
  rw [qX] at l
  rw [zge,if_neg (by omega)]
 ·obtain ⟨_,_,_,D⟩:=zb4 I
  obtain ⟨_,_,_,C⟩:=zb4 J
  rw [D,C]
 ·obtain ⟨N,rfl⟩:=zkb a
  right
  rw [zge] at f ⊢
  split at f
  ·rename_i hb
   rw [if_pos hb]
   unfold zxI at f ⊢
   split at f
   ·exact ⟨rfl,rfl,kad _⟩
   ·exact f.elim
  ·exact f.elim
 ·have e:yZ 24 (g+1)=kOf g:=K.toNat_inj (by rw [zfT 24 (g+1) (by omega) (by omega),qX])
  rw [e];exact zk8 (by omega)
theorem St.later {D:Nat} {C w':World} {ν:Val} {s:S} (Y:St P D C ν s w) (hb:Below w.heap.size w w'):St P D C ν s w' :=
 ⟨Y.below.trans (hb.mono (kaB Y.n0le Y.below.size)),Y.n0le,fun a=>(Y.rows a).frame fun _ _ _ h f=>hb.block _ ((Y.rows a).there f h),Y.fresh,Y.sep,Y.own⟩
variable {f:Nat}
theorem zai.closed {b:Bool} {s1:S} (O:P.globals.size=G) (Q:zlG G=true) (Z:zai P f [] (zck G) (.bool b) s1) (s:S):zai P f [] s (.bool b) s:=by
 intro D C B w p Y _ E
 have X:p=[]:=E
 subst X
 obtain ⟨I,J⟩:=zxk (P:=P) Q w
 obtain ⟨e,k⟩:=Z w.heap.size w (zBb G) w [] I (by rw [O];exact J) rfl
 refine ⟨e,fun kind M F=>?_⟩
 obtain ⟨W,y,K,fr,z,U,g⟩:=k kind M F
 have d:y=.bool b:=U
 exact ⟨B,y,K,fr,⟨B.le_refl,Y.later z.st.below,kad _,fun _ h _=>⟨h,.inl rfl⟩⟩,d,g⟩
theorem zDr {args:List Value} {b:Bool} (O:P.globals.size=G) (F:G≤w.heap.size) (o:G<2 ^ 24)
  (Z:zai P f (args.map (zBo w.heap.size)) (jg w) (.bool b) U):Calls P f ⟨args⟩ w fun e w'=>e=.returned (.bool b)∧Below w.heap.size w w':=by
 obtain ⟨I,J⟩:=zCy (P:=P) w F o
 have E:∀ l:List Value,VRs (zhm P w) (l.map (zBo w.heap.size)) l:=by
  intro l
  induction l with
  | nil=>rfl
  | cons x l D=>exact ⟨x,l,rfl,zAG w x,D⟩
 obtain ⟨_,X⟩:=Z w.heap.size w (zhm P w) w args I (by rw [O];exact J) (E args)
 intro M
 obtain ⟨W,y,w',fr,z,C,g,p,K,B,h,fn,a,N⟩:=X .normal M (.inl rfl)
 have Y:y=.bool b:=C
 subst Y
 exact ⟨.returned (.bool b),w',fr,⟨rfl,z.st.below⟩,g,h,K,B,p,fn,by rw [h];exact a,N⟩
theorem zq4 {pc:PC} (Z:PcOk P pc) {n:Nat} {s:S} (h:zwL pc n f s=true):∃ s1,zai P f [] s (.bool true) s1:=by
 unfold zwL at h
 cases X:(run pc n).call f [] s with
 | ret v s1 =>
  rw [X] at h
  cases v with
  | bool b=>cases b with
   | true=>exact ⟨s1,(znH Z n).call _ _ _ _ _ X⟩
   | false=>cases h
  | _=>cases h
 | _=>rw [X] at h;cases h
structure Ct where
 pre:List V→S→Prop
 post:List V→S→V→S→Prop
structure Lt where
 pre:T→S→Prop
 post:T→S→A→Prop
def zo (P:Program) (K:Nat→Ct) (f:Nat):Prop:=∀ a s,(K f).pre a s→∃ v U,zai P f a s v U∧(K f).post a s v U
noncomputable def Rk (P:Program) (K:Nat→Ct) (L:Nat→Lt):R :=
 Rq P (fun f a s v U=>(K f).pre a s→(K f).post a s v U) (fun _ c N s a=>(L (zH c)).pre N s→(L (zH c)).post N s a)
theorem zxX (pc:PC) (K:Nat→Ct) (L:Nat→Lt):RS P pc (Rk P K L):=zwR pc _ _
theorem zAN {K:Nat→Ct} {L:Nat→Lt} {a:List V} {s:S} (h:zo P K f) (Z:(K f).pre a s):∃ v U,(Rk P K L).call f a s=.ret v U∧(K f).post a s v U:=by
 obtain ⟨v,U,I,J⟩:=h a s Z
 obtain ⟨v,U,C,O⟩:=zAx (P:=P) (Q:=fun f a s v U=>(K f).pre a s→(K f).post a s v U) (QC:=fun _ c N s a=>(L (zH c)).pre N s→(L (zH c)).post N s a) ⟨v,U,I,fun _=>J⟩
 exact ⟨v,U,C,O Z⟩
def zD9 (K:Nat→Ct) (r:R) (f:Nat):Prop:=∀ a s,(K f).pre a s→∃ v U,r.call f a s=.ret v U∧(K f).post a s v U
theorem zh {K:Nat→Ct} {L:Nat→Lt} (h:zo P K f):zD9 K (Rk P K L) f:=fun _ _ Z=>zAN h Z
theorem zCR {pc:PC} (Z:PcOk P pc) {K:Nat→Ct} {L:Nat→Lt} {fi:FI} {c:Code} {n:Nat} (o:zH c=n) (B:T→S→Nat) (G:∀ tm s a,(L n).pre tm s→(L n).post tm s a→¬a.isBad)
  (body:∀ tm s,(L n).pre tm s→(∀ F U,B F U<B tm s→(L n).pre F U→(L n).post F U ((Rk P K L).code fi c F U))→(L n).post tm s ((zj pc fi c).run (Rk P K L) tm s)) :
  ∀ tm s,(L n).pre tm s→(L n).post tm s ((zj pc fi c).run (Rk P K L) tm s):=by
 intro tm s h
 have:=(zgg (P:=P) Z (fun f a s v U=>(K f).pre a s→(K f).post a s v U) (fun _ c tm s a=>(L (zH c)).pre tm s→(L (zH c)).post tm s a) (fi:=fi) (c:=c) (L n).pre B (fun tm s h E=>by
  have:=body tm s h fun F U I J=>by
   have:=E F U I J
   rw [o] at this
   exact this J
  exact ⟨G _ _ _ h this,fun _=>by rw [o];exact this⟩) tm s h).2
 rw [o] at this
 exact this h
def zlj (s:S) (v:V):Prop:=Sl s 1 v∧qm v≤9223372036854775807∧∀ j,j<qm v→qg s v j=iv .i64 (toI (qg s v j))
noncomputable def zkl (s:S) (v:V) (j:Nat):Int:=toI (qg s v j)
noncomputable def word (s:S) (v:V):List Int:=(List.range (qm v)).map (zkl s v)
variable {i:Nat}
@[simp] theorem zD5 (s:S) (v:V):(word s v).length=qm v:=by simp [word]
theorem zo2 {s:S} (h:i<qm v):(word s v)[i]?=some (zkl s v i):=by simp [word,h]
theorem zlj.at_ {s:S} (h:zlj s v) (hi:i<qm v):∃ p,(∀ k c,ze 1 v (iv k i) c=c p)∧∀ k:V→S→A,zd false 1 p s k=k (iv .i64 (zkl s v i)) s:=by
 obtain ⟨p,Z,F⟩:=h.1.idx (i:=i) (by omega) (by omega)
 refine ⟨p,Z,fun k=>?_⟩
 have e:qg s v ((i:Int).toNat*1+0)=iv .i64 (zkl s v i):=by
  simp only [Int.toNat_natCast,kaz,Nat.add_zero]
  rw [h.2.2 i hi];rfl
 rw [F.load1 Nat.zero_lt_one (by rw [e];exact qG _ _),e]
theorem zlj.ext {s:S} (h:zlj s v) (e:Ext s U):zlj U v∧∀ j,zkl U v j=zkl s v j:=by
 obtain ⟨I,J⟩:=h.1.ext e
 refine ⟨⟨I,h.2.1,fun j G=>?_⟩,fun j=>?_⟩
 ·rw [J];exact h.2.2 j G
 ·unfold zkl;rw [J]
theorem zlj.word {s:S} (h:zlj s v) (e:Ext s U):word U v=word s v:=by
 unfold Go.Ev.word
 exact List.map_congr_left fun j _=>(h.ext e).2 j
theorem zlj.ne {s:S} (h:zlj s v):v≠.bad:=by
 rcases h.1 with (rfl | ⟨M,rfl⟩) | ⟨_,_,_,_,⟨_,rfl,_⟩ | ⟨_,rfl⟩,_⟩<;>exact fun h=>by cases h
theorem zz8 {α:Type} (d x y:α) (k:K):∀ t:Tr α,Tr.set d y k (Tr.set d x k t)=Tr.set d y k t:=by
 induction k with
 | h=>intro t;cases t<;>rfl
 | o p X=>intro t;cases t<;>simp [Tr.set,X]
 | i p X=>intro t;cases t<;>simp [Tr.set,X]
theorem zeW (s:S) (el n:Nat) (W l:List V) (h0:W.length=n) (f:l.length=n) (k:V→S→A):zA n (.ptr s.nx 0 0) (.ls 0 l) (zY s (.row W n el false 0 0 0)) k=k undef (zY s (.row l n el false 0 0 0)):=by
 show zg n (.ls 0 l) (fun l=>qc _ s.nx 0 0 n l (fun s=>k undef s))=_
 show zdv l (fun m=>@Bool.rec (fun _=>A) _ _ (Nat.beq m n))=_
 rw [yy,show Nat.beq l.length n=true by rw [f];exact kaF n]
 show qc _ s.nx 0 0 n l (fun s=>k undef s)=_
 unfold qc
 rw [qb,qQ]
 show (@Bool.rec (fun _=>A) _ _ (zgI n false 0 0 (Nat.add 0 n) 0 0):A)=_
 rw [show zgI n false 0 0 (Nat.add 0 n) 0 0=true by
  show (@Bool.rec (fun _=>Bool) _ _ (Nat.ble (Nat.add 0 n) n):Bool)=_
  rw [show Nat.ble (Nat.add 0 n) n=true from kah (by show 0+n≤n;omega)];rfl]
 show zJ l 0 W _=_
 rw [zeU,ym]
 have e:upd l 0 W=l:=by
  subst h0
  clear k
  induction l generalizing W with
  | nil=>cases W with
   | nil=>rfl
   | cons=>cases f
  | cons x l X=>cases W with
   | nil=>cases f
   | cons y W=>exact congrArg (x::·) (X W (by simpa using f))
 rw [e]
 show k undef ⟨Tr.set B.none _ s.nx (Tr.set B.none _ s.nx s.h),s.nx.succ⟩=_
 rw [zz8];rfl
theorem zDb (s:S) (el n:Nat) (l:List V) (f:l.length=n):Pt (zY s (.row l n el false 0 0 0)) (.ptr s.nx 0 0) n (fun j=>l.getD j .bad) :=
 ⟨s.nx,0,0,l,n,el,false,0,0,0,rfl,qQ _ _,f,ql.2 (.inr ⟨rfl,by omega⟩),fun j _=>by rw [kas]⟩
theorem Pt.ext {s:S} {m:Nat} {f:Nat→V} (h:Pt s p m f) (e:Ext s U) (O:∀ a v o,p=.ptr a v o→a.toNat<s.nx.toNat):Pt U p m f:=by
 obtain ⟨a,w,o,l,n,el,D,W,f1,f2,rfl,I,J,Q,K⟩:=h
 exact ⟨a,w,o,l,n,el,D,W,f1,f2,rfl,(e.get a (O _ _ _ rfl)).trans I,J,Q,K⟩
def bnd (x:Option V) (d n:Nat):Prop:=(x=none∧n=d)∨∃ k,x=some (iv k n)
theorem bnd.run {x:Option V} {d n:Nat} (h:bnd x d n) (c:Nat→A):qw x d c=c n:=by
 rcases h with ⟨rfl,rfl⟩ | ⟨k,rfl⟩<;>rfl
theorem Sl.slice {s:S} (h:Sl s sz v) (F:Fx v) {lo hi:Option V} {b:Nat} (I:bnd lo 0 a) (J:bnd hi (qm v) b) (Y:a≤b) (hb:b≤qm v) :
  ∃ u,(∀ el c,qu el sz v lo hi none s c=c u)∧Sl s sz u∧qm u=b - a∧(∀ j,j<(b - a)*sz→qg s u j=qg s v (a*sz+j))∧Fx u:=by
 rcases h with (rfl | ⟨N,rfl⟩) | ⟨k,w,o,len,⟨cap,rfl,E⟩ | ⟨e,rfl⟩,O,l,n,el,D,W,f1,f2,z,U,g⟩
 ·have y:b=0:=by simpa [qm] using hb
  subst y
  have K:a=0:=by omega
  subst K
  refine ⟨.nil 1,fun el c=>?_,.inl (.inl rfl),rfl,fun j G=>by omega,trivial⟩
  show qw lo 0 (fun a=>qw hi 0 fun b=>qw none 0 fun m=>(@Bool.rec (fun _=>A) eA (c (.nil 1)) (zB (Nat.beq 1 1) (zB (Nat.beq a 0) (zB (Nat.beq b 0) (Nat.beq m 0)))):A))=_
  rw [I.run]
  rw [bnd.run (d:=0) J];rfl
 ·have y:b=0:=by simpa [qm] using hb
  subst y
  have K:a=0:=by omega
  subst K
  refine ⟨.ref 1 N,fun el c=>?_,.inl (.inr ⟨N,rfl⟩),rfl,fun j G=>by omega,trivial⟩
  show qw lo 0 (fun l=>qw hi 0 fun h=>(@Bool.rec (fun _=>A) eA (c (.ref 1 N)) (zB (Nat.beq 1 1) (zB (Nat.beq l 0) (Nat.beq h 0))):A))=_
  rw [I.run]
  rw [bnd.run (d:=0) J];rfl
 ·have M:b≤len:=hb
  refine ⟨.sl k w (Bool.rec (Nat.add o (Nat.mul a sz)) o (Nat.beq cap a)) (b - a) (cap - a),fun el c=>?_,.inr ⟨k,w,_,b - a,.inl ⟨cap - a,rfl,by omega⟩,O,l,n,el,D,W,f1,f2,z,U,zcY g ?_⟩,rfl,fun j G=>?_,trivial⟩
  ·show jm sz k w o len cap lo hi none c=_
   unfold jm
   rw [I.run,bnd.run (d:=len) J]
   show (@Bool.rec (fun _=>A) _ _ (zB (Nat.ble a b) (zB (Nat.ble b cap) (Nat.ble cap cap))):A)=_
   rw [show Nat.ble a b=true from kah Y,show Nat.ble b cap=true from kah (by omega),show Nat.ble cap cap=true from kah (kad _)]
   show fN (Nat.sub b a) (fun Q=>fN (Nat.sub cap a) fun C=>fN (Bool.rec (Nat.add o (Nat.mul a sz)) o (Nat.beq cap a)) fun i=>c (.sl k w i Q C))=_
   rw [zE,zE,zE];rfl
  ·have:(b - a)*sz+a*sz≤len*sz:=by rw [←Nat.add_mul];exact kag _ (by omega)
   cases X:Nat.beq cap a with
   | true=>show o+(b - a)*sz≤o+len*sz;omega
   | false=>show o+a*sz+(b - a)*sz≤o+len*sz;omega
  ·cases X:Nat.beq cap a with
   | true =>
    have:=kac X
    have:b - a=0:=by omega
    rw [this] at G;omega
   | false =>
    show (yR (Tr.get B.none k s.h)).getD (o+a*sz+j) .bad=(yR (Tr.get B.none k s.h)).getD (o+(a*sz+j)) .bad
    rw [kaI]
 ·exact F.elim

variable {W:World}
theorem zoH {b:Nat} {c:Array Value} {el:TypeId} {E:Nat × Nat} (h:W.heap[b]?=some (.cells c el E)):b<W.heap.size∧Tr.get B.none (kOf b) (jg W).h=.row (c.toList.map (zch W.heap.size)) c.size el false 0 0 c.size:=by
 have hb:b<W.heap.size:=by
  rcases kaK b W.heap.size with g | g
  ·exact g
  ·rw [Array.getElem?_eq_none g] at h;cases h
 refine ⟨hb,?_⟩
 rw [zge,if_pos hb,h];rfl
theorem zDm {b:Nat} (h:b<W.heap.size):(kOf b).toNat<(jg W).nx.toNat:=by
 show (kOf b).toNat<(kOf W.heap.size).toNat
 rw [qX,qX];omega
theorem zyq (b o j:Nat):(⟨b,o,none⟩:Addr).add j=⟨b,o+j,none⟩:=by
 unfold Addr.add
 split
 ·rename_i h;subst h;rfl
 ·rfl
theorem zx7 {a:Addr} {len cap:Nat} {V:Nat→Value} (f:len≤cap) (h:∀ j,j<cap*sz→W.cell? (a.add j)=some (V j)) (hsz:0<sz) :
  (Sl (jg W) sz (zch W.heap.size (.slice (some a) len cap))∧Fx (zch W.heap.size (.slice (some a) len cap)))∧qm (zch W.heap.size (.slice (some a) len cap))=len∧∀ j,j<len*sz→qg (jg W) (zch W.heap.size (.slice (some a) len cap)) j=zch W.heap.size (V j):=by
 by_cases X:cap=0
 ·subst X
  obtain rfl:len=0:=by omega
  exact ⟨⟨.inl (.inr ⟨_,rfl⟩),trivial⟩,rfl,fun j G=>by omega⟩
 ·have o:0<cap*sz:=Nat.mul_pos (by omega) hsz
  obtain ⟨b,off,spot⟩:=a
  have h0:=h 0 o
  have B:∃ c el E,W.heap[b]?=some (.cells c el E)∧spot=none:=by
   have e:((⟨b,off,spot⟩:Addr).add 0).block=b:=rfl
   unfold World.cell? at h0
   rw [e] at h0
   split at h0
   ·rename_i c el E X
    refine ⟨c,el,E,X,?_⟩
    split at h0
    ·cases h0
    ·rename_i C
     cases spot with
     | none=>rfl
     | some x=>exact absurd rfl C
   ·cases h0
  obtain ⟨c,el,E,hb,rfl⟩:=B
  have d:∀ j,j<cap*sz→c[off+j]?=some (V j):=fun j G=>by
   have:=h j G
   rw [zyq] at this
   unfold World.cell? at this
   simp only [hb] at this
   simpa using this
  obtain ⟨O,Q⟩:=zoH hb
  have F:zch W.heap.size (.slice (some ⟨b,off,none⟩) len cap)=.sl (kOf b) 0 off len cap:=by
   obtain ⟨n,rfl⟩:∃ n,cap=n+1:=⟨cap - 1,by omega⟩
   cases len<;>exact if_pos ⟨O,f⟩
  have D:off+cap*sz≤c.size:=by
   have:=d (cap*sz - 1) (by omega)
   have:=(kat.1 this).1
   omega
  have g:len*sz≤cap*sz:=kag _ f
  rw [F]
  refine ⟨⟨.inr ⟨kOf b,0,off,len,.inl ⟨cap,rfl,f⟩,zDm O,_,_,_,_,_,_,_,Q,by simp,ql.2 (.inr ⟨rfl,by omega⟩)⟩,trivial⟩,rfl,fun j G=>?_⟩
  have:=d j (by omega)
  simp only [qg,Q,yR]
  rw [kaa,kaD,kam,this];rfl
variable {H:Type} {enc:TypeId × Value→H}
variable {e:TypeId} {x:Value}
theorem zyg {t:TypeId} {fuel:Nat} {y:DataW H × List MemPlace} {held:Bool} (F:P.underlying t=some (.slice e)) (z:P.underlying e=some (.int .i64)) (X:P.cellsOf e=1)
  (h:DataW.trod enc P W 0 (fun _=>true) held fuel t [x]=some y):(zlj (jg W) (zch W.heap.size x)∧Fx (zch W.heap.size x))∧∃ u l c,x=.slice u l c:=by
 rcases Go.ChangeShapes.open_ints F z X h with ⟨B,_⟩ | ⟨a,len,cap,K,B,_,f,Y,hz,_,C,_⟩
 ·cases B
  exact ⟨⟨⟨.inl (.inl rfl),by show (0:Nat)≤_;omega,fun j G=>by cases G⟩,trivial⟩,_,_,_,rfl⟩
 ·cases B
  simp only [if_true] at hz
  obtain ⟨I,J,Q⟩:=zx7 (W:=W) (a:=a) (sz:=1) (V:=fun j=>.int .i64 (K.getD j 0)) f (fun j G=>C j (by omega)) (by omega)
  refine ⟨⟨⟨I.1,by rw [J];have:maxLen=9223372036854775807:=rfl;omega,fun j G=>?_⟩,I.2⟩,_,_,_,rfl⟩
  rw [J] at G
  rw [Q j (by omega)]
  show iv .i64 _=iv .i64 (toI (iv .i64 _))
  rw [zp]
theorem zBs {r:Reach} {base:Nat} {t:TypeId} (F:P.underlying t=some (.slice e)) (h:Value.okWide P W r base t x):∃ u l c,x=.slice u l c:=by
 unfold Value.okWide at h
 rw [F] at h
 simp only at h
 unfold Cell.okWide at h
 rw [F] at h
 simp only at h
 unfold Cell.ok at h
 rw [F] at h
 cases x<;>first | exact ⟨_,_,_,rfl⟩ | exact h.elim
theorem zEf (F:W.ShapedOpen P) (h0:Nat.blt P.globals.size (begin P (fun _ _=>0) default).world.heap.size=true):P.globals.size≤W.heap.size:=by
 have h0:P.globals.size<(begin P (fun _ _=>0) default).world.heap.size:=by simpa [Nat.blt_eq] using h0
 obtain ⟨o,B,I,_⟩:=F.2 _ (kad _) h0
 rcases kaK P.globals.size W.heap.size with g | g
 ·omega
 ·rw [Array.getElem?_eq_none g] at I;cases I
def yI (s:S) (a:K) (b:B):S:=⟨Tr.set B.none b a s.h,s.nx⟩
theorem z9 (s:S) (a c:K) (b:B):Tr.get B.none c (yI s a b).h=if c=a then b else Tr.get B.none c s.h:=get_set _ _ _ _ _
theorem zCx (cst:Bool) (a b:Int):eqV ⟨7,[]⟩ cst (iv .i64 a) (iv .i64 b)=some (decide (a=b)):=by
 cases a<;>cases b<;>simp only [iv]
 ·rename_i m n
  show some (Nat.beq m n)=_
  congr 1
  rw [kaA,Nat.beq_eq];simp;omega
 ·show some false=_
  congr 1
 ·show some false=_
  congr 1
 ·rename_i m n
  show some (Nat.beq m n)=_
  congr 1
  rw [kaA,Nat.beq_eq];simp
variable {el:Nat}
theorem js {s:S} {a:K} {n:Nat} (Q:Tr.get B.none a s.h=.row l n el false 0 0 0) (o:Nat) (x:V) (M:∀ c:List V→A,zg 1 x c=c [x]) (C:o<n) (k:V→S→A) :
  zA 1 (.ptr a 0 o) x s k=k undef (yI s a (.row (upd [x] o l) n el false 0 0 0)):=by
 show zg 1 x (fun l=>qc s a 0 o 1 l (fun s=>k undef s))=_
 rw [M]
 unfold qc
 rw [qb,Q]
 show (@Bool.rec (fun _=>A) _ _ (zgI n false 0 o (Nat.add o 1) 0 0):A)=_
 rw [show zgI n false 0 o (Nat.add o 1) 0 0=true by
  show (@Bool.rec (fun _=>Bool) _ _ (Nat.ble (Nat.add o 1) n):Bool)=_
  rw [show Nat.ble (Nat.add o 1) n=true from kah (by show o+1≤n;omega)];rfl]
 show zJ [x] o l _=_
 rw [zeU,ym];rfl
theorem jy {s:S} {a:K} {n:Nat} (Q:Tr.get B.none a s.h=.row l n el false 0 0 0) (o:Nat) (e:l.length=n) (C:o<n) (M:l.getD o .bad≠.bad) (k:V→S→A):zd false 1 (.ptr a 0 o) s k=k (l.getD o .bad) s:=by
 have:Pt s (.ptr a 0 o) 1 (fun j=>l.getD (o+j) .bad):=⟨a,0,o,l,n,el,false,0,0,0,rfl,Q,e,ql.2 (.inr ⟨rfl,by omega⟩),fun j _=>rfl⟩
 exact this.load1 (by omega) M k
@[simp] theorem zDx (a:V) (l:List V) (c:V→A):zz 0 (.ls 1 (a::l)) c=c a:=rfl
@[simp] theorem zDD (a b:V) (l:List V) (c:V→A):zz 1 (.ls 1 (a::b::l)) c=c b:=rfl
theorem yg (n:Nat) (l:List V) (h:l.length=n) (c:List V→A):zg n (.ls 0 l) c=c l:=by
 show zdv l (fun m=>@Bool.rec (fun _=>A) _ _ (Nat.beq m n))=_
 rw [yy,h,show Nat.beq n n=true from kaF n]
theorem zrt (a:K) (v o:Nat) (c:List V→A):zg 1 (.ptr a v o) c=c [.ptr a v o]:=rfl
@[simp] theorem zDB (off : Nat) (a : K) (v o : Nat) (c : V → A) : zb off (.ptr a v o) c = c (.ptr a v (o + off)) := by
  show fN (Nat.add o off) (fun o => c (V.ptr a v o)) = _
  rw [zE]; rfl
@[simp] theorem zAR (a:K) (v o:Nat) (c:V→A):yf (.ptr a v o) c=c (.ptr a v o):=rfl
theorem zoJ (cst:Bool) (a:K) (v o:Nat) (c:V→A):zw ⟨1,[]⟩ cst .eql (.ptr a v o) (.nil 0) c=c (.bool false):=rfl
theorem zpE (cst:Bool) (c:V→A):zw ⟨1,[]⟩ cst .eql (.nil 0) (.nil 0) c=c (.bool true):=rfl
theorem zaK (a:K):K.beq a a=true:=by
 induction a with
 | h=>rfl
 | o p X=>exact X
 | i p X=>exact X
theorem zyD (a:K) (t:Nat):yT (.ref t a) (.ref t a)=true:=by
 show zB (Nat.beq t t) (K.beq a a)=true
 rw [zaK,kaF];rfl
section
variable (q:EK) (cst:Bool) (k:IntKind) (c:V→A)
end
theorem yM (k j:IntKind) {n:Nat} (h:n<lim k) (c:V→A):zW k (iv j (n:Int)) c=c (iv k (n:Int)):=by
 show zdz k n c=_
 rw [jh,yp h];rfl
variable {a:Nat}
theorem zta (k j:IntKind) {b:Nat} (hb:b≤k.bits) (c:V→A):wb .shr (iv k (a:Int)) (iv j (b:Int)) c=c (iv k ((a / 2 ^ b:Nat):Int)):=by
 show fN (min b k.bits) (fun n=>ofI k ((toI (.nat k a)).fdiv (Int.ofNat (Nat.pow 2 n))) c)=_
 rw [zE,zru,Nat.min_eq_left hb]
 congr 2
 show Int.fdiv (a:Int) ((2 ^ b:Nat):Int)=_
 rw [Int.fdiv_eq_ediv_of_nonneg _ (Int.natCast_nonneg _)]
 exact (Int.natCast_ediv a (2 ^ b)).symm
theorem yE (l:List Nat) (c:V→A):qt (.str l) c=c (iv .i64 (l.length:Int)):=by
 show zdv l (fun n=>c (.nat .i64 n))=_
 rw [yy];rfl
theorem zqG {β:Type} (d:β):∀ (i:Nat) (l:List Nat) (c:Nat→β),i<l.length→zoT i l c d=c (l.getD i 0)
 | 0,[],_,h=>by cases h
 | 0,x::l,c,_=>rfl
 | n+1,[],_,h=>by cases h
 | n+1,x::l,c,h=>by
  show zoT n l c d=_
  rw [zqG d n l c (by simpa using h)];rfl
theorem we (l:List Nat) (k:IntKind) {i:Nat} (h:i<l.length) (c:V→A):zD (.str l) (iv k (i:Int)) c=c (iv .u8 (l.getD i 0:Nat)):=by
 show zoT i l (fun b=>c (.nat .u8 b)) eA=_
 rw [zqG _ i l _ h];rfl
theorem jb (l:List Nat) {lo hi:Option V} {b:Nat} (I:bnd lo 0 a) (J:bnd hi l.length b) (Y:a≤b) (hb:b≤l.length) (c:V→A):qa (.str l) lo hi c=c (.str ((l.drop a).take (b - a))):=by
 show zdv l (fun n=>qw lo 0 fun a=>qw hi n fun b=>(@Bool.rec (fun _=>A) eA (zem a l (fun l=>zqv (Nat.sub b a) l fun l=>c (.str l))) (zB (Nat.ble a b) (Nat.ble b n))))=_
 rw [yy,I.run,J.run]
 rw [show Nat.ble a b=true from kah Y,show Nat.ble b l.length=true from kah hb]
 show zem a l _=_
 rw [jY,zgX];rfl
def zzR:List Nat:=(List.range 20).map (10 ^ ·)
variable {el:Nat}
theorem zBJ {s:S} {a:K} {l:List V} {n f2:Nat} (h:Tr.get B.none a s.h=.row l n el false 0 0 f2) (f:l.length=n) {o m:Nat} (C:o+m≤n):Pt s (.ptr a 0 o) m (fun j=>l.getD (o+j) .bad) :=
 ⟨a,0,o,l,n,el,false,0,0,f2,rfl,h,f,ql.2 (.inr ⟨rfl,C⟩),fun _ _=>rfl⟩
theorem zC3 (n sz:Nat) (a:K) (v o i:Nat) (k:IntKind) (h:i<n) (c:V→A):zcw n sz (.ptr a v o) (iv k (i:Int)) c=c (.ptr a v (o+i*sz)):=by
 show (@Bool.rec (fun _=>A) eA (fN (Nat.add o (Nat.mul i sz)) (fun o=>c (.ptr a v o))) (Nat.blt i n):A)=_
 rw [show Nat.blt i n=true by rw [Nat.blt_eq];exact h]
 show fN _ _=_
 rw [zE];rfl
def qi:V→Option K
 | .so a _ _ _ _=>some a
 | .sl a _ _ _ _=>some a
 | .ptr a _ _=>some a
 | .ref _ a=>some a
 | _=>none
def Gz (el sz:Nat) (b s:S) (v:V) (l:List (List V)):Prop:=(v=.nil 1∧l=[])∨∃ a W,v=.so a (l.length*sz) 0 l.length 0∧b.nx.toNat≤a.toNat∧a.toNat<s.nx.toNat∧(0<l.length∧W≤l.length*sz)∧Tr.get B.none a s.h=.row l.flatten (l.length*sz) el true W 0 0∧∀ x∈l,x.length=sz
variable {l:List (List V)} {sz:Nat} {U:S} {v:V}
theorem Gz.ext {b s:S} (h:Gz el sz b s v l) (e:Ext s U):Gz el sz b U v l:=by
 rcases h with h | ⟨a,W,rfl,I,J,Q,K,d⟩
 ·exact .inl h
 ·exact .inr ⟨a,W,rfl,I,kan J e.nx,Q,(e.get a J).trans K,d⟩
theorem Gz.blk {b s:S} (h:Gz el sz b s v l) {c:K} (X:qi v=some c):b.nx.toNat≤c.toNat∧c.toNat<s.nx.toNat:=by
 rcases h with ⟨rfl,rfl⟩ | ⟨a,W,rfl,I,J,Q,O,d⟩
 ·cases X
 ·cases X;exact ⟨I,J⟩
theorem Gz.keep {b s:S} (h:Gz el sz b s v l) (o:s.nx.toNat≤U.nx.toNat) (F:∀ c,qi v=some c→Tr.get B.none c U.h=Tr.get B.none c s.h):Gz el sz b U v l:=by
 rcases h with h | ⟨a,W,rfl,I,J,Q,K,d⟩
 ·exact .inl h
 ·exact .inr ⟨a,W,rfl,I,by omega,Q,(F a rfl).trans K,d⟩
theorem Gz.len {b s:S} (h:Gz el sz b s v l) (c:V→A):zm v c=c (iv .i64 (l.length:Int)):=by
 rcases h with ⟨rfl,rfl⟩ | ⟨a,W,rfl,I,J,Q,K,d⟩<;>rfl
theorem wY {sz:Nat}:∀ {l:List (List V)},(∀ x∈l,x.length=sz)→l.flatten.length=l.length*sz
 | [],_=>by simp
 | x::l,h=>by
  rw [List.flatten_cons,kae,wY (l:=l) fun y Y=>h y (by simp [Y]),h x (by simp),kay,Nat.add_mul];omega
theorem zeo {sz:Nat}:∀ {l:List (List V)},(∀ x∈l,x.length=sz)→∀ {i j:Nat},i<l.length→j<sz→l.flatten.getD (i*sz+j) .bad=(l.getD i []).getD j .bad
 | [],_,_,_,hi,_=>by cases hi
 | x::l,h,0,j,_,G=>by
  have M:=h x (by simp)
  rw [List.flatten_cons,kaa,kar (by omega),Nat.zero_mul,kas]
  rw [←kaa];rfl
 | x::l,h,i+1,j,hi,G=>by
  have M:=h x (by simp)
  have:=zeo (l:=l) (fun y Y=>h y (by simp [Y])) (i:=i) (j:=j) (by simpa using hi) G
  rw [List.flatten_cons,kaa,kaw (by rw [M,Nat.add_mul];omega),M,show (i+1)*sz+j - sz=i*sz+j by rw [Nat.add_mul];omega,←kaa,this];rfl
theorem Gz.sl {b s:S} (h:Gz el sz b s v l):Sl s sz v∧qm v=l.length∧∀ i j,i<l.length→j<sz→qg s v (i*sz+j)=(l.getD i []).getD j .bad:=by
 rcases h with ⟨rfl,rfl⟩ | ⟨a,W,rfl,I,J,Q,K,d⟩
 ·exact ⟨.inl (.inl rfl),rfl,fun i j hi=>by cases hi⟩
 ·refine ⟨.inr ⟨a,_,0,l.length,.inr ⟨0,rfl⟩,J,_,_,el,true,W,0,0,K,wY d,ql.2 (.inl ⟨rfl,Q.2,kad _,by omega⟩)⟩,rfl,fun i j hi G=>?_⟩
  rw [←zeo d hi G]
  simp [qg,K,yR]
theorem zmY (s:S) (el:Nat) (l:List V) (G:Nat) (o:G≤68719476736) (k:V→S→A):wj s el l G k=k (.so s.nx l.length 0 G 0) (zY s (.row l l.length el true 0 0 0)):=by
 show (@Bool.rec (fun _=>A) _ _ (Nat.ble G 68719476736):A)=_
 rw [kah o]
 show Go.Ev.newRow s el l true (fun a n s=>k (.so a n 0 G 0) s)=_
 rw [zU]
theorem Gz.append {b s:S} (h:Gz el sz b s v l) (hb:b.nx.toNat≤s.nx.toNat) (hsz:0<sz) (new:List (List V)) (zcR:∀ x∈new,x.length=sz) (u:l.length+new.length≤68719476736) :
  ∃ F U,(∀ k:V→S→A,zbP el sz v new.length new.flatten s k=k F U)∧Gz el sz b U F (l++new)∧s.nx.toNat≤U.nx.toNat ∧
   (∀ c,c.toNat<s.nx.toNat→qi v≠some c→Tr.get B.none c U.h=Tr.get B.none c s.h)∧(qi F=qi v∨∀ c,qi F=some c→s.nx.toNat≤c.toNat):=by
 by_cases h0:new=[]
 ·subst h0
  refine ⟨v,s,fun k=>?_,by simpa using h,kad _,fun _ _ _=>rfl,.inl rfl⟩
  rcases h with ⟨rfl,rfl⟩ | ⟨a,W,rfl,_⟩<;>rfl
 ·have i:0<new.length:=Nat.pos_of_ne_zero (fun h=>h0 (kap.1 h))
  have Z:Nat.beq new.length 0=false:=by
   cases e:Nat.beq new.length 0 with
   | true=>have:=kac e;omega
   | false=>rfl
  have z:=wY zcR
  rcases h with ⟨rfl,rfl⟩ | ⟨a,W,rfl,I,J,Q,O,d⟩
  ·refine ⟨.so s.nx (new.length*sz) 0 new.length 0,zY s (.row new.flatten (new.length*sz) el true 0 0 0),fun k=>?_,.inr ⟨s.nx,0,rfl,hb,?_,⟨i,Nat.zero_le _⟩,by rw [qQ];rfl,zcR⟩,(yc _ _).nx,fun c X _=>(yc _ _).get c X,.inr fun c X=>by cases X;exact kad _⟩
   ·show (@Bool.rec (fun _=>A) _ _ (Nat.beq new.length 0):A)=_
    rw [Z]
    show wj s el _ _ k=_
    rw [zmY _ _ _ _ (by have:([]:List (List V)).length=0:=rfl;omega),z]
   ·show s.nx.toNat<s.nx.succ.toNat
    rw [K.toNat_succ];omega
  ·have C:∀ k:V→S→A,zbP el sz (.so a (l.length*sz) 0 l.length 0) new.length new.flatten s k=k (.so a (l.length*sz+new.length*sz) 0 (l.length+new.length) 0) (yI s a (.row (l.flatten++new.flatten) (l.length*sz+new.length*sz) el true W 0 0)):=by
    intro k
    have hmul:0<new.length*sz:=Nat.mul_pos i hsz
    show (@Bool.rec (fun _=>A) _ _ (Nat.beq new.length 0):A)=_
    rw [Z]
    show fN (Nat.add l.length new.length) _=_
    rw [zE]
    show qk s a _=_
    rw [qb,O]
    show fN (Nat.add 0 (Nat.mul l.length sz)) _=_
    rw [zE]
    show (@Bool.rec (fun _=>A) _ _ (zB (Nat.beq el el) true):A)=_
    rw [show Nat.beq el el=true from kaF el]
    show (@Bool.rec (fun _=>A) _ _ (zB (Nat.beq (l.length*sz) (l.length*sz)) (Nat.ble (Nat.add (Nat.add 0 (Nat.mul l.length sz)) (Nat.mul new.length sz)) (l.length*sz))):A)=_
    have p:Nat.add 0 (Nat.mul l.length sz)=l.length*sz:=by show 0+l.length*sz=_;omega
    rw [p,show Nat.beq (l.length*sz) (l.length*sz)=true from kaF _,show Nat.ble (Nat.add (l.length*sz) (Nat.mul new.length sz)) (l.length*sz)=false by
     cases e:Nat.ble (Nat.add (l.length*sz) (Nat.mul new.length sz)) (l.length*sz) with
     | true=>have:=kaJ e;have D:Nat.add (l.length*sz) (Nat.mul new.length sz)=l.length*sz+new.length*sz:=rfl;omega
     | false=>rfl]
    show (@Bool.rec (fun _=>A) _ _ (Nat.ble (Nat.add l.length new.length) 68719476736):A)=_
    rw [show Nat.ble (Nat.add l.length new.length) 68719476736=true from kah (by show l.length+new.length≤_;omega)]
    show zfX l.flatten new.flatten _=_
    rw [wr,zE,ym];rfl
   refine ⟨_,_,C,.inr ⟨a,W,by rw [kae,Nat.add_mul],I,J,⟨by rw [kae];omega,by rw [kae,Nat.add_mul];omega⟩,?_,fun x M=>?_⟩,kad _,fun c X Z=>?_,.inl rfl⟩
   ·rw [z9,if_pos rfl,List.flatten_append,kae,Nat.add_mul]
   ·rcases kaq.1 M with h | h
    ·exact d x h
    ·exact zcR x h
   ·rw [z9,if_neg (fun e=>Z (by rw [e];rfl))]
variable {x:List V}
theorem zBt {s:S} (el sz:Nat) (M:∀ y∈x,y≠.bad) (f:x.length=sz) (c:Nat→List V→A):qA sz (.sl s.nx 0 0 1 1) (zY s (.row x sz el false 0 0 0)) c=c 1 x:=by
 show zM _ s.nx 0 0 (Nat.mul 1 sz) _=_
 unfold zM
 rw [qb,qQ]
 have B:Nat.mul 1 sz=sz:=Nat.one_mul sz
 show (@Bool.rec (fun _=>A) _ _ (jV sz false 0 0 (Nat.add 0 (Nat.mul 1 sz))):A)=_
 rw [B,show jV sz false 0 0 (Nat.add 0 sz)=true from ql.2 (.inr ⟨rfl,by show 0+sz≤sz;omega⟩)]
 show zem 0 x _=_
 rw [jY]
 show zil sz _ _=_
 have e:(x.drop 0).take sz=x:=by rw [List.drop_zero,List.take_of_length_le (by omega)]
 rw [zez _ _ _ (by rw [e];exact M),e]
theorem Gz.app1 {b s:S} (h:Gz el sz b s v l) (hb:b.nx.toNat≤s.nx.toNat) (hsz:0<sz) (M:∀ y∈x,y≠.bad) (f:x.length=sz) (u:l.length+1≤68719476736) :
  ∃ F U,(∀ k:V→S→A,zN el sz v (.sl s.nx 0 0 1 1) (zY s (.row x sz el false 0 0 0)) k=k F U)∧Gz el sz b U F (l++[x])∧s.nx.toNat≤U.nx.toNat ∧
   (∀ c,c.toNat<s.nx.toNat→qi v≠some c→Tr.get B.none c U.h=Tr.get B.none c s.h)∧(qi F=qi v∨∀ c,qi F=some c→s.nx.toNat≤c.toNat):=by
 have w:=yc s (.row x sz el false 0 0 0)
 obtain ⟨F,U,I,J,Q,K,d⟩:=(h.ext w).append (by have:=w.nx;omega) hsz [x] (fun y Y=>by simp at Y;subst Y;exact f) (by simpa using u)
 refine ⟨F,U,fun k=>?_,J,kaB w.nx Q,fun c X o=>?_,?_⟩
 ·show qA sz (.sl s.nx 0 0 1 1) _ _=_
  rw [zBt _ _ M f]
  have:=I k
  simpa using this
 ·rw [K c (kan X w.nx) o,w.get c X]
 ·rcases d with d | d
  ·exact .inl d
  ·exact .inr fun c X=>by have:=d c X;have:=w.nx;omega
theorem za2 {b s:S} (hb:Ext b s) (o:s.nx.toNat≤U.nx.toNat) {D:K→Prop} (F:∀ c,c.toNat<s.nx.toNat→¬D c→Tr.get B.none c U.h=Tr.get B.none c s.h) (O:∀ c,D c→b.nx.toNat≤c.toNat):Ext b U :=
 ⟨kaB hb.nx o,fun c X=>by
  rw [F c (kan X hb.nx) (fun h=>by have:=O c h;omega)]
  exact hb.get c X⟩
theorem zzu (el w:Nat) (zc:List V) (n:Nat) (o:n≤281474976710656) (B:w*n≤281474976710656) (s:S) (k:V→S→A) :
  yH el w zc (iv .i64 (n:Int)) (iv .i64 (n:Int)) s k=zav zc n (fun cs=>k (.sl s.nx 0 0 n n) (zY s (.row cs cs.length el false 0 0 0))):=by
 show (@Bool.rec (fun _=>A) eA (zav zc n (fun cs=>newRow s el cs false fun a _ s=>k (.sl a 0 0 n n) s)) (zB (Nat.ble n n) (zB (Nat.ble n 281474976710656) (Nat.ble (Nat.mul w n) 281474976710656))))=_
 rw [show Nat.ble n n=true from kah (kad _),show Nat.ble n 281474976710656=true from kah o,show Nat.ble (Nat.mul w n) 281474976710656=true from kah B]
 show zav zc n (fun cs=>newRow s el cs false fun a _ s=>k (.sl a 0 0 n n) s)=_
 congr 1
 funext cs
 rw [zU]
noncomputable def zn (id:Nat) (a:A):A:=zd7 (fun N s=>.nrm N s) (fun i N s=>jO (Nat.beq i id) (.nrm N s) (.ext i N s)) (fun N s=>.ret N s) a
@[simp] theorem zB4 (i:Nat) (tm:T) (s:S):zn i (.nrm tm s)=.nrm tm s:=rfl
@[simp] theorem zCA (i:Nat) (tm:T) (s:S):zn i (.ret tm s)=.ret tm s:=rfl
@[simp] theorem zDE (i : Nat) (tm : T) (s : S) : zn i (.ext i tm s) = .nrm tm s := by
  show jO (Nat.beq i i) (.nrm tm s) (.ext i tm s) = _
  rw [kaF]; rfl
section
variable {α:Type} [DecidableEq α]
variable {q:EK} {kf:α→V}
end
theorem znj:∀ a b:List Nat,eqS a b=decide (a=b)
 | [],[]=>rfl
 | [],_::_=>rfl
 | _::_,[]=>rfl
 | x::a,y::b=>by
  show (@Bool.rec (fun _=>Bool) false (eqS a b) (Nat.beq x y):Bool)=_
  by_cases h:x=y
  ·rw [show Nat.beq x y=true by rw [Nat.beq_eq];exact h]
   show eqS a b=_
   rw [znj a b]
   simp [h]
  ·rw [show Nat.beq x y=false by rw [←Bool.not_eq_true,Nat.beq_eq];exact h]
   show false=_
   simp [h]
variable {X:Type}
def ctI (pre:X→List V→S→Prop) (post:X→S→V→S→Prop):Ct:=⟨fun a s=>∃ x,pre x a s,fun a s v U=>∀ x,pre x a s→post x s v U⟩
def ltI (pre:X→T→S→Prop) (post:X→A→Prop):Lt:=⟨fun N s=>∃ x,pre x N s,fun N s a=>∀ x,pre x N s→post x a⟩
variable {f:Nat} {pre:X→List V→S→Prop} {post:X→S→V→S→Prop}
theorem zr {pc:PC} (Z:PcOk P pc) {K:Nat→Ct} {L:Nat→Lt} (N:K f=ctI pre post)
  (h:∀ x a s,pre x a s→∃ v U,(fnC pc f).run (Rk P K L) a s=.ret v U∧post x s v U):zo P K f:=by
 intro a s M
 rw [N] at M ⊢
 obtain ⟨x,M⟩:=M
 obtain ⟨v,U,e,I⟩:=h x a s M
 refine ⟨v,U,ziN Z (zxX pc K L) e,fun y Y=>?_⟩
 obtain ⟨C,W,D,J⟩:=h y a s Y
 rw [e] at D
 cases D
 exact J
theorem zk {K:Nat→Ct} {r:R} (h:zD9 K r f) (N:K f=ctI pre post):∀ x a s,pre x a s→∃ v U,r.call f a s=.ret v U∧post x s v U:=by
 intro x a s M
 obtain ⟨v,U,I,J⟩:=h a s (by rw [N];exact ⟨x,M⟩)
 rw [N] at J
 exact ⟨v,U,I,J x M⟩
theorem zL {pc:PC} (Z:PcOk P pc) {K:Nat→Ct} {L:Nat→Lt} {fi:FI} {c:Code} {n:Nat} (o:zH c=n) {pre:X→T→S→Prop} {post:X→A→Prop} (e:L n=ltI pre post) (B:T→S→Nat)
  (G:∀ x a,post x a→¬a.isBad) (body:∀ x tm s,pre x tm s→(∀ y F U,B F U<B tm s→pre y F U→post y ((Rk P K L).code fi c F U))→post x ((zj pc fi c).run (Rk P K L) tm s)) :
  ∀ x tm s,pre x tm s→post x ((zj pc fi c).run (Rk P K L) tm s):=by
 intro x tm s M
 have:=zCR (P:=P) Z (K:=K) (L:=L) (fi:=fi) (c:=c) o B (fun tm s a I J=>by
  rw [e] at I J
  obtain ⟨x,M⟩:=I
  exact G x a (J x M)) (fun tm s I E=>by
  rw [e] at I E ⊢
  intro x M
  exact body x tm s M fun y F U Q Y=>E F U Q ⟨y,Y⟩ y Y) tm s (by rw [e];exact ⟨x,M⟩)
 rw [e] at this
 exact this x M
def zlp (v:V) (o:Nat):V:=match v with | .so a w _ _ _=>.ptr a w o | _=>.bad
variable {l:List (List V)} {el i sz:Nat} {v:V}
theorem Gz.pos {b s:S} (h:Gz el sz b s v l) (hi:i<l.length):∃ a W,v=.so a (l.length*sz) 0 l.length 0∧a.toNat<s.nx.toNat∧b.nx.toNat≤a.toNat∧W≤l.length*sz∧Tr.get B.none a s.h=.row l.flatten (l.length*sz) el true W 0 0∧∀ x∈l,x.length=sz:=by
 rcases h with ⟨rfl,rfl⟩ | ⟨a,W,rfl,I,J,Q,K,d⟩
 ·cases hi
 ·exact ⟨a,W,rfl,J,I,Q.2,K,d⟩
theorem Gz.pt {b s:S} (h:Gz el sz b s v l) {x:List V} (hi:l[i]?=some x):Pt s (zlp v (i*sz)) sz (fun j=>x.getD j .bad)∧x.length=sz:=by
 have O:i<l.length:=(kaE.1 hi).1
 obtain ⟨a,W,rfl,I,h0,J,Q,K⟩:=h.pos O
 have M:x∈l:=kav hi
 have g:(i+1)*sz≤l.length*sz:=kag _ O
 rw [Nat.add_mul] at g
 refine ⟨⟨a,_,i*sz,_,_,el,true,W,0,0,rfl,Q,wY K,ql.2 (.inl ⟨rfl,J,kad _,by omega⟩),fun j G=>?_⟩,K x M⟩
 rw [zeo K O G,kaa (l:=l),hi];rfl
theorem Gz.load1 {b s:S} (h:Gz el 1 b s v l) {x:V} (hi:l[i]?=some [x]) (M:x≠.bad) (k:V→S→A):zd false 1 (zlp v i) s k=k x s:=by
 have:=(h.pt hi).1
 rw [kaz] at this
 exact this.load1 (by omega) M k
theorem zoz {v y:V}:∀ (l:List (List V)) (i:Nat),(∀ x∈l,x.length=1)→i<l.length→(l.set i [y]).flatten=upd [y] i l.flatten
 | [],_,_,h=>by cases h
 | x::l,0,M,_=>by
  have I:=M x (by simp)
  obtain ⟨a,rfl⟩:=List.length_eq_one_iff.1 I
  rfl
 | x::l,i+1,M,h=>by
  have I:=M x (by simp)
  obtain ⟨a,rfl⟩:=List.length_eq_one_iff.1 I
  have:=zoz (v:=v) (y:=y) l i (fun x X=>M x (by simp [X])) (by simpa using h)
  show a::(l.set i [y]).flatten=upd [y] (i+1) (a::l.flatten)
  rw [this];rfl
theorem Gz.store1 {b s:S} (h:Gz el 1 b s v l) (hi:i<l.length) {y:V} (Y:∀ c:List V→A,zg 1 y c=c [y]) :
  ∃ U,(∀ k:V→S→A,zA 1 (zlp v i) y s k=k undef U)∧Gz el 1 b U v (l.set i [y])∧U.nx=s.nx∧∀ c,qi v≠some c→Tr.get B.none c U.h=Tr.get B.none c s.h:=by
 obtain ⟨a,W,rfl,I,h0,J,Q,K⟩:=h.pos hi
 rw [kaz] at J Q
 refine ⟨yI s a (.row (upd [y] i l.flatten) l.length el true l.length 0 0),fun k=>?_,?_,rfl,fun c X=>?_⟩
 ·show zg 1 y (fun xs=>qc s a (l.length*1) i 1 xs (fun s=>k undef s))=_
  rw [Y]
  unfold qc
  rw [qb,Q]
  show (@Bool.rec (fun _=>A) _ _ (zgI l.length true (l.length*1) i (Nat.add i 1) 0 0):A)=_
  rw [show zgI l.length true (l.length*1) i (Nat.add i 1) 0 0=true by
   show (@Bool.rec (fun _=>Bool) _ _ _:Bool)=_
   rw [kaz,show Nat.ble (Nat.add i 1) l.length=true from kah hi,show Nat.ble 0 i=true from kah (Nat.zero_le _),show Nat.beq l.length l.length=true from kaF _]]
  show zJ [y] i l.flatten _=_
  rw [zeU,ym];rfl
 ·refine .inr ⟨a,l.length,by rw [List.length_set],h0,I,⟨by rw [List.length_set];omega,by rw [List.length_set];omega⟩,?_,fun x M=>?_⟩
  ·rw [z9,if_pos rfl,List.length_set,kaz,zoz (v:=y) l i K hi]
  ·rcases List.mem_or_eq_of_mem_set M with M | rfl
   ·exact K x M
   ·rfl
 ·rw [z9,if_neg (fun e=>X (by rw [e];rfl))]
theorem Gz.cell1 {b s:S} (h:Gz el sz b s v l):∀ c:List V→A,zg 1 v c=c [v]:=by
 intro c
 rcases h with ⟨rfl,rfl⟩ | ⟨a,W,rfl,-⟩<;>rfl
theorem Gz.nbad {b s:S} (h:Gz el sz b s v l):v≠.bad:=by
 rcases h with ⟨rfl,rfl⟩ | ⟨a,W,rfl,-⟩<;>(intro e;cases e)
theorem Gz.own {b s:S} (h:Gz el sz b s v l) {c:K} (X:qi v=some c):∃ l n W f1 f2,Tr.get B.none c s.h=.row l n el true W f1 f2:=by
 rcases h with ⟨rfl,-⟩ | ⟨a,W,rfl,-,-,-,h,-⟩
 ·cases X
 ·cases X;exact ⟨_,_,_,_,_,h⟩
theorem Gz.base {b b' s:S} (h:Gz el sz b s v l) (hb:b'.nx.toNat≤b.nx.toNat):Gz el sz b' s v l:=by
 rcases h with h | ⟨a,W,h0,I,J,Q⟩
 ·exact .inl h
 ·exact .inr ⟨a,W,h0,kaB hb I,J,Q⟩
theorem Gz.ne_row {b s:S} (h:Gz el sz b s v l) {c:K} {Z:List V} {n e W f1 f2:Nat} (X:Tr.get B.none c s.h=.row Z n e false W f1 f2):qi v≠some c:=by
 intro g
 obtain ⟨_,_,_,_,_,g⟩:=Gz.own h g
 rw [X] at g
 injection g with _ _ _ g
 cases g
theorem aI {a b:Prop} (h:a) (k:b):a∧b:=⟨h,k⟩
def dn (a:Nat):Nat→List Nat
 | 0=>[]
 | n+1=>a::dn (a - 1) n
end Go.Ev
