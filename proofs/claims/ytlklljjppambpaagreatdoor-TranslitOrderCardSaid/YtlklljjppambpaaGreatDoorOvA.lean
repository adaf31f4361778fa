/- The evaluator, run on unknown arguments: laws of its steps, contracts of calls and of loops, any world as its state. No statement of the seat stands here. No condition. By an AI agent. -/
import Derived.Test.YtlklljjppambpaaGreatDoorEvG
import Derived.KernelRfl
import Derived.Deep.SlicePairs
import Derived.ChangeSlices
import Derived.Carry
namespace Go.Ev
def zI:List Nat→Code→Code
 | [],c=>c
 | 0::p,.seq a _=>zI p a
 | _::p,.seq _ b=>zI p b
 | 0::p,.cond _ a _=>zI p a
 | _::p,.cond _ _ b=>zI p b
 | _::p,.block _ c=>zI p c
 | _::p,.loop c=>zI p c
 | _::p,.scope c=>zI p c
 | _,c=>c
def yU:Code→List Oper
 | .region _ l _=>l.toList
 | _=>[]
noncomputable def zw7 (pc:PC) (fi:FI) (all:List Oper) (o:Oper) (ds:List Nat) (g:LoC):LoC:=jh fi ds all o (zp9 fi o (op pc fi ds o) g) (zka fi o g)
noncomputable def zap (pc:PC) (fi:FI) (all:List Oper):List Oper→List Nat→LoC→LoC
 | [],_,g=>g
 | o::os,ds,g=>zw7 pc fi all o ds (zap pc fi all os (push o ds) g)
noncomputable def yX (pc:PC) (fi:FI) (all:List Oper):List (Bool × Nat)→List Nat→LoC→LoC
 | [],_,g=>g
 | (again,i)::l,ds,g=>match all[i]? with
  | none=>⟨fun _ _ _ _=>.bad 0⟩
  | some o=>match again with
   | false=>zw7 pc fi all o ds (yX pc fi all l (push o ds) g)
   | true=>jh fi ds all o (zdi fi ds o (op pc fi ds o) (yX pc fi all l ds g)) (yX pc fi all l ds g)
def LoC.eta (q:LoC):LoC:=⟨fun r tm le s=>q.run r tm le s⟩
def yk:LoC:=⟨fun _ tm _ s=>.nrm tm s⟩
@[simp] theorem zOx (r:R) (tm:T) (le:List V) (s:S):yk.run r tm le s=.nrm tm s:=rfl
def zq6:List Oper→List Nat→List Nat
 | [],ds=>ds
 | o::os,ds=>zq6 os (push o ds)
def zdc (all:List Oper):List (Bool × Nat)→List Nat→List Nat
 | [],ds=>ds
 | (again,i)::l,ds=>match all[i]? with
  | none=>zdc all l ds
  | some o=>match again with
   | false=>zdc all l (push o ds)
   | true=>zdc all l ds
def zqt:Code→Bool
 | .region _ l false=>(match l.toList with | o::_=>(match zbR o with | some _=>false | none=>true) | []=>true)
 | _=>false
def zy3 (mixed:Bool):Code→Bool
 | .region _ l true=>mixed && zjb l.toList (yB l.toList []) (l.toList.map qa) (qr l.toList)
 | _=>false
theorem zLM (pc:PC) (fi:FI) (all:List Oper):∀ (l:List Oper) (ds:List Nat),ops pc fi all l ds=zap pc fi all l ds yk
 | [],_=>rfl
 | o::os,ds=>by
  show (match ops pc fi all os (push o ds) with | ⟨g⟩=>jh fi ds all o (zp9 fi o (op pc fi ds o) ⟨g⟩) (zka fi o ⟨g⟩))=zw7 pc fi all o ds (zap pc fi all os (push o ds) yk)
  rw [←zLM pc fi all os (push o ds)];rfl
theorem zzd (pc:PC) (fi:FI) (all:List Oper):∀ (l:List (Bool × Nat)) (ds:List Nat),jH pc fi all l ds=yX pc fi all l ds yk
 | [],_=>rfl
 | (again,i)::l,ds=>by
  have h1:=zzd pc fi all l ds
  unfold jH yX
  cases e:all[i]? with
  | none=>rfl
  | some o =>
   cases again with
   | false =>
    have h2:=zzd pc fi all l (push o ds)
    show (match jH pc fi all l (push o ds) with | ⟨g⟩=>jh fi ds all o (zp9 fi o (op pc fi ds o) ⟨g⟩) (zka fi o ⟨g⟩))=zw7 pc fi all o ds (yX pc fi all l (push o ds) yk)
    rw [←h2];rfl
   | true =>
    show (match jH pc fi all l ds with | ⟨g⟩=>jh fi ds all o (zdi fi ds o (op pc fi ds o) ⟨g⟩) ⟨g⟩)=jh fi ds all o (zdi fi ds o (op pc fi ds o) (yX pc fi all l ds yk)) (yX pc fi all l ds yk)
    rw [←h1]
theorem zxd (pc:PC) (fi:FI) (all:List Oper) (g:LoC) (b:List Oper):∀ (a:List Oper) (ds:List Nat),zap pc fi all (a++b) ds g=zap pc fi all a ds (zap pc fi all b (zq6 a ds) g)
 | [],_=>rfl
 | o::os,ds=>by
  show zw7 pc fi all o ds (zap pc fi all (os++b) (push o ds) g)=zw7 pc fi all o ds (zap pc fi all os (push o ds) (zap pc fi all b (zq6 os (push o ds)) g))
  rw [zxd pc fi all g b os (push o ds)]
theorem zgr (pc:PC) (fi:FI) (all:List Oper) (g:LoC) (b:List (Bool × Nat)):∀ (a:List (Bool × Nat)) (ds:List Nat),yX pc fi all (a++b) ds g=yX pc fi all a ds (yX pc fi all b (zdc all a ds) g)
 | [],_=>rfl
 | (again,i)::l,ds=>by
  have h1:=zgr pc fi all g b l ds
  show yX pc fi all ((again,i)::(l++b)) ds g=_
  unfold yX zdc
  cases e:all[i]? with
  | none=>rfl
  | some o =>
   have h2:=zgr pc fi all g b l (push o ds)
   cases again with
   | false=>simp only [h2]
   | true=>simp only [h1]
theorem zIz (pc:PC) (fi:FI) (all L:List Oper) (ds:List Nat) (b:Nat) (h:(L.drop b).isEmpty=true):zap pc fi all (L.drop b) ds yk=yk:=by
 rw [List.isEmpty_iff.1 h];rfl
theorem zFh (pc:PC) (fi:FI) (all L:List Oper) (ds ds':List Nat) (b n e:Nat) {q:LoC} (he:b+n=e) (hd:zq6 ((L.drop b).take n) ds=ds') (h:zap pc fi all (L.drop e) ds' yk=q) :
  zap pc fi all (L.drop b) ds yk=zap pc fi all ((L.drop b).take n) ds q.eta:=by
 show _=zap pc fi all _ ds q
 subst he hd h
 rw [←zxd,←List.drop_drop,List.take_append_drop]
theorem zFZ (pc:PC) (fi:FI) (all:List Oper) (L:List (Bool × Nat)) (ds:List Nat) (b:Nat) (h:(L.drop b).isEmpty=true):yX pc fi all (L.drop b) ds yk=yk:=by
 rw [List.isEmpty_iff.1 h];rfl
theorem zD1 (pc:PC) (fi:FI) (all:List Oper) (L:List (Bool × Nat)) (ds ds':List Nat) (b n e:Nat) {q:LoC} (he:b+n=e) (hd:zdc all ((L.drop b).take n) ds=ds') (h:yX pc fi all (L.drop e) ds' yk=q) :
  yX pc fi all (L.drop b) ds yk=yX pc fi all ((L.drop b).take n) ds q:=by
 subst he hd h
 rw [←zgr,←List.drop_drop,List.take_append_drop]
theorem ztd (pc:PC) (fi:FI) (l:List Oper) (h:(match l with | o::_=>(match zbR o with | some _=>false | none=>true) | []=>true)=true):jp pc fi false l=ops pc fi l l []:=by
 cases l with
 | nil=>rfl
 | cons o os =>
  show (match zbR o with
   | some x=>zNg fi x o (ops pc fi (o::os) os (push o []))
   | none=>ops pc fi (o::os) (o::os) [])=_
  cases e:zbR o with
  | none=>rfl
  | some x=>simp only [e] at h;cases h
theorem zy0 (pc:PC) (fi:FI) (l:List Oper) (h:(pc.mixed && zjb l (yB l []) (l.map qa) (qr l))=true):jp pc fi true l=⟨fun r tm le s=>(jH pc fi l (qr l) []).run r.det tm le s⟩:=by
 show (match pc.mixed && zjb l (yB l []) (l.map qa) (qr l) with
  | true=>(match jH pc fi l (qr l) [] with | ⟨f⟩=>(⟨fun r tm le s=>f r.det tm le s⟩:LoC))
  | false=>⟨fun _ _ _ _=>.bad 0⟩)=_
 rw [h]
theorem zF0 (pc:PC) (fi:FI) (c:Code) {q:LoC} (hc:zqt c=true) (h:zap pc fi (yU c) ((yU c).drop 0) [] yk=q) (r:R) (tm:T) (s:S):(zl pc fi c).run r tm s=q.run r tm [] s:=by
 subst h
 match c,hc with
 | .region _ l false,hc =>
  show (match jp pc fi false l.toList with | ⟨f⟩=>(⟨fun r tm s=>f r tm [] s⟩:CoC)).run r tm s=_
  rw [ztd pc fi l.toList hc,zLM];rfl
theorem zCZ (pc:PC) (fi:FI) (c:Code) {q:LoC} (hc:zy3 pc.mixed c=true) (h:yX pc fi (yU c) ((qr (yU c)).drop 0) [] yk=q) (r:R) (tm:T) (s:S):(zl pc fi c).run r tm s=q.run r.det tm [] s:=by
 subst h
 match c,hc with
 | .region _ l true,hc =>
  show (match jp pc fi true l.toList with | ⟨f⟩=>(⟨fun r tm s=>f r tm [] s⟩:CoC)).run r tm s=_
  rw [zy0 pc fi l.toList hc,zzd];rfl
noncomputable def qOf (pc:PC) (fi:FI) (u:Code) (b n:Nat) (ds:List Nat) (g:LoC):LoC:=zap pc fi (yU u) (((yU u).drop b).take n) ds g.eta
noncomputable def zaD (pc:PC) (fi:FI) (u:Code) (b n:Nat) (ds:List Nat) (g:LoC):LoC:=yX pc fi (yU u) (((qr (yU u)).drop b).take n) ds g.eta
def Ch (pc:PC) (fi:FI) (u:Code) (b:Nat) (ds:List Nat) (q:LoC):Prop:=zap pc fi (yU u) ((yU u).drop b) ds yk=q
def DCh (pc:PC) (fi:FI) (u:Code) (b:Nat) (ds:List Nat) (q:LoC):Prop:=yX pc fi (yU u) ((qr (yU u)).drop b) ds yk=q
variable {u:Code} {fi:FI} {ds:List Nat} {b:Nat}
theorem chE {pc:PC} (h:((yU u).drop b).isEmpty=true):Ch pc fi u b ds yk:=zIz pc fi _ _ ds b h
theorem zOw {pc:PC} (h:((qr (yU u)).drop b).isEmpty=true):DCh pc fi u b ds yk:=zFZ pc fi _ _ ds b h
variable {ds':List Nat} {e n:Nat}
theorem chS {pc:PC} {q:LoC} (he:b+n=e) (hd:zq6 (((yU u).drop b).take n) ds=ds') (h:Ch pc fi u e ds' q):Ch pc fi u b ds (qOf pc fi u b n ds q):=zFh pc fi _ _ ds ds' b n e he hd h
theorem zdQ {pc:PC} {q:LoC} (he:b+n=e) (hd:zdc (yU u) (((qr (yU u)).drop b).take n) ds=ds') (h:DCh pc fi u e ds' q):DCh pc fi u b ds (zaD pc fi u b n ds q):=zD1 pc fi _ _ ds ds' b n e he hd h
theorem ye {pc:PC} {q:LoC} (hc:zqt u=true) (h:Ch pc fi u 0 [] q) (r:R) (s:S) (tm:T):(zl pc fi u).run r tm s=q.run r tm [] s:=zF0 pc fi u hc h r tm s
theorem zcb {pc:PC} {q:LoC} (hc:zy3 pc.mixed u=true) (h:DCh pc fi u 0 [] q) (r:R) (s:S) (tm:T):(zl pc fi u).run r tm s=q.run r.det tm [] s:=zCZ pc fi u hc h r tm s
theorem chL {pc:PC} (hc:((yU u).drop (b+n)).isEmpty=true:=by kernel_rfl):Ch pc fi u b ds (qOf pc fi u b n ds yk):=chS rfl rfl (chE hc)
theorem zKO {pc:PC} (hc:((qr (yU u)).drop (b+n)).isEmpty=true:=by kernel_rfl):DCh pc fi u b ds (zaD pc fi u b n ds yk):=zdQ rfl rfl (zOw hc)
theorem ze {pc:PC} (n:Nat) {f:R→T→S→A} (hc:(zqt u && ((yU u).drop n).isEmpty)=true:=by kernel_rfl) (h:∀ r s tm,(qOf pc fi u 0 n [] yk).run r tm [] s=f r tm s:=by intros;kernel_rfl):∀ r s tm,(zl pc fi u).run r tm s=f r tm s:=fun r s tm=>by
 rw [kas] at hc
 rw [←h]
 exact ye hc.1 (chS (kaF n) rfl (chE hc.2)) r s tm
theorem zaq {pc:PC} (n:Nat) {f:R→T→S→A} (hc:(zy3 pc.mixed u && ((qr (yU u)).drop n).isEmpty)=true:=by kernel_rfl) (h:∀ r s tm,(zaD pc fi u 0 n [] yk).run r.det tm [] s=f r tm s:=by intros;kernel_rfl):∀ r s tm,(zl pc fi u).run r tm s=f r tm s:=fun r s tm=>by
 rw [kas] at hc
 rw [←h]
 exact zcb hc.1 (zdQ (kaF n) rfl (zOw hc.2)) r s tm
def z3:Code→Nat
 | .seq a b=>z3 a+z3 b+1
 | .cond _ a b=>z3 a+z3 b+1
 | .block _ a=>z3 a+1
 | .loop a=>z3 a+1
 | .scope a=>z3 a+1
 | .rangeFunc _ _ a b=>z3 a+z3 b+1
 | .region _ l _=>l.size+1
 | _=>1
def qe (P:Program) (f:Nat):Code:=((P.funcs[f]?).bind (·.body)).getD .skip
def qz (P:Program) (f:Nat):List ResultVar:=((P.funcs[f]?).map (·.results.toList)).getD []
def N.nth {α:Type} (n:N α) (i:Nat):α:=match i with
 | 0=>n.a0 | 1=>n.a1 | 2=>n.a2 | 3=>n.a3 | 4=>n.a4 | 5=>n.a5 | 6=>n.a6 | 7=>n.a7 | 8=>n.a8 | 9=>n.a9 | 10=>n.a10 | 11=>n.a11 | 12=>n.a12 | 13=>n.a13 | 14=>n.a14 | _=>n.a15
def N.upd {α:Type} (n:N α) (i:Nat) (x:α):N α:=match i with
 | 0=>⟨x,n.a1,n.a2,n.a3,n.a4,n.a5,n.a6,n.a7,n.a8,n.a9,n.a10,n.a11,n.a12,n.a13,n.a14,n.a15⟩
 | 1=>⟨n.a0,x,n.a2,n.a3,n.a4,n.a5,n.a6,n.a7,n.a8,n.a9,n.a10,n.a11,n.a12,n.a13,n.a14,n.a15⟩
 | 2=>⟨n.a0,n.a1,x,n.a3,n.a4,n.a5,n.a6,n.a7,n.a8,n.a9,n.a10,n.a11,n.a12,n.a13,n.a14,n.a15⟩
 | 3=>⟨n.a0,n.a1,n.a2,x,n.a4,n.a5,n.a6,n.a7,n.a8,n.a9,n.a10,n.a11,n.a12,n.a13,n.a14,n.a15⟩
 | 4=>⟨n.a0,n.a1,n.a2,n.a3,x,n.a5,n.a6,n.a7,n.a8,n.a9,n.a10,n.a11,n.a12,n.a13,n.a14,n.a15⟩
 | 5=>⟨n.a0,n.a1,n.a2,n.a3,n.a4,x,n.a6,n.a7,n.a8,n.a9,n.a10,n.a11,n.a12,n.a13,n.a14,n.a15⟩
 | 6=>⟨n.a0,n.a1,n.a2,n.a3,n.a4,n.a5,x,n.a7,n.a8,n.a9,n.a10,n.a11,n.a12,n.a13,n.a14,n.a15⟩
 | 7=>⟨n.a0,n.a1,n.a2,n.a3,n.a4,n.a5,n.a6,x,n.a8,n.a9,n.a10,n.a11,n.a12,n.a13,n.a14,n.a15⟩
 | 8=>⟨n.a0,n.a1,n.a2,n.a3,n.a4,n.a5,n.a6,n.a7,x,n.a9,n.a10,n.a11,n.a12,n.a13,n.a14,n.a15⟩
 | 9=>⟨n.a0,n.a1,n.a2,n.a3,n.a4,n.a5,n.a6,n.a7,n.a8,x,n.a10,n.a11,n.a12,n.a13,n.a14,n.a15⟩
 | 10=>⟨n.a0,n.a1,n.a2,n.a3,n.a4,n.a5,n.a6,n.a7,n.a8,n.a9,x,n.a11,n.a12,n.a13,n.a14,n.a15⟩
 | 11=>⟨n.a0,n.a1,n.a2,n.a3,n.a4,n.a5,n.a6,n.a7,n.a8,n.a9,n.a10,x,n.a12,n.a13,n.a14,n.a15⟩
 | 12=>⟨n.a0,n.a1,n.a2,n.a3,n.a4,n.a5,n.a6,n.a7,n.a8,n.a9,n.a10,n.a11,x,n.a13,n.a14,n.a15⟩
 | 13=>⟨n.a0,n.a1,n.a2,n.a3,n.a4,n.a5,n.a6,n.a7,n.a8,n.a9,n.a10,n.a11,n.a12,x,n.a14,n.a15⟩
 | 14=>⟨n.a0,n.a1,n.a2,n.a3,n.a4,n.a5,n.a6,n.a7,n.a8,n.a9,n.a10,n.a11,n.a12,n.a13,x,n.a15⟩
 | _=>⟨n.a0,n.a1,n.a2,n.a3,n.a4,n.a5,n.a6,n.a7,n.a8,n.a9,n.a10,n.a11,n.a12,n.a13,n.a14,x⟩
def gp (i:Nat) (t:T):V:=(t.nth (i / 16)).nth (i % 16)
def sp (i:Nat) (v:V) (t:T):T:=t.upd (i / 16) ((t.nth (i / 16)).upd (i % 16) v)
noncomputable def zu (v:V) (a b:A):A:=@V.rec mA mU eA eC eC (fun b'=>@Bool.rec (fun _=>A) b a b') eB eD eF eF eB eC eD eF eD () tE v
noncomputable def zet (b:Bool) (x y:A):A:=@Bool.rec (fun _=>A) y x b
noncomputable def za (f:T→S→A) (a:A):A:=wU f (fun i tm s=>.ext i tm s) (fun tm s=>.ret tm s) a
noncomputable def yV (id:Nat) (a:A):A:=zdK (wU (fun tm s=>.nrm tm s) (fun i tm s=>zet (Nat.beq i id) (.nrm tm s) (.ext i tm s)) (fun tm s=>.ret tm s) a)
noncomputable def yW (v:V) (x:A):A:=@V.rec mA mU x eC eC eB eB eD eF eF eB eC eD eF eD () tE v
section
variable {α:Type}
theorem N.nth_upd (n:N α) (i j:Nat) (x:α) (hi:i<16) (hj:j<16):(n.upd i x).nth j=if j=i then x else n.nth j:=by
 have h1:i=0∨i=1∨i=2∨i=3∨i=4∨i=5∨i=6∨i=7∨i=8∨i=9∨i=10∨i=11∨i=12∨i=13∨i=14∨i=15:=by omega
 have h2:j=0∨j=1∨j=2∨j=3∨j=4∨j=5∨j=6∨j=7∨j=8∨j=9∨j=10∨j=11∨j=12∨j=13∨j=14∨j=15:=by omega
 rcases h1 with rfl | rfl | rfl | rfl | rfl | rfl | rfl | rfl | rfl | rfl | rfl | rfl | rfl | rfl | rfl | rfl <;>
  rcases h2 with rfl | rfl | rfl | rfl | rfl | rfl | rfl | rfl | rfl | rfl | rfl | rfl | rfl | rfl | rfl | rfl<;>rfl
end
@[simp] theorem zPg (i j : Nat) (v : V) (t : T) (hi : i < 256) (hj : j < 256) : gp i (sp j v t) = if i = j then v else gp i t := by
  unfold gp sp
  rw [N.nth_upd _ _ _ _ (by omega) (by omega)]
  by_cases h : i / 16 = j / 16
  · rw [if_pos h, N.nth_upd _ _ _ _ (by omega) (by omega)]
    by_cases h2 : i % 16 = j % 16
    · rw [if_pos h2, if_pos (by omega)]
    · rw [if_neg h2, if_neg (by omega), h]
  · rw [if_neg h, if_neg (by omega)]
theorem zvt {α:Type} (x:α) (d:Nat) (e:N α) (he:e=.mk x x x x x x x x x x x x x x x x):e.nth d=x:=by
 subst he
 unfold N.nth
 split<;>rfl
@[simp] theorem zPb (i : Nat) : gp i T.new = .bad := by
  unfold gp T.new
  rw [zvt (zpN .bad) _ (zKm (zpN .bad)) rfl]
  exact zvt _ _ _ rfl
@[simp] theorem zOB (f:T→S→A) (tm:T) (s:S):za f (.nrm tm s)=f tm s:=rfl
@[simp] theorem zOn (f:T→S→A) (i:Nat) (tm:T) (s:S):za f (.ext i tm s)=.ext i tm s:=rfl
@[simp] theorem zOq (f:T→S→A) (tm:T) (s:S):za f (.ret tm s)=.ret tm s:=rfl
@[simp] theorem zNO (i:Nat) (tm:T) (s:S):yV i (.nrm tm s)=.nrm tm s:=rfl
@[simp] theorem zNR (i:Nat) (tm:T) (s:S):yV i (.ret tm s)=.ret tm s:=rfl
theorem yC (i j:Nat) (tm:T) (s:S):yV i (.ext j tm s)=if j=i then .nrm tm s else .ext j tm s:=by
 show zdK (zet (Nat.beq j i) (.nrm tm s) (.ext j tm s))=_
 by_cases h:j=i
 ·subst h;rw [if_pos rfl];simp [zet];rfl
 ·have:Nat.beq j i=false:=by cases e:Nat.beq j i with | true=>exact absurd (kaa e) h | false=>rfl
  rw [if_neg h,this];rfl
@[simp] theorem zOP (x y:A):zet true x y=x:=rfl
@[simp] theorem zOR (x y:A):zet false x y=y:=rfl
@[simp] theorem zOL (b:Bool) (x y:A):zu (.bool b) x y=if b=true then x else y:=by cases b<;>rfl
@[simp] theorem zOM (b:Bool) (x y:Unit→A):qL (.bool b) x y=if b=true then x () else y ():=by cases b<;>rfl
@[simp] theorem zOm (x:A):yW .bad x=x:=rfl
@[simp] theorem zOf (f:T→S→A) (tm:T) (s:S):z7 f (.nrm tm s)=f tm s:=rfl
@[simp] theorem zOe (f:T→S→A) (tm:T) (s:S):z7 f (.ret tm s)=f tm s:=rfl
@[simp] theorem zOF (v:V) (s:S):qk (.fin v s)=.ret v s:=rfl
@[simp] theorem zO4 (v:V) (s:S):yp [v] s=.fin v s:=rfl
@[simp] theorem zOX (v u:V) (s:S):yp [v,u] s=.fin (.ls 1 [v,u]) s:=rfl
@[simp] theorem zOV (v u x:V) (s:S):yp [v,u,x] s=.fin (.ls 1 [v,u,x]) s:=rfl
@[simp] theorem zOZ (s:S):yp [] s=.fin undef s:=rfl
@[simp] theorem zIw (v:V) (s:S) (k:V→S→A):zD (.ret v s) k=k v s:=rfl
@[simp] theorem zOo (r:R) (f:Nat) (args:List V) (s:S):r.det.call f args s=zIV (r.call f args s):=rfl
@[simp] theorem zOG (v:V) (s:S):zIV (.ret v s)=.ret v s:=rfl
@[simp] theorem zOS (k:IntKind) (n:Nat):V.nat k n=iv k (n:Int):=rfl
theorem zjz (k:IntKind) (n:Nat):V.neg k n=iv k (Int.negSucc n):=rfl
theorem zff (k:IntKind):yl k k=true:=by cases k<;>rfl
section
variable (q:EK) (cst:Bool) (k:IntKind) (c:V→A)
theorem zaN (op:BinOp) (a b:Nat):zk q cst op (.nat k a) (.nat k b) c=zhA op k a b c:=by
 show (@Bool.rec (fun _=>A) _ _ (yl k k):A)=_
 rw [zff]
theorem zbT (op:BinOp) (a b:Nat):zk q cst op (.nat k a) (.neg k b) c=ztE op k false (.nat k a) (.neg k b) c:=by
 show (@Bool.rec (fun _=>A) _ _ (yl k k):A)=_
 rw [zff]
theorem zbO (op:BinOp) (a b:Nat):zk q cst op (.neg k a) (.nat k b) c=ztE op k true (.neg k a) (.nat k b) c:=by
 show (@Bool.rec (fun _=>A) _ _ (yl k k):A)=_
 rw [zff]
theorem zbZ (op:BinOp) (a b:Nat):zk q cst op (.neg k a) (.neg k b) c=zHL op k a b c:=by
 show (@Bool.rec (fun _=>A) _ _ (yl k k):A)=_
 rw [zff]
private theorem zdO {p:Bool} {r:Prop} [Decidable r] (h:p=true↔r):fB p c=c (.bool (decide r)):=by
 rw [zco];congr 2;rw [kaJ];simpa using h
@[simp] theorem zOW (a b : Int) : zk q cst .lss (iv k a) (iv k b) c = c (.bool (decide (a < b))) := by
  cases a <;> cases b <;> simp only [iv]
  · rw [zaN]; exact zdO c (by simp [Nat.blt_eq])
  · rw [zbT]; exact zdO c (p := false) (by simp; omega)
  · rw [zbO]; exact zdO c (p := true) (by simp; omega)
  · rw [zbZ]; exact zdO c (by rw [Nat.blt_eq]; omega)
@[simp] theorem zPd (a b : Int) : zk q cst .leq (iv k a) (iv k b) c = c (.bool (decide (a ≤ b))) := by
  cases a <;> cases b <;> simp only [iv]
  · rw [zaN]; exact zdO c (by simp)
  · rw [zbT]; exact zdO c (p := false) (by simp; omega)
  · rw [zbO]; exact zdO c (p := true) (by simp; omega)
  · rw [zbZ]; exact zdO c (by rw [kaA]; omega)
@[simp] theorem zO1 (a b : Int) : zk q cst .gtr (iv k a) (iv k b) c = c (.bool (decide (b < a))) := by
  cases a <;> cases b <;> simp only [iv]
  · rw [zaN]; exact zdO c (by simp [Nat.blt_eq])
  · rw [zbT]; exact zdO c (p := true) (by simp; omega)
  · rw [zbO]; exact zdO c (p := false) (by simp; omega)
  · rw [zbZ]; exact zdO c (by rw [Nat.blt_eq]; omega)
@[simp] theorem zO2 (a b : Int) : zk q cst .geq (iv k a) (iv k b) c = c (.bool (decide (b ≤ a))) := by
  cases a <;> cases b <;> simp only [iv]
  · rw [zaN]; exact zdO c (by simp)
  · rw [zbT]; exact zdO c (p := true) (by simp; omega)
  · rw [zbO]; exact zdO c (p := false) (by simp; omega)
  · rw [zbZ]; exact zdO c (by rw [kaA]; omega)
@[simp] theorem zPa (a b : Int) : zk q cst .eql (iv k a) (iv k b) c = c (.bool (decide (a = b))) := by
  cases a <;> cases b <;> simp only [iv]
  · rw [zaN]; exact zdO c (by rw [Nat.beq_eq]; simp; omega)
  · rw [zbT]; show c (.bool false) = _; congr 2
  · rw [zbO]; show c (.bool false) = _; congr 2
  · rw [zbZ]; exact zdO c (by rw [Nat.beq_eq]; constructor <;> intro h <;> first | (subst h; rfl) | (injection h with h; exact h.symm))
@[simp] theorem zPf (a b : Int) : zk q cst .neq (iv k a) (iv k b) c = c (.bool (!decide (a = b))) := by
  cases a <;> cases b <;> simp only [iv]
  · rw [zaN]; show fB (zat (Nat.beq _ _)) c = _; rw [zco, wD]; congr 3; rw [kaJ, Nat.beq_eq]; simp; omega
  · rw [zbT]; show c (.bool true) = _; congr 2
  · rw [zbO]; show c (.bool true) = _; congr 2
  · rw [zbZ]; show fB (zat (Nat.beq _ _)) c = _; rw [zco, wD]; congr 3; rw [kaJ, Nat.beq_eq]; simp; omega
@[simp] theorem zNu (a b : Int) : zk q cst .add (iv k a) (iv k b) c = c (iv k (k.wrap (a + b))) := by
  cases a <;> cases b <;> simp only [iv]
  · rw [zaN]; show zmV k _ c = _; rw [zaL]; rfl
  · rw [zbT]; exact jd k _ c
  · rw [zbO]; exact jd k _ c
  · rw [zbZ]; exact jd k _ c
@[simp] theorem zOY (a b : Int) : zk q cst .sub (iv k a) (iv k b) c = c (iv k (k.wrap (a - b))) := by
  cases a <;> cases b <;> simp only [iv]
  · rename_i m n
    rw [zaN]
    show (@Bool.rec (fun _ => A) (zfF k (Int.sub (Int.ofNat m) (Int.ofNat n)) c) (zmV k (Nat.sub m n) c) (Nat.ble n m) : A) = _
    cases h : Nat.ble n m with
    | true =>
      have hle : n ≤ m := kaM h
      show zmV k _ c = _
      rw [zaL]
      have : Int.ofNat (Nat.sub m n) = Int.ofNat m - Int.ofNat n := by
        show ((m - n : Nat) : Int) = (m : Int) - (n : Int)
        omega
      rw [this]; rfl
    | false => exact jd k _ c
  · rw [zbT]; exact jd k _ c
  · rw [zbO]; exact jd k _ c
  · rw [zbZ]; exact jd k _ c
end
theorem z9 {z:Int} (h:-9223372036854775808≤z) (h2:z<9223372036854775808):IntKind.i64.wrap z=z:=by
 rw [IntKind.wrap_i64]
 omega
@[simp] theorem zON (b : Bool) (c : V → A) : xUn .not (.bool b) c = c (.bool (!b)) := by
  show fB (zat b) c = _
  rw [zco, wD]
open Go.RowKit
variable {P:Program}
open Classical in
noncomputable def Rq (P:Program) (Q:Nat→List V→S→V→S→Prop) (QC:FI→Code→T→S→A→Prop):R :=
  ⟨fun fi c tm s=>if h:∃ a:A,zdH P fi c tm s a∧QC fi c tm s a then h.choose else .bad 0,
   fun f args s=>if h:∃ p:V × S,qO P f args s p.1 p.2∧Q f args s p.1 p.2 then .ret h.choose.1 h.choose.2 else .bad 0⟩
theorem zoK (pc:PC) (Q:Nat→List V→S→V→S→Prop) (QC:FI→Code→T→S→A→Prop):RS P pc (Rq P Q QC):=by
 refine ⟨fun fi c tm s hnb=>?_,fun f args s hnb=>?_⟩
 ·unfold Rq at hnb ⊢
  simp only at hnb ⊢
  split at hnb
  ·rename_i h
   rw [dif_pos h]
   exact h.choose_spec.1
  ·exact absurd trivial hnb
 ·unfold Rq at hnb ⊢
  simp only at hnb ⊢
  split at hnb
  ·rename_i h
   rw [dif_pos h]
   exact h.choose_spec.1
  ·exact absurd trivial hnb
variable {QC:FI→Code→T→S→A→Prop} {args:List V} {Q:Nat→List V→S→V→S→Prop} {s:S}
open Classical in
theorem zm7 {f:Nat} (h:∃ v s',qO P f args s v s'∧Q f args s v s') :
  ∃ v s',(Rq P Q QC).call f args s=.ret v s'∧Q f args s v s':=by
 have h':∃ p:V × S,qO P f args s p.1 p.2∧Q f args s p.1 p.2:=by
  obtain ⟨v,s',h⟩:=h
  exact ⟨(v,s'),h⟩
 refine ⟨h'.choose.1,h'.choose.2,?_,h'.choose_spec.2⟩
 show (if h:∃ p:V × S,qO P f args s p.1 p.2∧Q f args s p.1 p.2 then F.ret h.choose.1 h.choose.2 else .bad 0)=_
 rw [dif_pos h']
variable {fi:FI} {tm:T}
open Classical in
theorem zL1 {c:Code} (h:∃ a,zdH P fi c tm s a∧QC fi c tm s a) :
  ∃ a,(Rq P Q QC).code fi c tm s=a∧QC fi c tm s a:=by
 refine ⟨h.choose,?_,h.choose_spec.2⟩
 show (if h:∃ a,zdH P fi c tm s a∧QC fi c tm s a then h.choose else .bad 0)=_
 rw [dif_pos h]
variable {s':S}
theorem zbD {pc:PC} (hp:PcOk P pc) (hh:pc.hooks=[]) {r:R} (hr:RS P pc r) {f:Nat} {v:V} (h:(fnC pc f).run r args s=.ret v s'):qO P f args s v s':=by
 have:=zzv hp hr (by rw [hh];intro h hx;cases hx) (f:=f) (args:=args) (s:=s) (by rw [h];exact fun h=>h)
 rw [h] at this
 exact this
theorem zuE {pc:PC} (hp:PcOk P pc) (hh:pc.hooks=[]) {r:R} (hr:RS P pc r) {c:Code} {a:A} (h:(zl pc fi c).run r tm s=a) (hnb:¬a.isBad):zdH P fi c tm s a:=by
 have:=wK hp hr (by rw [hh];intro h hx;cases hx) c tm s (by rw [h];exact hnb)
 rw [h] at this
 exact this
theorem zoP {pc:PC} (hp:PcOk P pc) (hh:pc.hooks=[]) (Q:Nat→List V→S→V→S→Prop) (QC:FI→Code→T→S→A→Prop) {c:Code} (Pre:T→S→Prop) (μ:T→S→Nat)
  (body:∀ tm s,Pre tm s→(∀ tm' s',μ tm' s'<μ tm s→Pre tm' s'→QC fi c tm' s' ((Rq P Q QC).code fi c tm' s'))→¬((zl pc fi c).run (Rq P Q QC) tm s).isBad∧QC fi c tm s ((zl pc fi c).run (Rq P Q QC) tm s)) :
  ∀ tm s,Pre tm s→¬((zl pc fi c).run (Rq P Q QC) tm s).isBad∧QC fi c tm s ((zl pc fi c).run (Rq P Q QC) tm s):=by
 have key:∀ n tm s,μ tm s=n→Pre tm s→¬((zl pc fi c).run (Rq P Q QC) tm s).isBad∧QC fi c tm s ((zl pc fi c).run (Rq P Q QC) tm s):=by
  intro n
  induction n using Nat.strongRecOn with
  | ind n ih =>
   intro tm s e h
   refine body tm s h fun tm' s' hm hp'=>?_
   obtain ⟨h1,h2⟩:=ih (μ tm' s') (by omega) tm' s' rfl hp'
   obtain ⟨a,h3,h4⟩:=zL1 (P:=P) (Q:=Q) (QC:=QC) (fi:=fi) (c:=c) (tm:=tm') (s:=s') ⟨_,zuE hp hh (zoK pc Q QC) rfl h1,h2⟩
   rw [h3];exact h4
 exact fun tm s h=>key _ tm s rfl h
variable {gr:Bool} {e mn n v:Nat}
theorem qG:j9 n gr mn v e=true↔(gr=true∧mn≤v∧v≤n∧e≤v)∨(gr=false∧e≤n):=by
 cases gr with
 | false =>
  show Nat.ble e n=true↔_
  simp
 | true =>
  show (@Bool.rec (fun _=>Bool) false (@Bool.rec (fun _=>Bool) false (Nat.ble e v) (Nat.ble v n)) (Nat.ble mn v):Bool)=true↔_
  cases h1:Nat.ble mn v with
  | false=>simp;intro h;rw [kap h] at h1;cases h1
  | true =>
   cases h2:Nat.ble v n with
   | false=>simp;intro _ h;rw [kap h] at h2;cases h2
   | true =>
    have h1:=kaM h1
    have h2:=kaM h2
    simp [h1,h2]
theorem zhj {e':Nat} (h:j9 n gr mn v e=true) (g:e'≤e):j9 n gr mn v e'=true:=by
 rw [qG] at h ⊢
 rcases h with ⟨h1,h2,h3,h4⟩ | ⟨h1,h2⟩
 ·exact .inl ⟨h1,h2,h3,by omega⟩
 ·exact .inr ⟨h1,by omega⟩
theorem zJx (h:j9 n gr mn v e=true):e≤n:=by
 rw [qG] at h
 rcases h with ⟨h1,h2,h3,h4⟩ | ⟨h1,h2⟩<;>omega
def Pt (s:S) (p:V) (m:Nat) (f:Nat→V):Prop:=∃ a w o l n el gr mn f1 f2,p=.ptr a w o∧Tr.get B.none a s.h=.row l n el gr mn f1 f2∧l.length=n∧j9 n gr mn w (o+m)=true∧∀ j,j<m→l.getD (o+j) .bad=f j
def zb (v:V):Nat:=match v with | .sl _ _ _ l _=>l | .so _ _ _ l _=>l | _=>0
def yz (b:B):List V:=match b with | .row l _ _ _ _ _ _=>l | _=>[]
def zt (s:S) (v:V) (j:Nat):V:=match v with | .sl a _ o _ _=>(yz (Tr.get B.none a s.h)).getD (o+j) .bad | .so a _ o _ _=>(yz (Tr.get B.none a s.h)).getD (o+j) .bad | _=>.bad
def Sl (s:S) (sz:Nat) (v:V):Prop:=(v=.nil 1∨∃ c0,v=.ref 1 c0)∨∃ a w o len,((∃ cap,v=.sl a w o len cap∧len≤cap)∨∃ e,v=.so a w o len e)∧a.toNat<s.nx.toNat∧∃ l n el gr mn f1 f2,Tr.get B.none a s.h=.row l n el gr mn f1 f2∧l.length=n∧j9 n gr mn w (o+len*sz)=true
def Fx (v:V):Prop:=match v with | .so _ _ _ _ _=>False | _=>True
theorem zIM {x:V} (h:x≠.bad) (c:V→A):zzS x c=c x:=by
 cases x with
 | bad=>exact absurd rfl h
 | _=>rfl
theorem ze1 (n:Nat):∀ (l:List V) (c:List V→A),(∀ x∈l.take n,x≠.bad)→zlN n l c=c (l.take n):=by
 induction n with
 | zero=>intro l c _;show c []=_;simp
 | succ n ih =>
  intro l c h
  cases l with
  | nil=>rfl
  | cons x t =>
   have hx:x≠.bad:=h x (by simp)
   have ht:=ih t (fun r=>c (x::r)) (fun y hy=>h y (by simp [hy]))
   cases x with
   | bad=>exact absurd rfl hx
   | _=>exact ht
theorem yN (k:IntKind) (z:Int):iv k z≠.bad:=by cases z<;>exact fun h=>by cases h
variable {m:Nat} {p:V}
theorem Pt.load1 {f:Nat→V} (h:Pt s p m f) (hm:0<m) (hk:f 0≠.bad) (k:V→S→A):zd false 1 p s k=k (f 0) s:=by
 obtain ⟨a,w,o,l,n,el,gr,mn,f1,f2,rfl,h1,hl,h2,h3⟩:=h
 show zbh s a w o (fun x=>k x s)=_
 unfold zbh
 rw [zK,h1]
 show (@Bool.rec (fun _=>A) _ _ (j9 n gr mn w (Nat.succ o)):A)=_
 rw [zhj h2 (show Nat.succ o≤o+m by omega)]
 show zNz o l _=_
 rw [zHm]
 have:=h3 0 hm
 rw [Nat.add_zero] at this
 rw [this,zIM hk]
variable {l:List V} {sz:Nat}
theorem zpj {o:Nat} {f:Nat→V} (hn:o+sz≤l.length) (h3:∀ j,j<sz→l.getD (o+j) .bad=f j):(l.drop o).take sz=(List.range sz).map f:=by
 apply kaG
 intro i
 by_cases hi:i<sz
 ·rw [List.getElem?_take_of_lt hi,List.getElem?_drop]
  have:=h3 i (by omega)
  rw [kan] at this
  rw [kac (by omega)] at this ⊢
  simp [hi] at this ⊢
  exact this
 ·rw [kau (by simp;omega),kau (by simp;omega)]
theorem Pt.loadN {f:Nat→V} (h:Pt s p m f) (sz:Nat) (hm:sz≤m) (hk:∀ j,j<sz→f j≠.bad) (k:V→S→A):zd true sz p s k=k (.ls 0 ((List.range sz).map f)) s:=by
 obtain ⟨a,w,o,l,n,el,gr,mn,f1,f2,rfl,h1,hl,h2,h3⟩:=h
 have hn:=zJx h2
 show zM s a w o sz (fun x=>k (.ls 0 x) s)=_
 unfold zM
 rw [zK,h1]
 show (@Bool.rec (fun _=>A) _ _ (j9 n gr mn w (Nat.add o sz)):A)=_
 rw [zhj h2 (show Nat.add o sz≤o+m by show o+sz≤o+m;omega)]
 show zeQ o l _=_
 have e:=zpj (l:=l) (o:=o) (sz:=sz) (f:=f) (by omega) (fun j hj=>h3 j (by omega))
 rw [wv,ze1 _ _ _ (by rw [e];intro x hx;simp at hx;obtain ⟨j,hj,rfl⟩:=hx;exact hk j hj),e]
theorem Pt.field {f:Nat→V} (h:Pt s p m f) (off:Nat) (ho:off≤m):∃ p',(∀ c,zf off p c=c p')∧Pt s p' (m - off) (fun j=>f (off+j)):=by
 obtain ⟨a,w,o,l,n,el,gr,mn,f1,f2,rfl,h1,hl,h2,h3⟩:=h
 refine ⟨.ptr a w (o+off),fun c=>?_,a,w,o+off,l,n,el,gr,mn,f1,f2,rfl,h1,hl,zhj h2 (by omega),fun j hj=>?_⟩
 ·show fN (Nat.add o off) (fun o=>c (V.ptr a w o))=_
  rw [zH];rfl
 ·rw [Nat.add_assoc];exact h3 (off+j) (by omega)
variable {v:V}
theorem Sl.len (h:Sl s sz v) (c:V→A):zz v c=c (iv .i64 (zb v)):=by
 rcases h with (rfl | ⟨c0,rfl⟩) | ⟨a,w,o,len,⟨cap,rfl,_⟩ | ⟨e,rfl⟩,_⟩<;>rfl
theorem Sl.idx (h:Sl s sz v) {i:Int} (h0:0≤i) (hi:i<zb v):∃ p,(∀ k c,zg sz v (iv k i) c=c p)∧Pt s p sz (fun j=>zt s v (i.toNat*sz+j)):=by
 obtain ⟨i,rfl⟩:=Int.eq_ofNat_of_zero_le h0
 rcases h with (rfl | ⟨c0,rfl⟩) | ⟨a,w,o,len,hv,_,l,n,el,gr,mn,f1,f2,h1,hl,h2⟩
 ·exact absurd hi (by simp [zb])
 ·exact absurd hi (by simp [zb])
 ·have hlv:zb v=len:=by rcases hv with ⟨cap,rfl,_⟩ | ⟨e,rfl⟩<;>rfl
  have hi':i<len:=by rw [hlv] at hi;omega
  have hle:(i+1)*sz≤len*sz:=kaL _ hi'
  rw [Nat.add_mul] at hle
  refine ⟨.ptr a w (o+i*sz),fun k c=>?_,a,w,o+i*sz,l,n,el,gr,mn,f1,f2,rfl,h1,hl,zhj h2 (by omega),fun j hj=>?_⟩
  ·rcases hv with ⟨cap,rfl,_⟩ | ⟨e,rfl⟩
   all_goals
    show (@Bool.rec (fun _=>A) _ _ (Nat.blt i len):A)=_
    rw [show Nat.blt i len=true by rw [Nat.blt_eq];exact hi']
    show fN (Nat.add o (Nat.mul i sz)) (fun o=>c (.ptr a w o))=_
    rw [zH];rfl
  ·rw [Nat.add_assoc]
   rcases hv with ⟨cap,rfl,_⟩ | ⟨e,rfl⟩<;>simp [zt,h1,yz]
structure Ext (s s':S):Prop where
 nx:s.nx.toNat≤s'.nx.toNat
 get:∀ a,a.toNat<s.nx.toNat→Tr.get B.none a s'.h=Tr.get B.none a s.h
theorem Ext.refl (s:S):Ext s s:=⟨kab _,fun _ _=>rfl⟩
theorem Ext.trans {a b c:S} (h:Ext a b) (k:Ext b c):Ext a c:=⟨kar h.nx k.nx,fun x hx=>(k.get x (kaf hx h.nx)).trans (h.get x hx)⟩
theorem Sl.ext (h:Sl s sz v) (e:Ext s s'):Sl s' sz v∧∀ j,zt s' v j=zt s v j:=by
 rcases h with (rfl | ⟨c0,rfl⟩) | ⟨a,w,o,len,hv,hlt,l,n,el,gr,mn,f1,f2,h1,h2⟩
 ·exact ⟨.inl (.inl rfl),fun j=>rfl⟩
 ·exact ⟨.inl (.inr ⟨c0,rfl⟩),fun j=>rfl⟩
 ·refine ⟨.inr ⟨a,w,o,len,hv,kaf hlt e.nx,l,n,el,gr,mn,f1,f2,(e.get a hlt).trans h1,h2⟩,fun j=>?_⟩
  rcases hv with ⟨cap,rfl,_⟩ | ⟨e0,rfl⟩<;>simp [zt,e.get a hlt]
def zN (s:S) (b:B):S:=⟨Tr.set B.none b s.nx s.h,s.nx.succ⟩
theorem zO (s:S) (b:B):Ext s (zN s b):=⟨by show s.nx.toNat≤s.nx.succ.toNat;rw [K.toNat_succ];omega,fun a ha=>by
 show Tr.get B.none a (Tr.set B.none b s.nx s.h)=_
 rw [get_set,if_neg (fun e=>by rw [e] at ha;omega)]⟩
theorem zx (s:S) (b:B):Tr.get B.none s.nx (zN s b).h=b:=by
 show Tr.get B.none s.nx (Tr.set B.none b s.nx s.h)=_
 rw [get_set,if_pos rfl]
theorem zo (s:S) (el:Nat) (l:List V) (gr:Bool) (c:K→Nat→S→A):Go.Ev.newRow s el l gr c=c s.nx l.length (zN s (.row l l.length el gr 0 0 0)):=by
 unfold Go.Ev.newRow
 rw [jn,zdy];rfl
@[simp] theorem zaU (k:IntKind) (z:Int) (c:List V→A):zp 1 (iv k z) c=c [iv k z]:=by cases z<;>rfl
@[simp] theorem zDL (r : R) (g : Nat) (first cap args : List V) (tm : T) (s : S) (k : V → S → A) : jz r (.fn (.func g) first cap) args tm s k = zD (r.call g (first ++ (args ++ cap)) s) k := by
  show zah args cap (fun l => zah first l fun l => wY r g l s k) = _
  rw [yf, yf]; rfl
theorem zpX {k:IntKind} {a b:Int} (h:iv k a=iv k b):a=b:=by
 have:=congrArg toI h
 rwa [zn,zn] at this
def kOf:Nat→K
 | 0=>.h
 | n+1=>(kOf n).succ
theorem yu:∀ n,(kOf n).toNat=n+1
 | 0=>rfl
 | n+1=>by rw [kOf,K.toNat_succ,yu n]
variable {b:Nat}
theorem zH2 {a:Nat} (h:kOf a=kOf b):a=b:=by
 have:=congrArg K.toNat h
 rw [yu,yu] at this
 omega
theorem zqj (k:K):∃ n,k=kOf n:=by
 refine ⟨k.toNat - 1,K.toNat_inj ?_⟩
 have:=k.toNat_pos
 rw [yu];omega
def zef (N:Nat):Value→V
 | .bool b=>.bool b
 | .int k n=>iv k n
 | .string s=>.str (qm s)
 | .pointer none=>.nil 0
 | .pointer (some ⟨b,o,none⟩)=>if b<N then .ptr (kOf b) 0 o else .bad
 | .slice none 0 0=>.nil 1
 | .slice (some _) 0 0=>.ref 1 .h
 | .slice (some ⟨b,o,none⟩) len cap=>if b<N∧len≤cap then .sl (kOf b) 0 o len cap else .bad
 | .map none=>.nil 2
 | .nilFunc=>.nil 3
 | .nilIface=>.nil 4
 | _=>.bad
def zNa (N:Nat):Value→V
 | .agg ⟨cs⟩=>if cs.all (·.oneCell') then .ls 0 (cs.map (zef N)) else .bad
 | v=>zef N v
def zKM (N:Nat):Option Obj→B
 | some (.cells c el _)=>.row (c.toList.map (zef N)) c.size el false 0 0 c.size
 | _=>.none
def zKQ (w:World):Nat→Tr B
 | 0=>.lf
 | n+1=>Tr.set B.none (zKM w.heap.size w.heap[n]?) (kOf n) (zKQ w n)
def zpD (w:World):S:=⟨zKQ w w.heap.size,kOf w.heap.size⟩
theorem zDY (w:World):∀ n b,Tr.get B.none (kOf b) (zKQ w n)=if b<n then zKM w.heap.size w.heap[b]? else .none
 | 0,b=>by rw [zKQ,zer,if_neg (by omega)]
 | n+1,b=>by
  rw [zKQ,get_set,zDY w n b]
  by_cases h:b=n
  ·subst h;rw [if_pos rfl,if_pos (by omega)]
  ·rw [if_neg (fun e=>h (zH2 e))]
   by_cases g:b<n
   ·rw [if_pos g,if_pos (by omega)]
   ·rw [if_neg g,if_neg (by omega)]
theorem zhq (w:World) (b:Nat):Tr.get B.none (kOf b) (zpD w).h=if b<w.heap.size then zKM w.heap.size w.heap[b]? else .none:=zDY w _ b
def zjm (P : Program) (w : World) : Val :=
  { blk := fun a v => if v = 0 ∧ a.toNat ≤ w.heap.size then some (a.toNat - 1, 0) else none, cap := fun _ _ => 0,
    sz := fun a => match w.heap[a.toNat - 1]? with | some (.cells _ el _) => P.cellsOf el | _ => 0 }
variable {a:K} {w:World}
theorem zb8 {v:Nat} {p:Nat × Nat} (h:(zjm P w).blk a v=some p):v=0∧p.2=0∧p.1<w.heap.size∧a=kOf p.1:=by
 unfold zjm at h
 simp only at h
 split at h
 ·rename_i g
  cases h
  have:=a.toNat_pos
  refine ⟨g.1,rfl,by show a.toNat - 1<_;omega,K.toNat_inj ?_⟩
  rw [yu];show a.toNat=a.toNat - 1+1;omega
 ·cases h
theorem zsH (h:b<w.heap.size):(zjm P w).blk (kOf b) 0=some (b,0):=by
 unfold zjm
 simp only [yu]
 rw [if_pos ⟨trivial,by omega⟩];rfl
theorem zJE (N:Nat) (x:Value) (h:zef N x≠.bad):x.oneCell'=true:=by
 cases x<;>first | rfl | exact absurd rfl h
theorem zzZ (w:World) (x:Value):VR (zjm P w) (zef w.heap.size x) x:=by
 unfold zef
 split<;>first
  | trivial
  | rfl
  | (exact zeG _ _ _)
  | (exact ⟨_,rfl,rfl⟩)
  | (exact .inl ⟨_,rfl⟩)
  | skip
 ·split
  ·rename_i h;exact ⟨_,0,zsH h,by simp⟩
  ·trivial
 ·split
  ·rename_i h;exact ⟨_,0,zsH h.1,by simp,h.2⟩
  ·trivial
theorem zAo (w:World):∀ l:List Value,VRs (zjm P w) (l.map (zef w.heap.size)) l
 | []=>rfl
 | x::l=>⟨x,l,rfl,zzZ w x,zAo w l⟩
theorem zMH (w:World) (x:Value):VR (zjm P w) (zNa w.heap.size x) x:=by
 unfold zNa
 split
 ·rename_i cs
  split
  ·rename_i h
   exact ⟨cs,zAo w cs,rfl,by simpa using h⟩
  ·trivial
 ·exact zzZ w x
variable {G:Nat}
theorem zNL (w:World) (hG:G≤w.heap.size) (h24:G<2 ^ 24):St P w.heap.size w (zjm P w) (zpD w) w∧yq (zjm P w) G:=by
 refine ⟨⟨Below.refl _ _,kab _,fun a=>?_,fun a ha=>⟨fun v=>?_,?_⟩,fun a v b δ a' v' δ' h1 h2 _ _=>?_,fun a v b δ h hl=>?_⟩,fun g h=>?_⟩
 ·obtain ⟨b,rfl⟩:=zqj a
  rw [zhq]
  split
  ·rename_i hb
   unfold zKM
   split
   ·rename_i c el fz hc
    show RowR P (zjm P w) w (kOf b) _ _ _ _ _ _ _
    refine ⟨by simp,fun _ v p hp=>?_,(fun h=>by cases h),(fun h=>by cases h),fun v v' b' δ δ' g1 g2=>?_,fun v b' δ hp=>?_⟩
    ·obtain ⟨k1,k2,_⟩:=zb8 hp;exact ⟨k1,k2⟩
    ·obtain ⟨_,k2,_⟩:=zb8 g1;obtain ⟨_,k3,_⟩:=zb8 g2
     simp at k2 k3;omega
    ·obtain ⟨k1,k2,k3,k4⟩:=zb8 hp
     have e:=zH2 k4
     simp at e k2
     subst e k2
     refine ⟨c,fz,hc,?_,.inl ⟨rfl,rfl,kab _⟩,(fun h=>by cases h),fun _ i x hx _=>?_⟩
     ·show (match w.heap[(kOf b).toNat - 1]? with | some (.cells _ el _)=>P.cellsOf el | _=>0)=_
      rw [yu,Nat.add_sub_cancel,hc]
     ·rw [kal,Option.map_eq_some_iff] at hx
      obtain ⟨y,hy,rfl⟩:=hx
      exact ⟨y,by simpa using hy,zJE _ y,zzZ w y⟩
   ·trivial
  ·trivial
 ·unfold zjm
  have:(zpD w).nx.toNat=w.heap.size+1:=yu _
  simp only
  rw [if_neg (by omega)]
 ·obtain ⟨b,rfl⟩:=zqj a
  have:(zpD w).nx.toNat=w.heap.size+1:=yu _
  rw [yu] at ha
  rw [zhq,if_neg (by omega)]
 ·obtain ⟨_,_,_,k4⟩:=zb8 h1
  obtain ⟨_,_,_,k5⟩:=zb8 h2
  rw [k4,k5]
 ·obtain ⟨b',rfl⟩:=zqj a
  right
  rw [zhq] at hl ⊢
  split at hl
  ·rename_i hb
   rw [if_pos hb]
   unfold zKM at hl ⊢
   split at hl
   ·exact ⟨rfl,rfl,kab _⟩
   ·exact hl.elim
  ·exact hl.elim
 ·have e:js 24 (g+1)=kOf g:=K.toNat_inj (by rw [zgJ 24 (g+1) (by omega) (by omega),yu])
  rw [e];exact zsH (by omega)
theorem St.later {n0:Nat} {w0 w':World} {ν:Val} (hst:St P n0 w0 ν s w) (hb:Below w.heap.size w w'):St P n0 w0 ν s w' :=
 ⟨hst.below.trans (hb.mono (kar hst.n0le hst.below.size)),hst.n0le,fun a=>(hst.rows a).frame fun _ _ _ h hl=>hb.block _ ((hst.rows a).there hl h),hst.fresh,hst.sep,hst.own⟩
theorem qO.closed {f:Nat} {b:Bool} {s1:S} (hG:P.globals.size=G) (hg:ztS G=true) (hX:qO P f [] (start G) (.bool b) s1) (s:S):qO P f [] s (.bool b) s:=by
 intro n0 w0 ν w cargs hst _ hv
 have hc:cargs=[]:=hv
 subst hc
 obtain ⟨h1,h2⟩:=zKw (P:=P) hg w
 obtain ⟨e,k⟩:=hX w.heap.size w (zMZ G) w [] h1 (by rw [hG];exact h2) rfl
 refine ⟨e,fun kind cs hk=>?_⟩
 obtain ⟨ν',y,w',fr,g1,g2,g3⟩:=k kind cs hk
 have hy:y=.bool b:=g2
 exact ⟨ν,y,w',fr,⟨ν.le_refl,hst.later g1.st.below,kab _,fun _ h _=>⟨h,.inl rfl⟩⟩,hy,g3⟩
theorem zN8 {f:Nat} {args:List Value} {b:Bool} (hG:P.globals.size=G) (hw:G≤w.heap.size) (h24:G<2 ^ 24)
  (hX:qO P f (args.map (zNa w.heap.size)) (zpD w) (.bool b) s'):Calls P f ⟨args⟩ w fun e w'=>e=.returned (.bool b)∧Below w.heap.size w w':=by
 obtain ⟨h1,h2⟩:=zNL (P:=P) w hw h24
 have hv:∀ l:List Value,VRs (zjm P w) (l.map (zNa w.heap.size)) l:=by
  intro l
  induction l with
  | nil=>rfl
  | cons x l ih=>exact ⟨x,l,rfl,zMH w x,ih⟩
 obtain ⟨_,hc⟩:=hX w.heap.size w (zjm P w) w args h1 (by rw [hG];exact h2) (hv args)
 intro cs
 obtain ⟨ν',y,w',fr,g1,g2,g3,g4,g5,g6,g7,fn,g8,g9⟩:=hc .normal cs (.inl rfl)
 have hy:y=.bool b:=g2
 subst hy
 exact ⟨.returned (.bool b),w',fr,⟨rfl,g1.st.below⟩,g3,g7,g5,g6,g4,fn,by rw [g7];exact g8,g9⟩
theorem zEF {pc:PC} (hp:PcOk P pc) (hh:∀ h∈pc.hooks,jR P h) {f:Nat} (h:zJW pc n f s=true):∃ s1,qO P f [] s (.bool true) s1:=by
 unfold zJW at h
 cases hc:(run pc n).call f [] s with
 | ret v s1 =>
  rw [hc] at h
  cases v with
  | bool b=>cases b with
   | true=>exact ⟨s1,(zFc hp hh n).call _ _ _ _ _ hc⟩
   | false=>cases h
  | _=>cases h
 | _=>rw [hc] at h;cases h
structure Ct where
 pre:List V→S→Prop
 post:List V→S→V→S→Prop
structure Lt where
 pre:T→S→Prop
 post:T→S→A→Prop
def zL (P:Program) (K:Nat→Ct) (f:Nat):Prop:=∀ a s,(K f).pre a s→∃ v s',qO P f a s v s'∧(K f).post a s v s'
noncomputable def Rk (P:Program) (K:Nat→Ct) (L:Nat→Lt):R :=
 Rq P (fun f a s v s'=>(K f).pre a s→(K f).post a s v s') (fun _ c tm s a=>(L (z3 c)).pre tm s→(L (z3 c)).post tm s a)
theorem zKY (pc:PC) (K:Nat→Ct) (L:Nat→Lt):RS P pc (Rk P K L):=zoK pc _ _
variable {L:Nat→Lt}
theorem zMK {K:Nat→Ct} {f:Nat} {a:List V} (h:zL P K f) (hp:(K f).pre a s):∃ v s',(Rk P K L).call f a s=.ret v s'∧(K f).post a s v s':=by
 obtain ⟨v,s',h1,h2⟩:=h a s hp
 obtain ⟨v,s',h3,h4⟩:=zm7 (P:=P) (Q:=fun f a s v s'=>(K f).pre a s→(K f).post a s v s') (QC:=fun _ c tm s a=>(L (z3 c)).pre tm s→(L (z3 c)).post tm s a) ⟨v,s',h1,fun _=>h2⟩
 exact ⟨v,s',h3,h4 hp⟩
def zMW (K:Nat→Ct) (r:R) (f:Nat):Prop:=∀ a s,(K f).pre a s→∃ v s',r.call f a s=.ret v s'∧(K f).post a s v s'
theorem zQ {K:Nat→Ct} {f:Nat} (h:zL P K f):zMW K (Rk P K L) f:=fun _ _ hp=>zMK h hp
theorem zeI {pc:PC} (hp:PcOk P pc) (hh:pc.hooks=[]) {K:Nat→Ct} {c:Code} (hn:z3 c=n) (μ:T→S→Nat) (hnb:∀ tm s a,(L n).pre tm s→(L n).post tm s a→¬a.isBad)
  (body:∀ tm s,(L n).pre tm s→(∀ tm' s',μ tm' s'<μ tm s→(L n).pre tm' s'→(L n).post tm' s' ((Rk P K L).code fi c tm' s'))→(L n).post tm s ((zl pc fi c).run (Rk P K L) tm s)) :
  ∀ tm s,(L n).pre tm s→(L n).post tm s ((zl pc fi c).run (Rk P K L) tm s):=by
 intro tm s h
 have:=(zoP (P:=P) hp hh (fun f a s v s'=>(K f).pre a s→(K f).post a s v s') (fun _ c tm s a=>(L (z3 c)).pre tm s→(L (z3 c)).post tm s a) (fi:=fi) (c:=c) (L n).pre μ (fun tm s h IH=>by
  have:=body tm s h fun tm' s' h1 h2=>by
   have:=IH tm' s' h1 h2
   rw [hn] at this
   exact this h2
  exact ⟨hnb _ _ _ h this,fun _=>by rw [hn];exact this⟩) tm s h).2
 rw [hn] at this
 exact this h
def LP (id out:Nat) (rv:V) (good:Prop) (E:T→S→Prop) (a:A):Prop :=
 (good∧∃ tm' s',a=.ext id tm' s'∧gp 240 tm'=.bad∧E tm' s')∨(¬good∧∃ tm' s',a=.ret tm' s'∧gp 240 tm'=.bad∧gp out tm'=rv∧E tm' s')
theorem LP.nb {id out:Nat} {rv:V} {good:Prop} {E:T→S→Prop} {a:A} (h:LP id out rv good E a):¬a.isBad:=by
 rcases h with ⟨_,tm,s,rfl,_⟩ | ⟨_,tm,s,rfl,_⟩<;>exact fun h=>h
variable {i:Nat}
theorem zGw {a b:V} (ha:a=iv .i64 (i:Int)) (hb:b=iv .i64 ((i:Int)+1)) (h:i<n):n - (toI b).toNat<n - (toI a).toNat:=by
 rw [ha,hb,zn,zn];omega
theorem zKI {a b a' b':V} (h1:a=iv .i64 (n:Int)) (h2:b=iv .i64 (i:Int)) (h3:a'=iv .i64 (n:Int)) (h4:b'=iv .i64 ((i:Int)+1)) (h:i<n):(toI a').toNat - (toI b').toNat<(toI a).toNat - (toI b).toNat:=by
 rw [h1,h2,h3,h4,zn,zn,zn];omega
def zZ (s:S) (v:V):Prop:=Sl s 1 v∧zb v≤9223372036854775807∧∀ j,j<zb v→zt s v j=iv .i64 (toI (zt s v j))
noncomputable def qi (s:S) (v:V) (j:Nat):Int:=toI (zt s v j)
noncomputable def word (s:S) (v:V):List Int:=(List.range (zb v)).map (qi s v)
@[simp] theorem zA (s:S) (v:V):(word s v).length=zb v:=by simp [word]
theorem yb (h:i<zb v):(word s v)[i]?=some (qi s v i):=by simp [word,h]
theorem zyZ {t:S} {u:V}:word s v=word t u↔zb v=zb u∧∀ j,j<zb v→qi s v j=qi t u j:=by
 constructor
 ·intro h
  have hl:zb v=zb u:=by rw [←zA s v,h,zA]
  refine ⟨hl,fun j hj=>?_⟩
  have:=yb (s:=s) hj
  rw [h,yb (hl▸hj)] at this
  exact (Option.some.inj this).symm
 ·rintro ⟨h1,h2⟩
  apply kaG
  intro i
  by_cases h:i<zb v
  ·rw [yb h,yb (h1▸h),h2 i h]
  ·rw [kau (by simp;omega),kau (by simp;omega)]
theorem zDa {x:Int}:x∈word s v↔∃ j,j<zb v∧qi s v j=x:=by simp [word]
theorem zZ.at_ (h:zZ s v) (hi:i<zb v):∃ p,(∀ k c,zg 1 v (iv k i) c=c p)∧∀ k:V→S→A,zd false 1 p s k=k (iv .i64 (qi s v i)) s:=by
 obtain ⟨p,hp,hP⟩:=h.1.idx (i:=i) (by omega) (by omega)
 refine ⟨p,hp,fun k=>?_⟩
 have e:zt s v ((i:Int).toNat*1+0)=iv .i64 (qi s v i):=by
  simp only [Int.toNat_natCast,kaK,Nat.add_zero]
  rw [h.2.2 i hi];rfl
 rw [hP.load1 Nat.zero_lt_one (by rw [e];exact yN _ _),e]
theorem zZ.ext (h:zZ s v) (e:Ext s s'):zZ s' v∧∀ j,qi s' v j=qi s v j:=by
 obtain ⟨h1,h2⟩:=h.1.ext e
 refine ⟨⟨h1,h.2.1,fun j hj=>?_⟩,fun j=>?_⟩
 ·rw [h2];exact h.2.2 j hj
 ·unfold qi;rw [h2]
theorem zZ.word (h:zZ s v) (e:Ext s s'):word s' v=word s v:=by
 unfold Go.Ev.word
 exact kaO fun j _=>(h.ext e).2 j
def FxT (s:S) (v:V):Prop:=Fx v∨∃ a w len e l n gr mn f1 f2,v=.so a w 0 len e∧a.toNat<s.nx.toNat∧Tr.get B.none a s.h=.row l n 49 gr mn f1 f2
theorem FxT.ext (h:FxT s v) (e:Ext s s'):FxT s' v:=by
 rcases h with h | ⟨a,w,len,e0,l,n,gr,mn,f1,f2,h0,h1,h2⟩
 ·exact .inl h
 ·exact .inr ⟨a,w,len,e0,l,n,gr,mn,f1,f2,h0,kaf h1 e.nx,(e.get a h1).trans h2⟩
def Tab (s:S) (v:V):Prop:=Sl s 2 v∧(zb v≤9223372036854775807∧FxT s v)∧∀ i,i<zb v→zZ s (zt s v (i*2))∧zZ s (zt s v (i*2+1))
noncomputable def zi (s:S) (v:V) (i:Nat):List Int:=word s (zt s v (i*2))
noncomputable def toV (s:S) (v:V) (i:Nat):List Int:=word s (zt s v (i*2+1))
theorem Tab.ext (h:Tab s v) (e:Ext s s'):Tab s' v∧(∀ j,zt s' v j=zt s v j)∧(∀ i,i<zb v→zi s' v i=zi s v i)∧∀ i,i<zb v→toV s' v i=toV s v i:=by
 obtain ⟨h1,h2⟩:=h.1.ext e
 refine ⟨⟨h1,⟨h.2.1.1,h.2.1.2.ext e⟩,fun j hj=>?_⟩,h2,fun i hi=>?_,fun i hi=>?_⟩
 ·rw [h2,h2];exact ⟨((h.2.2 j hj).1.ext e).1,((h.2.2 j hj).2.ext e).1⟩
 ·unfold zi;rw [h2];exact (h.2.2 i hi).1.word e
 ·unfold toV;rw [h2];exact (h.2.2 i hi).2.word e
theorem zZ.ne (h:zZ s v):v≠.bad:=by
 rcases h.1 with (rfl | ⟨c0,rfl⟩) | ⟨_,_,_,_,⟨_,rfl,_⟩ | ⟨_,rfl⟩,_⟩<;>exact fun h=>by cases h
theorem Tab.at_ (h:Tab s v) (hi:i<zb v):∃ p,(∀ k c,zg 2 v (iv k i) c=c p)∧Pt s p 2 (fun j=>zt s v (i*2+j)):=by
 obtain ⟨p,hp,hP⟩:=h.1.idx (i:=i) (by omega) (by omega)
 exact ⟨p,hp,hP⟩
theorem Tab.fields (h:Tab s v) (hi:i<zb v):∃ p q0 q1,(∀ k c,zg 2 v (iv k i) c=c p)∧(∀ c,zf 0 p c=c q0)∧(∀ c,zf 1 p c=c q1) ∧
  (∀ k:V→S→A,zd false 1 q0 s k=k (zt s v (i*2)) s)∧(∀ k:V→S→A,zd false 1 q1 s k=k (zt s v (i*2+1)) s)∧(∀ k:V→S→A,zd true 2 p s k=k (.ls 0 [zt s v (i*2),zt s v (i*2+1)]) s):=by
 obtain ⟨p,hp,hP⟩:=h.at_ hi
 obtain ⟨q0,e0,P0⟩:=hP.field 0 (by omega)
 obtain ⟨q1,e1,P1⟩:=hP.field 1 (by omega)
 refine ⟨p,q0,q1,hp,e0,e1,fun k=>?_,fun k=>?_,fun k=>?_⟩
 ·exact P0.load1 (by omega) (h.2.2 i hi).1.ne k
 ·exact P1.load1 (by omega) (h.2.2 i hi).2.ne k
 ·refine hP.loadN 2 (by omega) (fun j hj=>?_) k
  match j,hj with
  | 0,_=>exact (h.2.2 i hi).1.ne
  | 1,_=>exact (h.2.2 i hi).2.ne
theorem zzs {α:Type} (d x y:α) (k:K):∀ t:Tr α,Tr.set d y k (Tr.set d x k t)=Tr.set d y k t:=by
 induction k with
 | h=>intro t;cases t<;>rfl
 | o p ih=>intro t;cases t<;>simp [Tr.set,ih]
 | i p ih=>intro t;cases t<;>simp [Tr.set,ih]
theorem qX (s:S) (el n:Nat) (l0 l:List V) (h0:l0.length=n) (hl:l.length=n) (k:V→S→A):zJ n (.ptr s.nx 0 0) (.ls 0 l) (zN s (.row l0 n el false 0 0 0)) k=k undef (zN s (.row l n el false 0 0 0)):=by
 show zp n (.ls 0 l) (fun l=>qf _ s.nx 0 0 n l (fun s=>k undef s))=_
 show zfz l (fun m=>@Bool.rec (fun _=>A) _ _ (Nat.beq m n))=_
 rw [jn,show Nat.beq l.length n=true by rw [hl];exact kay n]
 show qf _ s.nx 0 0 n l (fun s=>k undef s)=_
 unfold qf
 rw [zK,zx]
 show (@Bool.rec (fun _=>A) _ _ (zfA n false 0 0 (Nat.add 0 n) 0 0):A)=_
 rw [show zfA n false 0 0 (Nat.add 0 n) 0 0=true by
  show (@Bool.rec (fun _=>Bool) _ _ (Nat.ble (Nat.add 0 n) n):Bool)=_
  rw [show Nat.ble (Nat.add 0 n) n=true from kap (by show 0+n≤n;omega)];rfl]
 show qY l 0 l0 _=_
 rw [zdp,qp]
 have e:upd l 0 l0=l:=by
  subst h0
  clear k
  induction l generalizing l0 with
  | nil=>cases l0 with
   | nil=>rfl
   | cons=>cases hl
  | cons x l ih=>cases l0 with
   | nil=>cases hl
   | cons y l0=>exact congrArg (x::·) (ih l0 (by simpa using hl))
 rw [e]
 show k undef ⟨Tr.set B.none _ s.nx (Tr.set B.none _ s.nx s.h),s.nx.succ⟩=_
 rw [zzs];rfl
theorem zLJ (s:S) (el n:Nat) (l:List V) (hl:l.length=n):Pt (zN s (.row l n el false 0 0 0)) (.ptr s.nx 0 0) n (fun j=>l.getD j .bad) :=
 ⟨s.nx,0,0,l,n,el,false,0,0,0,rfl,zx _ _,hl,qG.2 (.inr ⟨rfl,by omega⟩),fun j _=>by rw [kaF]⟩
theorem Pt.ext {f:Nat→V} (h:Pt s p m f) (e:Ext s s') (hlt:∀ a v o,p=.ptr a v o→a.toNat<s.nx.toNat):Pt s' p m f:=by
 obtain ⟨a,w,o,l,n,el,gr,mn,f1,f2,rfl,h1,h2,h3,h4⟩:=h
 exact ⟨a,w,o,l,n,el,gr,mn,f1,f2,rfl,(e.get a (hlt _ _ _ rfl)).trans h1,h2,h3,h4⟩
def bnd (x:Option V) (d n:Nat):Prop:=(x=none∧n=d)∨∃ k,x=some (iv k n)
theorem bnd.run {x:Option V} {d:Nat} (h:bnd x d n) (c:Nat→A):yD x d c=c n:=by
 rcases h with ⟨rfl,rfl⟩ | ⟨k,rfl⟩<;>rfl
variable {hi lo:Option V}
theorem Sl.slice (h:Sl s sz v) (hf:Fx v) {a:Nat} (h1:bnd lo 0 a) (h2:bnd hi (zb v) b) (hab:a≤b) (hb:b≤zb v) :
  ∃ u,(∀ el c,yg el sz v lo hi none s c=c u)∧Sl s sz u∧zb u=b - a∧(∀ j,j<(b - a)*sz→zt s u j=zt s v (a*sz+j))∧Fx u:=by
 rcases h with (rfl | ⟨c0,rfl⟩) | ⟨k,w,o,len,⟨cap,rfl,g4⟩ | ⟨e,rfl⟩,hlt,l,n,el,gr,mn,f1,f2,g1,g2,g3⟩
 ·have hb0:b=0:=by simpa [zb] using hb
  subst hb0
  have ha0:a=0:=by omega
  subst ha0
  refine ⟨.nil 1,fun el c=>?_,.inl (.inl rfl),rfl,fun j hj=>by omega,trivial⟩
  show yD lo 0 (fun a=>yD hi 0 fun b=>yD none 0 fun m=>(@Bool.rec (fun _=>A) eA (c (.nil 1)) (zq (Nat.beq 1 1) (zq (Nat.beq a 0) (zq (Nat.beq b 0) (Nat.beq m 0)))):A))=_
  rw [h1.run]
  rw [bnd.run (d:=0) h2];rfl
 ·have hb0:b=0:=by simpa [zb] using hb
  subst hb0
  have ha0:a=0:=by omega
  subst ha0
  refine ⟨.ref 1 c0,fun el c=>?_,.inl (.inr ⟨c0,rfl⟩),rfl,fun j hj=>by omega,trivial⟩
  show yD lo 0 (fun l=>yD hi 0 fun h=>(@Bool.rec (fun _=>A) eA (c (.ref 1 c0)) (zq (Nat.beq 1 1) (zq (Nat.beq l 0) (Nat.beq h 0))):A))=_
  rw [h1.run]
  rw [bnd.run (d:=0) h2];rfl
 ·have hb':b≤len:=hb
  refine ⟨.sl k w (Bool.rec (Nat.add o (Nat.mul a sz)) o (Nat.beq cap a)) (b - a) (cap - a),fun el c=>?_,.inr ⟨k,w,_,b - a,.inl ⟨cap - a,rfl,by omega⟩,hlt,l,n,el,gr,mn,f1,f2,g1,g2,zhj g3 ?_⟩,rfl,fun j hj=>?_,trivial⟩
  ·show zbY sz k w o len cap lo hi none c=_
   unfold zbY
   rw [h1.run,bnd.run (d:=len) h2]
   show (@Bool.rec (fun _=>A) _ _ (zq (Nat.ble a b) (zq (Nat.ble b cap) (Nat.ble cap cap))):A)=_
   rw [show Nat.ble a b=true from kap hab,show Nat.ble b cap=true from kap (by omega),show Nat.ble cap cap=true from kap (kab _)]
   show fN (Nat.sub b a) (fun len'=>fN (Nat.sub cap a) fun cap'=>fN (Bool.rec (Nat.add o (Nat.mul a sz)) o (Nat.beq cap a)) fun o'=>c (.sl k w o' len' cap'))=_
   rw [zH,zH,zH];rfl
  ·have:(b - a)*sz+a*sz≤len*sz:=by rw [←Nat.add_mul];exact kaL _ (by omega)
   cases hc:Nat.beq cap a with
   | true=>show o+(b - a)*sz≤o+len*sz;omega
   | false=>show o+a*sz+(b - a)*sz≤o+len*sz;omega
  ·cases hc:Nat.beq cap a with
   | true =>
    have:=kaa hc
    have:b - a=0:=by omega
    rw [this] at hj;omega
   | false =>
    show (yz (Tr.get B.none k s.h)).getD (o+a*sz+j) .bad=(yz (Tr.get B.none k s.h)).getD (o+(a*sz+j)) .bad
    rw [Nat.add_assoc]
 ·exact hf.elim
theorem Sl.sliceT (h:Sl s 2 v) (hf:FxT s v) {k:IntKind} (hi:i≤zb v) :
  ∃ u,(∀ c,yg 49 2 v none (some (iv k i)) none s c=c u)∧Sl s 2 u∧zb u=i∧(∀ j,j<i*2→zt s u j=zt s v j)∧FxT s u:=by
 rcases hf with hf | ⟨a,w,len,e0,l,n,gr,mn,f1,f2,rfl,h1,h2⟩
 ·obtain ⟨u,g1,g2,g3,g4,g5⟩:=h.slice hf (lo:=none) (hi:=some (iv k i)) (a:=0) (b:=i) (.inl ⟨rfl,rfl⟩) (.inr ⟨k,rfl⟩) (by omega) hi
  refine ⟨u,fun c=>g1 49 c,g2,by omega,fun j hj=>?_,.inl g5⟩
  have:=g4 j (by omega)
  rwa [Nat.zero_mul,kaF] at this
 ·have hi':i≤len:=hi
  rcases h with (h | ⟨c0,h⟩) | ⟨a',w',o',len',⟨cap,h,g4⟩ | ⟨e',h⟩,hlt,l',n',el,gr',mn',f1',f2',g1,g2,g3⟩
  ·cases h
  ·cases h
  ·cases h
  ·cases h
   rw [h2] at g1
   cases g1
   have hs:i≤(Bool.rec len (Nat.div (Nat.sub n 0) 2) (zq gr (Nat.beq w n)):Nat):=by
    cases hb:zq gr (Nat.beq w n) with
    | false=>exact hi'
    | true =>
     show i≤(n - 0) / 2
     rw [znc,kas] at hb
     have hw:=kaa hb.2
     subst hw
     rcases qG.1 g3 with ⟨-,-,-,q⟩ | ⟨-,q⟩<;>omega
   have key:∀ c:V→A,yg 49 2 (.so a w 0 len e0) none (some (iv k (i:Int))) none s c=c (.so a w 0 i e0):=by
    intro c
    show zY s a _=_
    rw [zK,h2]
    show fN (Bool.rec len (Nat.div (Nat.sub n 0) 2) (zq gr (Nat.beq w n))) _=_
    rw [zH]
    generalize (Bool.rec len (Nat.div (Nat.sub n 0) 2) (zq gr (Nat.beq w n)):Nat)=sure at hs
    show (@Bool.rec (fun _=>A) _ _ (zq (Nat.ble 0 i) (Nat.ble i sure)):A)=_
    rw [show zq (Nat.ble 0 i) (Nat.ble i sure)=true by rw [kap (Nat.zero_le i),kap hs];rfl]
    cases i with
    | zero=>rfl
    | succ i =>
     show fN (Nat.sub (i+1) 0) _=_
     rw [zH]
     show fN (Nat.add e0 0) _=_
     rw [zH]
     show fN (Nat.add 0 (Nat.mul 0 2)) _=_
     rw [zH];rfl
   refine ⟨.so a w 0 i e0,key,.inr ⟨a,w,0,i,.inr ⟨e0,rfl⟩,hlt,l,n,49,gr,mn,f1,f2,h2,g2,?_⟩,rfl,fun j hj=>rfl,.inr ⟨a,w,i,e0,l,n,gr,mn,f1,f2,rfl,h1,h2⟩⟩
   rcases qG.1 g3 with ⟨q1,q2,q3,q4⟩ | ⟨q1,q2⟩
   ·exact qG.2 (.inl ⟨q1,q2,q3,by omega⟩)
   ·exact qG.2 (.inr ⟨q1,by omega⟩)
variable {W:World}
theorem zJw {c:Array Value} {el:TypeId} {fz:Nat × Nat} (h:W.heap[b]?=some (.cells c el fz)):b<W.heap.size∧Tr.get B.none (kOf b) (zpD W).h=.row (c.toList.map (zef W.heap.size)) c.size el false 0 0 c.size:=by
 have hb:b<W.heap.size:=by
  rcases kaq b W.heap.size with g | g
  ·exact g
  ·rw [Array.getElem?_eq_none g] at h;cases h
 refine ⟨hb,?_⟩
 rw [zhq,if_pos hb,h];rfl
theorem zN6 (h:b<W.heap.size):(kOf b).toNat<(zpD W).nx.toNat:=by
 show (kOf b).toNat<(kOf W.heap.size).toNat
 rw [yu,yu];omega
theorem zLs (b o j:Nat):(⟨b,o,none⟩:Addr).add j=⟨b,o+j,none⟩:=by
 unfold Addr.add
 split
 ·rename_i h;subst h;rfl
 ·rfl
theorem zLa {a:Addr} {len cap:Nat} {V:Nat→Value} (hl:len≤cap) (h:∀ j,j<cap*sz→W.cell? (a.add j)=some (V j)) (hsz:0<sz) :
  (Sl (zpD W) sz (zef W.heap.size (.slice (some a) len cap))∧Fx (zef W.heap.size (.slice (some a) len cap)))∧zb (zef W.heap.size (.slice (some a) len cap))=len∧∀ j,j<len*sz→zt (zpD W) (zef W.heap.size (.slice (some a) len cap)) j=zef W.heap.size (V j):=by
 by_cases hc:cap=0
 ·subst hc
  obtain rfl:len=0:=by omega
  exact ⟨⟨.inl (.inr ⟨_,rfl⟩),trivial⟩,rfl,fun j hj=>by omega⟩
 ·have hcs:0<cap*sz:=Nat.mul_pos (by omega) hsz
  obtain ⟨b,off,spot⟩:=a
  have h0:=h 0 hcs
  have hcells:∃ c el fz,W.heap[b]?=some (.cells c el fz)∧spot=none:=by
   have e:((⟨b,off,spot⟩:Addr).add 0).block=b:=rfl
   unfold World.cell? at h0
   rw [e] at h0
   split at h0
   ·rename_i c el fz hc
    refine ⟨c,el,fz,hc,?_⟩
    split at h0
    ·cases h0
    ·rename_i hs
     cases spot with
     | none=>rfl
     | some x=>exact absurd rfl hs
   ·cases h0
  obtain ⟨c,el,fz,hb,rfl⟩:=hcells
  have hat:∀ j,j<cap*sz→c[off+j]?=some (V j):=fun j hj=>by
   have:=h j hj
   rw [zLs] at this
   unfold World.cell? at this
   simp only [hb] at this
   simpa using this
  obtain ⟨hlt,hrow⟩:=zJw hb
  have habs:zef W.heap.size (.slice (some ⟨b,off,none⟩) len cap)=.sl (kOf b) 0 off len cap:=by
   obtain ⟨n,rfl⟩:∃ n,cap=n+1:=⟨cap - 1,by omega⟩
   cases len<;>exact if_pos ⟨hlt,hl⟩
  have hfit:off+cap*sz≤c.size:=by
   have:=hat (cap*sz - 1) (by omega)
   have:=(kaB.1 this).1
   omega
  have hle:len*sz≤cap*sz:=kaL _ hl
  rw [habs]
  refine ⟨⟨.inr ⟨kOf b,0,off,len,.inl ⟨cap,rfl,hl⟩,zN6 hlt,_,_,_,_,_,_,_,hrow,by simp,qG.2 (.inr ⟨rfl,by omega⟩)⟩,trivial⟩,rfl,fun j hj=>?_⟩
  have:=hat j (by omega)
  simp only [zt,hrow,yz]
  rw [kan,kal,kao,this];rfl
variable {H:Type} {enc:TypeId × Value→H}
variable {held:Bool} {y:DataW H × List MemPlace} {fuel:Nat} {e t:TypeId} {x:Value}
theorem zDh (ht:P.underlying t=some (.slice e)) (he:P.underlying e=some (.int .i64)) (hc:P.cellsOf e=1)
  (h:DataW.trod enc P W 0 (fun _=>true) held fuel t [x]=some y):(zZ (zpD W) (zef W.heap.size x)∧Fx (zef W.heap.size x))∧∃ u l c,x=.slice u l c:=by
 rcases Go.ChangeShapes.open_ints ht he hc h with ⟨e1,_⟩ | ⟨a,len,cap,zs,e1,_,hl,hm,hz,_,hcell,_⟩
 ·cases e1
  exact ⟨⟨⟨.inl (.inl rfl),by show (0:Nat)≤_;omega,fun j hj=>by cases hj⟩,trivial⟩,_,_,_,rfl⟩
 ·cases e1
  simp only [if_true] at hz
  obtain ⟨h1,h2,h3⟩:=zLa (W:=W) (a:=a) (sz:=1) (V:=fun j=>.int .i64 (zs.getD j 0)) hl (fun j hj=>hcell j (by omega)) (by omega)
  refine ⟨⟨⟨h1.1,by rw [h2];have:maxLen=9223372036854775807:=rfl;omega,fun j hj=>?_⟩,h1.2⟩,_,_,_,rfl⟩
  rw [h2] at hj
  rw [h3 j (by omega)]
  show iv .i64 _=iv .i64 (toI (iv .i64 _))
  rw [zn]
theorem zOJ {f e':TypeId} {f0 f1:Field} (ht:P.underlying t=some (.slice e)) (he:P.underlying e=some (.struct #[f0,f1]))
  (ce:P.cellsOf e=2) (o0:f0.offset=0) (o1:f1.offset=1) (t0:f0.type=f) (t1:f1.type=f) (cf:P.cellsOf f=1) (hf:P.underlying f=some (.slice e')) (he':P.underlying e'=some (.int .i64)) (hc':P.cellsOf e'=1)
  (h:DataW.trod enc P W 0 (fun _=>true) held fuel t [x]=some y):Tab (zpD W) (zef W.heap.size x)∧∃ u l c,x=.slice u l c:=by
 subst t0
 rcases Go.Deep.open_slice_pairs ht he ce o0 o1 cf (by rw [t1];exact cf) h with ⟨e1,_⟩ | ⟨a,len,cap,m,n,V0,V1,D0,D1,P0,P1,e1,_,hl,hm,hmm,_,hx⟩
 ·cases e1
  exact ⟨⟨.inl (.inl rfl),⟨by show (0:Nat)≤_;omega,.inl trivial⟩,fun j hj=>by cases hj⟩,_,_,_,rfl⟩
 ·cases e1
  simp only [if_true] at hmm
  subst hmm
  obtain ⟨h1,h2,h3⟩:=zLa (W:=W) (a:=a) (sz:=2) (V:=fun j=>if j % 2=0 then V0 (j / 2) else V1 (j / 2)) hl (fun j hj=>by
   obtain ⟨g1,g2,_⟩:=hx (j / 2) (by omega)
   by_cases g:j % 2=0
   ·rw [if_pos g,←g1];congr 2;omega
   ·rw [if_neg g,←g2];congr 2;omega) (by omega)
  refine ⟨⟨h1.1,⟨by rw [h2];have:maxLen=9223372036854775807:=rfl;omega,.inl h1.2⟩,fun j hj=>?_⟩,_,_,_,rfl⟩
  rw [h2] at hj
  obtain ⟨_,_,g3,g4⟩:=hx j (by omega)
  rw [h3 _ (by omega),h3 _ (by omega)]
  simp only [Nat.mul_mod_left,if_true,Nat.mul_div_cancel j (show 0<2 by omega),show (j*2+1) % 2=1 by omega,show (j*2+1) / 2=j by omega,Nat.one_ne_zero,if_false]
  exact ⟨(zDh hf he' hc' g3).1.1,(zDh (by rw [t1];exact hf) he' hc' g4).1.1⟩
theorem zNc {r:Reach} {base:Nat} (ht:P.underlying t=some (.slice e)) (h:Value.okWide P W r base t x):∃ u l c,x=.slice u l c:=by
 unfold Value.okWide at h
 rw [ht] at h
 simp only at h
 unfold Cell.okWide at h
 rw [ht] at h
 simp only at h
 unfold Cell.ok at h
 rw [ht] at h
 cases x<;>first | exact ⟨_,_,_,rfl⟩ | exact h.elim
theorem zOK (hsh:W.ShapedOpen P) (h0:Nat.blt P.globals.size (begin P (fun _ _=>0) default).world.heap.size=true):P.globals.size≤W.heap.size:=by
 have h0:P.globals.size<(begin P (fun _ _=>0) default).world.heap.size:=by simpa [Nat.blt_eq] using h0
 obtain ⟨o,o₀,h1,_⟩:=hsh.2 _ (kab _) h0
 rcases kaq P.globals.size W.heap.size with g | g
 ·omega
 ·rw [Array.getElem?_eq_none g] at h1;cases h1
def qj (s:S) (a:K) (b:B):S:=⟨Tr.set B.none b a s.h,s.nx⟩
theorem zm (s:S) (a c:K) (b:B):Tr.get B.none c (qj s a b).h=if c=a then b else Tr.get B.none c s.h:=get_set _ _ _ _ _
@[simp] theorem zOI (s:S) (a:K) (b:B):(qj s a b).nx=s.nx:=rfl
noncomputable def zcd:List ME→Int→Option V
 | [],_=>none
 | e::l,z=>if toI e.key=z then some e.val else zcd l z
def zg2 (es:List ME):Prop:=∀ e∈es,e.key=iv .i64 (toI e.key)
theorem zp8 (cst:Bool) (a b:Int):eqV ⟨7,[]⟩ cst (iv .i64 a) (iv .i64 b)=some (decide (a=b)):=by
 cases a<;>cases b<;>simp only [iv]
 ·rename_i m n
  show some (Nat.beq m n)=_
  congr 1
  rw [kaJ,Nat.beq_eq];simp;omega
 ·show some false=_
  congr 1
 ·show some false=_
  congr 1
 ·rename_i m n
  show some (Nat.beq m n)=_
  congr 1
  rw [kaJ,Nat.beq_eq];simp
theorem zH6 (z:Int):∀ (es:List ME) (c:Option V→A),zg2 es→zbK ⟨7,[]⟩ (iv .i64 z) es c=c (zcd es z)
 | [],c,_=>rfl
 | e::l,c,h=>by
  show (match eqV ⟨7,[]⟩ false (iv .i64 z) e.key with | some true=>c (some e.val) | some false=>zbK ⟨7,[]⟩ (iv .i64 z) l c | none=>.bad 0)=_
  rw [h e (by simp),zp8]
  by_cases g:z=toI e.key
  ·rw [decide_eq_true g];simp [zcd,g]
  ·rw [decide_eq_false g];show zbK _ _ l c=_
   rw [zH6 z l c (fun x hx=>h x (by simp [hx]))]
   simp only [zcd];rw [if_neg (fun h=>g h.symm)]
variable {es:List ME} {ck:Nat}
theorem zBQ (hg:Tr.get B.none a s.h=.map es ck) (hk:zg2 es) (zero:V) (z:Int) (c:V→A) :
  z4 ⟨7,[]⟩ zero false (.ref 0 a) (iv .i64 z) s c=c ((zcd es z).getD zero):=by
 show zY s a _=_
 rw [zK,hg]
 show zbK ⟨7,[]⟩ (iv .i64 z) es (fun r=>zvP zero false r c)=_
 rw [zH6 z es _ hk]
 cases zcd es z<;>rfl
theorem zJm (z:Int) (val:V) (ck:Nat):∀ (es:List ME),zg2 es→∃ b es',(∀ c:Bool→List ME→A,zjR ⟨7,[]⟩ (iv .i64 z) val ck es c=c b es')∧zg2 es'∧∀ y,zcd es' y=if y=z then some val else zcd es y
 | [],_=>⟨true,[⟨iv .i64 z,val,ck⟩],fun _=>rfl,fun e he=>by simp at he;subst he;rw [zn],fun y=>by
   simp only [zcd];rw [zn];by_cases g:y=z
   ·rw [if_pos g,if_pos g.symm]
   ·rw [if_neg g,if_neg (fun h=>g h.symm)]⟩
 | e::l,h=>by
  obtain ⟨b,es',h1,h2,h3⟩:=zJm z val ck l (fun x hx=>h x (by simp [hx]))
  have hu:∀ c:Bool→List ME→A,zjR ⟨7,[]⟩ (iv .i64 z) val ck (e::l) c=(match eqV ⟨7,[]⟩ false (iv .i64 z) e.key with | some true=>c false (⟨iv .i64 z,val,e.born⟩::l) | some false=>zjR ⟨7,[]⟩ (iv .i64 z) val ck l (fun b l=>c b (e::l)) | none=>.bad 0):=fun _=>rfl
  by_cases g:z=toI e.key
  ·refine ⟨false,⟨iv .i64 z,val,e.born⟩::l,fun c=>by rw [hu,h e (by simp),zp8,decide_eq_true g],?_,fun y=>?_⟩
   ·intro x hx
    simp at hx
    rcases hx with rfl | hx
    ·show iv .i64 z=iv .i64 (toI (iv .i64 z));rw [zn]
    ·exact h x (by simp [hx])
   ·simp only [zcd];rw [zn,←g]
    by_cases g':z=y
    ·rw [if_pos g',if_pos g'.symm]
    ·rw [if_neg g',if_neg (fun h=>g' h.symm),if_neg g']
  ·refine ⟨b,e::es',fun c=>by rw [hu,h e (by simp),zp8,decide_eq_false g];exact h1 _,?_,fun y=>?_⟩
   ·intro x hx
    simp at hx
    rcases hx with rfl | hx
    ·exact h _ (by simp)
    ·exact h2 x hx
   ·simp only [zcd,h3]
    by_cases g':toI e.key=y
    ·rw [if_pos g',if_pos g',if_neg (fun h=>g (h.symm.trans g'.symm))]
    ·rw [if_neg g',if_neg g']
theorem zKB (hg:Tr.get B.none a s.h=.map es ck) (hk:zg2 es) (z:Int) (val:V) :
  ∃ es' ck',(∀ k:V→S→A,qw ⟨7,[]⟩ (.ref 0 a) (iv .i64 z) val s k=k undef (qj s a (.map es' ck')))∧zg2 es'∧∀ y,zcd es' y=if y=z then some val else zcd es y:=by
 obtain ⟨b,es',h1,h2,h3⟩:=zJm z val ck es hk
 refine ⟨es',Bool.rec (motive:=fun _=>Nat) ck (Nat.succ ck) b,fun k=>?_,h2,h3⟩
 show zY s a _=_
 rw [zK,hg]
 show zjR ⟨7,[]⟩ (iv .i64 z) val ck es _=_
 rw [h1,zH,qp];rfl
variable {el:Nat}
theorem zan (hg:Tr.get B.none a s.h=.row l n el false 0 0 0) (o:Nat) (x:V) (hx:∀ c:List V→A,zp 1 x c=c [x]) (ho:o<n) (k:V→S→A) :
  zJ 1 (.ptr a 0 o) x s k=k undef (qj s a (.row (upd [x] o l) n el false 0 0 0)):=by
 show zp 1 x (fun l=>qf s a 0 o 1 l (fun s=>k undef s))=_
 rw [hx]
 unfold qf
 rw [zK,hg]
 show (@Bool.rec (fun _=>A) _ _ (zfA n false 0 o (Nat.add o 1) 0 0):A)=_
 rw [show zfA n false 0 o (Nat.add o 1) 0 0=true by
  show (@Bool.rec (fun _=>Bool) _ _ (Nat.ble (Nat.add o 1) n):Bool)=_
  rw [show Nat.ble (Nat.add o 1) n=true from kap (by show o+1≤n;omega)];rfl]
 show qY [x] o l _=_
 rw [zdp,qp];rfl
theorem zw (hg:Tr.get B.none a s.h=.row l n el false 0 0 0) (o:Nat) (hn:l.length=n) (ho:o<n) (hx:l.getD o .bad≠.bad) (k:V→S→A):zd false 1 (.ptr a 0 o) s k=k (l.getD o .bad) s:=by
 have:Pt s (.ptr a 0 o) 1 (fun j=>l.getD (o+j) .bad):=⟨a,0,o,l,n,el,false,0,0,0,rfl,hg,hn,qG.2 (.inr ⟨rfl,by omega⟩),fun j _=>rfl⟩
 exact this.load1 (by omega) hx k
def Gr (b s:S) (v:V):Prop:=(v=.nil 1∨∃ a,v=.sl a 0 0 0 0∧a.toNat<s.nx.toNat∧Tr.get B.none a s.h=.row [] 0 3 false 0 0 0)∨∃ a n l,v=.so a n 0 n 0∧b.nx.toNat≤a.toNat∧a.toNat<s.nx.toNat∧(∃ mn,mn≤n∧Tr.get B.none a s.h=.row l n 3 true mn 0 0)∧l.length=n∧∀ x∈l,x=iv .i64 (toI x)
variable {b:S}
theorem Gr.sl (h:Gr b s v):Sl s 1 v:=by
 rcases h with (rfl | ⟨a,rfl,h1,h2⟩) | ⟨a,n,l,rfl,h1,h2,⟨mn,h3,h4⟩,h5,h6⟩
 ·exact .inl (.inl rfl)
 ·exact .inr ⟨a,0,0,0,.inl ⟨0,rfl,kab _⟩,h1,_,_,_,_,_,_,_,h2,rfl,qG.2 (.inr ⟨rfl,kab _⟩)⟩
 ·exact .inr ⟨a,n,0,n,.inr ⟨0,rfl⟩,h2,l,n,3,true,mn,0,0,h4,h5,qG.2 (.inl ⟨rfl,h3,by omega,by omega⟩)⟩
theorem Gr.ints (h:Gr b s v) (hl:zb v≤9223372036854775807):zZ s v:=by
 refine ⟨h.sl,hl,fun j hj=>?_⟩
 rcases h with (rfl | ⟨a,rfl,h1,h2⟩) | ⟨a,n,l,rfl,h1,h2,⟨mn,h3,h4⟩,h5,h6⟩
 ·cases hj
 ·cases hj
 ·have hj':j<l.length:=by rw [h5];exact hj
  simp only [zt,h4,yz,kaF]
  rw [kan,kac hj']
  exact h6 _ (kaI hj')
theorem Gr.ext (h:Gr b s v) (e:Ext s s'):Gr b s' v:=by
 rcases h with (rfl | ⟨a,rfl,h1,h2⟩) | ⟨a,n,l,rfl,h1,h2,⟨mn,h3,h4⟩,h5,h6⟩
 ·exact .inl (.inl rfl)
 ·exact .inl (.inr ⟨a,rfl,kaf h1 e.nx,(e.get a h1).trans h2⟩)
 ·exact .inr ⟨a,n,l,rfl,h1,kaf h2 e.nx,⟨mn,h3,(e.get a h2).trans h4⟩,h5,h6⟩
theorem Gr.wordE (h4:Tr.get B.none a s.h=.row l n 3 true mn 0 0) (h5:l.length=n):word s (.so a n 0 n 0)=l.map toI:=by
 apply kaG
 intro i
 by_cases hi:i<n
 ·rw [yb (by exact hi)]
  rw [kal,kac (by omega)]
  simp [qi,zt,h4,yz,kac (show i<l.length by omega)]
 ·rw [kau (by simp [zb];omega),kau (by simp;omega)]
theorem zAa {y:V} (h:zZ s y) (c:Nat→List V→A):qy 1 y s c=c (zb y) ((word s y).map (iv .i64)):=by
 have hw:(word s y).map (iv .i64)=(List.range (zb y)).map (zt s y):=by
  unfold word
  rw [List.map_map]
  apply kaO
  intro j hj
  have:=h.2.2 j (by simpa using hj)
  show iv .i64 (toI (zt s y j))=_
  exact this.symm
 have hne:∀ j,j<zb y→zt s y j≠.bad:=fun j hj=>by rw [h.2.2 j hj];exact yN _ _
 rw [hw]
 have run:∀ (a:K) (w o len:Nat) (l:List V) (n el:Nat) (gr:Bool) (mn f1 f2:Nat),Tr.get B.none a s.h=.row l n el gr mn f1 f2→l.length=n→j9 n gr mn w (o+len*1)=true→(∀ j,zt s y j=l.getD (o+j) .bad)→zb y=len →
   zM s a w o (Nat.mul len 1) (fun l=>c len l)=c len ((List.range len).map (zt s y)):=by
  intro a w o len l n el gr mn f1 f2 g1 g2 g3 g4 g5
  subst g5
  have hn:=zJx g3
  unfold zM
  rw [zK,g1]
  show (@Bool.rec (fun _=>A) _ _ (j9 n gr mn w (Nat.add o (Nat.mul (zb y) 1))):A)=_
  rw [show j9 n gr mn w (Nat.add o (Nat.mul (zb y) 1))=true from g3]
  show zeQ o l _=_
  have e:=zpj (l:=l) (o:=o) (sz:=zb y) (f:=zt s y) (by omega) (fun j _=>(g4 j).symm)
  rw [wv]
  show zlN (zb y*1) _ _=_
  rw [kaK,ze1 _ _ _ (by rw [e];intro x hx;simp at hx;obtain ⟨j,hj,rfl⟩:=hx;exact hne j hj),e]
 rcases h.1 with (rfl | ⟨c0,rfl⟩) | ⟨a,w,o,len,⟨cap,rfl,_⟩ | ⟨e,rfl⟩,_,l,n,el,gr,mn,f1,f2,g1,g2,g3⟩
 ·rfl
 ·rfl
 ·exact run a w o len l n el gr mn f1 f2 g1 g2 g3 (fun j=>by simp [zt,g1,yz]) rfl
 ·exact run a w o len l n el gr mn f1 f2 g1 g2 g3 (fun j=>by simp [zt,g1,yz]) rfl
theorem zgc (s:S) (l:List V) (need:Nat) (hn:need≤68719476736) (hl:l.length=need) (k:V→S→A):yF s 3 l need k=k (.so s.nx need 0 need 0) (zN s (.row l need 3 true 0 0 0)):=by
 show (@Bool.rec (fun _=>A) _ _ (Nat.ble need 68719476736):A)=_
 rw [kap hn]
 show Go.Ev.newRow s 3 l true (fun a n s=>k (.so a n 0 need 0) s)=_
 rw [zo,hl]
theorem Gr.append (h:Gr b s v) (hb:Ext b s) (new:List Int) (hlim:zb v+new.length≤68719476736) :
  ∃ v' s',(∀ k:V→S→A,jL 3 1 v new.length (new.map (iv .i64)) s k=k v' s')∧Ext b s'∧Gr b s' v'∧word s' v'=word s v++new∧s.nx.toNat≤s'.nx.toNat:=by
 by_cases h0:new=[]
 ·subst h0
  refine ⟨v,s,fun k=>?_,hb,h,by simp,kab _⟩
  rcases h with (rfl | ⟨a,rfl,_⟩) | ⟨a,n,l,rfl,_⟩<;>rfl
 ·have hpos:0<new.length:=Nat.pos_of_ne_zero (fun h=>h0 (kaw.1 h))
  have hne:Nat.beq new.length 0=false:=by
   cases e:Nat.beq new.length 0 with
   | true=>have:=kaa e;omega
   | false=>rfl
  have hiv:∀ x∈new.map (iv .i64),x=iv .i64 (toI x):=fun x hx=>by
   obtain ⟨z,_,rfl⟩:=kav.1 hx
   rw [zn]
  have htoI:(new.map (iv .i64)).map toI=new:=by
   rw [List.map_map]
   conv=>rhs;rw [←List.map_id new]
   exact kaO fun z _=>zn _ _
  rcases h with (rfl | ⟨a,rfl,h1,h2⟩) | ⟨a,n,l,rfl,h1,h2,⟨mn,h3,h4⟩,h5,h6⟩
  ·refine ⟨.so s.nx new.length 0 new.length 0,zN s (.row (new.map (iv .i64)) new.length 3 true 0 0 0),fun k=>?_,hb.trans (zO _ _),.inr ⟨s.nx,new.length,new.map (iv .i64),rfl,hb.nx,?_,⟨0,Nat.zero_le _,zx _ _⟩,by simp,hiv⟩,?_,(zO _ _).nx⟩
   ·show (@Bool.rec (fun _=>A) _ _ (Nat.beq new.length 0):A)=_
    rw [hne]
    show yF s 3 _ _ k=_
    rw [zgc _ _ _ (by have:zb (.nil 1)=0:=rfl;omega) (by simp)]
   ·show s.nx.toNat<s.nx.succ.toNat
    rw [K.toNat_succ];omega
   ·rw [Gr.wordE (zx _ _) (by simp),htoI];rfl
  ·have hle:new.length≤68719476736:=by have:zb (.sl a 0 0 0 0)=0:=rfl;omega
   refine ⟨.so s.nx new.length 0 new.length 0,zN s (.row (new.map (iv .i64)) new.length 3 true 0 0 0),fun k=>?_,hb.trans (zO _ _),.inr ⟨s.nx,new.length,new.map (iv .i64),rfl,hb.nx,?_,⟨0,Nat.zero_le _,zx _ _⟩,by simp,hiv⟩,?_,(zO _ _).nx⟩
   ·show (@Bool.rec (fun _=>A) _ _ (Nat.beq new.length 0):A)=_
    rw [hne]
    show fN (Nat.add 0 new.length) _=_
    rw [zH]
    have e0:Nat.add 0 new.length=new.length:=kaF _
    show (@Bool.rec (fun _=>A) (zM s a 0 0 0 (fun old=>zah old (new.map (iv .i64)) fun l=>yF s 3 l (Nat.add 0 new.length) k)) _ (Nat.ble (Nat.add 0 new.length) 0):A)=_
    rw [e0,show Nat.ble new.length 0=false by
     cases e:Nat.ble new.length 0 with
     | true=>have:=kaM e;omega
     | false=>rfl]
    show zM s a 0 0 0 _=_
    unfold zM
    rw [zK,h2]
    show yF s 3 (new.map (iv .i64)) new.length k=_
    rw [zgc _ _ _ hle (by simp)]
   ·show s.nx.toNat<s.nx.succ.toNat
    rw [K.toNat_succ];omega
   ·rw [Gr.wordE (zx _ _) (by simp),htoI];rfl
  ·have hl':zb (.so a n 0 n 0)=n:=rfl
   rw [hl'] at hlim
   have hstate:∀ k:V→S→A,jL 3 1 (.so a n 0 n 0) new.length (new.map (iv .i64)) s k=k (.so a (n+new.length) 0 (n+new.length) 0) (qj s a (.row (l++new.map (iv .i64)) (n+new.length) 3 true mn 0 0)):=by
    intro k
    show (@Bool.rec (fun _=>A) _ _ (Nat.beq new.length 0):A)=_
    rw [hne]
    show fN (Nat.add n new.length) _=_
    rw [zH]
    show zY s a _=_
    rw [zK,h4]
    show fN (Nat.add 0 (Nat.mul n 1)) _=_
    rw [zH]
    show (@Bool.rec (fun _=>A) _ _ (zq (Nat.beq n n) (Nat.ble (Nat.add (Nat.add 0 (Nat.mul n 1)) (Nat.mul new.length 1)) n)):A)=_
    have e0:Nat.add 0 (Nat.mul n 1)=n:=by show 0+n*1=n;omega
    rw [e0,show Nat.beq n n=true from kay n,show Nat.ble (Nat.add n (Nat.mul new.length 1)) n=false by
     cases e:Nat.ble (Nat.add n (Nat.mul new.length 1)) n with
     | true=>have:=kaM e;have e2:Nat.add n (Nat.mul new.length 1)=n+new.length*1:=rfl;omega
     | false=>rfl]
    show (@Bool.rec (fun _=>A) _ _ (Nat.ble (Nat.add n new.length) 68719476736):A)=_
    rw [show Nat.ble (Nat.add n new.length) 68719476736=true from kap hlim]
    show zah l (new.map (iv .i64)) _=_
    rw [yf,zH,qp]
    show k (.so a (n+new.length*1) 0 (n+new.length) 0) ⟨Tr.set B.none (.row _ (n+new.length*1) 3 true mn 0 0) a s.h,s.nx⟩=_
    rw [kaK];rfl
   refine ⟨_,_,hstate,⟨hb.nx,fun x hx=>?_⟩,.inr ⟨a,n+new.length,l++new.map (iv .i64),rfl,h1,h2,⟨mn,by omega,?_⟩,by simp [h5],?_⟩,?_,kab _⟩
   ·rw [zm,if_neg (fun e=>by rw [e] at hx;omega)];exact hb.get x hx
   ·rw [zm,if_pos rfl]
   ·intro x hx
    rcases kak.1 hx with hx | hx
    ·exact h6 x hx
    ·exact hiv x hx
   ·rw [Gr.wordE (mn:=mn) (by rw [zm,if_pos rfl]) (by simp [h5]),Gr.wordE h4 h5,kaE,htoI]
theorem Gr.app {y:V} (h:Gr b s v) (hb:Ext b s) (hy:zZ s y) (hlim:zb v+zb y≤68719476736) :
  ∃ v' s',(∀ k:V→S→A,zP 3 1 v y s k=k v' s')∧Ext b s'∧Gr b s' v'∧word s' v'=word s v++word s y∧s.nx.toNat≤s'.nx.toNat:=by
 obtain ⟨v',s',h1,h2⟩:=h.append hb (word s y) (by rw [zA];exact hlim)
 refine ⟨v',s',fun k=>?_,h2⟩
 show qy 1 y s _=_
 rw [zAa hy]
 have:=h1 k
 rwa [zA] at this
theorem zZ.slice (h:zZ s v) (hf:Fx v) {a b:Nat} (h1:bnd lo 0 a) (h2:bnd hi (zb v) b) (hab:a≤b) (hb:b≤zb v) :
  ∃ u,(∀ el c,yg el 1 v lo hi none s c=c u)∧zZ s u∧Fx u∧zb u=b - a∧Go.Ev.word s u=((Go.Ev.word s v).drop a).take (b - a):=by
 obtain ⟨u,g1,g2,g3,g4,g5⟩:=h.1.slice hf h1 h2 hab hb
 have g4':∀ j,j<b - a→zt s u j=zt s v (a+j):=fun j hj=>by
  have:=g4 j (by omega)
  rwa [kaK] at this
 refine ⟨u,g1,⟨g2,by rw [g3];have:=h.2.1;omega,fun j hj=>?_⟩,g5,g3,?_⟩
 ·rw [g3] at hj
  rw [g4' j hj]
  exact h.2.2 _ (by omega)
 ·apply kaG
  intro i
  by_cases hi:i<b - a
  ·rw [yb (by rw [g3];exact hi),List.getElem?_take_of_lt hi,List.getElem?_drop,yb (by omega)]
   unfold qi;rw [g4' i hi]
  ·rw [kau (by simp [g3];omega),kau (by simp;omega)]
@[simp] theorem zOc (a:V) (l:List V) (c:V→A):zU 0 (.ls 1 (a::l)) c=c a:=rfl
@[simp] theorem zOi (a b:V) (l:List V) (c:V→A):zU 1 (.ls 1 (a::b::l)) c=c b:=rfl
theorem zcp:zb v=(word s v).length:=(zA s v).symm
@[simp] theorem zLz (s:S) (b:B) (c:K→S→A):jU s b c=c s.nx (zN s b):=zdy s b c
theorem qR (n:Nat) (l:List V) (h:l.length=n) (c:List V→A):zp n (.ls 0 l) c=c l:=by
 show zfz l (fun m=>@Bool.rec (fun _=>A) _ _ (Nat.beq m n))=_
 rw [jn,h,show Nat.beq n n=true from kay n]
@[simp] theorem zdA (t:Nat) (a:K) (c:List V→A):zp 1 (.ref t a) c=c [.ref t a]:=rfl
theorem zc7 (a:K) (v o:Nat) (c:List V→A):zp 1 (.ptr a v o) c=c [.ptr a v o]:=rfl
@[simp] theorem zOh (off : Nat) (a : K) (v o : Nat) (c : V → A) : zf off (.ptr a v o) c = c (.ptr a v (o + off)) := by
  show fN (Nat.add o off) (fun o => c (V.ptr a v o)) = _
  rw [zH]; rfl
@[simp] theorem zMM (a:K) (v o:Nat) (c:V→A):zB (.ptr a v o) c=c (.ptr a v o):=rfl
theorem jr (cst:Bool) (a:K) (v o:Nat) (c:V→A):zk ⟨1,[]⟩ cst .eql (.ptr a v o) (.nil 0) c=c (.bool false):=rfl
theorem zbN (cst:Bool) (c:V→A):zk ⟨1,[]⟩ cst .eql (.nil 0) (.nil 0) c=c (.bool true):=rfl
theorem zjx (a:K):K.beq a a=true:=by
 induction a with
 | h=>rfl
 | o p ih=>exact ih
 | i p ih=>exact ih
theorem zDR (a:K) (t:Nat):yS (.ref t a) (.ref t a)=true:=by
 show zq (Nat.beq t t) (K.beq a a)=true
 rw [zjx,kay];rfl
section
variable (q:EK) (cst:Bool) (k:IntKind) (c:V→A)
end
variable {n:Nat}
theorem zqz (k j:IntKind) (h:n<lim k) (c:V→A):yL k (iv j (n:Int)) c=c (iv k (n:Int)):=by
 show zmV k n c=_
 rw [zaL,zax h];rfl
theorem zDS {β:Type} (d:β):∀ (i:Nat) (l:List Nat) (c:Nat→β),i<l.length→zAA i l c d=c (l.getD i 0)
 | 0,[],_,h=>by cases h
 | 0,x::l,c,_=>rfl
 | n+1,[],_,h=>by cases h
 | n+1,x::l,c,h=>by
  show zAA n l c d=_
  rw [zDS d n l c (by simpa using h)];rfl
variable {i:Nat}
theorem zND (l:List Nat) (k:IntKind) (h:i<l.length) (c:V→A):zhQ (.str l) (iv k (i:Int)) c=c (iv .u8 (l.getD i 0:Nat)):=by
 show zAA i l (fun b=>c (.nat .u8 b)) eA=_
 rw [zDS _ i l _ h];rfl
theorem zCR (l:List Nat) {lo hi:Option V} {a b:Nat} (h1:bnd lo 0 a) (h2:bnd hi l.length b) (hab:a≤b) (hb:b≤l.length) (c:V→A):zam (.str l) lo hi c=c (.str ((l.drop a).take (b - a))):=by
 show zfz l (fun n=>yD lo 0 fun a=>yD hi n fun b=>(@Bool.rec (fun _=>A) eA (zeQ a l (fun l=>zDr (Nat.sub b a) l fun l=>c (.str l))) (zq (Nat.ble a b) (Nat.ble b n))))=_
 rw [jn,h1.run,h2.run]
 rw [show Nat.ble a b=true from kap hab,show Nat.ble b l.length=true from kap hb]
 show zeQ a l _=_
 rw [wv,ziJ];rfl
def zN7 (b:Nat):Nat:=if b<128 then 240 else if b<194 then 241 else if b<224 then 2 else if b=224 then 19 else if b<237 then 3 else if b=237 then 35 else if b<240 then 3 else if b=240 then 52 else if b<244 then 4 else if b=244 then 68 else 241
def zNF:List Nat:=(List.range 256).map zN7
def zOT:List Nat:=[128,191,160,191,128,159,144,191,128,143]++List.replicate 22 0
def zO0:List Nat:=(List.range 20).map (10 ^ ·)
structure Tabs (s:S):Prop where
 first:∃ el f2,Tr.get B.none (.o .h) s.h=.row (zNF.map fun n:Nat=>iv .u8 (n:Int)) 256 el false 0 0 f2
 acc:∃ el f2,Tr.get B.none (.i .h) s.h=.row (zOT.map fun n:Nat=>iv .u8 (n:Int)) 32 el false 0 0 f2
 pow:∃ el f2,Tr.get B.none .h s.h=.row (zO0.map fun n:Nat=>iv .u64 (n:Int)) 20 el false 0 0 f2
 nx:3<s.nx.toNat
variable {s s':S}
theorem Tabs.ext (h:Tabs s) (e:Ext s s'):Tabs s':=by
 obtain ⟨⟨el,f2,h1⟩,⟨el',f2',h2⟩,⟨el'',f2'',h4⟩,h3⟩:=h
 exact ⟨⟨el,f2,(e.get _ (by show 2<_;omega)).trans h1⟩,⟨el',f2',(e.get _ (by show 3<_;omega)).trans h2⟩,⟨el'',f2'',(e.get _ (by show 1<_;omega)).trans h4⟩,kaf h3 e.nx⟩
def zC:V→Option K
 | .so a _ _ _ _=>some a
 | .sl a _ _ _ _=>some a
 | .ptr a _ _=>some a
 | .ref _ a=>some a
 | _=>none
def Gz (el sz:Nat) (b s:S) (v:V) (l:List (List V)):Prop:=(v=.nil 1∧l=[])∨∃ a mn,v=.so a (l.length*sz) 0 l.length 0∧b.nx.toNat≤a.toNat∧a.toNat<s.nx.toNat∧(0<l.length∧mn≤l.length*sz)∧Tr.get B.none a s.h=.row l.flatten (l.length*sz) el true mn 0 0∧∀ x∈l,x.length=sz
variable {l:List (List V)} {el sz:Nat} {b:S} {v:V}
theorem Gz.ext (h:Gz el sz b s v l) (e:Ext s s'):Gz el sz b s' v l:=by
 rcases h with h | ⟨a,mn,rfl,h1,h2,h3,h4,h5⟩
 ·exact .inl h
 ·exact .inr ⟨a,mn,rfl,h1,kaf h2 e.nx,h3,(e.get a h2).trans h4,h5⟩
theorem Gz.blk (h:Gz el sz b s v l) {c:K} (hc:zC v=some c):b.nx.toNat≤c.toNat∧c.toNat<s.nx.toNat:=by
 rcases h with ⟨rfl,rfl⟩ | ⟨a,mn,rfl,h1,h2,h3,h4,h5⟩
 ·cases hc
 ·cases hc;exact ⟨h1,h2⟩
theorem Gz.keep (h:Gz el sz b s v l) (hn:s.nx.toNat≤s'.nx.toNat) (hk:∀ c,zC v=some c→Tr.get B.none c s'.h=Tr.get B.none c s.h):Gz el sz b s' v l:=by
 rcases h with h | ⟨a,mn,rfl,h1,h2,h3,h4,h5⟩
 ·exact .inl h
 ·exact .inr ⟨a,mn,rfl,h1,by omega,h3,(hk a rfl).trans h4,h5⟩
theorem Gz.len (h:Gz el sz b s v l) (c:V→A):zz v c=c (iv .i64 (l.length:Int)):=by
 rcases h with ⟨rfl,rfl⟩ | ⟨a,mn,rfl,h1,h2,h3,h4,h5⟩<;>rfl
theorem zcj {sz:Nat}:∀ {l:List (List V)},(∀ x∈l,x.length=sz)→l.flatten.length=l.length*sz
 | [],_=>by simp
 | x::l,h=>by
  rw [List.flatten_cons,kah,zcj (l:=l) fun y hy=>h y (by simp [hy]),h x (by simp),kaH,Nat.add_mul];omega
theorem zrJ {sz:Nat}:∀ {l:List (List V)},(∀ x∈l,x.length=sz)→∀ {i j:Nat},i<l.length→j<sz→l.flatten.getD (i*sz+j) .bad=(l.getD i []).getD j .bad
 | [],_,_,_,hi,_=>by cases hi
 | x::l,h,0,j,_,hj=>by
  have hx:=h x (by simp)
  rw [List.flatten_cons,kan,kam (by omega),Nat.zero_mul,kaF]
  rw [←kan];rfl
 | x::l,h,i+1,j,hi,hj=>by
  have hx:=h x (by simp)
  have:=zrJ (l:=l) (fun y hy=>h y (by simp [hy])) (i:=i) (j:=j) (by simpa using hi) hj
  rw [List.flatten_cons,kan,kax (by rw [hx,Nat.add_mul];omega),hx,show (i+1)*sz+j - sz=i*sz+j by rw [Nat.add_mul];omega,←kan,this];rfl
theorem Gz.sl (h:Gz el sz b s v l):Sl s sz v∧zb v=l.length∧∀ i j,i<l.length→j<sz→zt s v (i*sz+j)=(l.getD i []).getD j .bad:=by
 rcases h with ⟨rfl,rfl⟩ | ⟨a,mn,rfl,h1,h2,h3,h4,h5⟩
 ·exact ⟨.inl (.inl rfl),rfl,fun i j hi=>by cases hi⟩
 ·refine ⟨.inr ⟨a,_,0,l.length,.inr ⟨0,rfl⟩,h2,_,_,el,true,mn,0,0,h4,zcj h5,qG.2 (.inl ⟨rfl,h3.2,kab _,by omega⟩)⟩,rfl,fun i j hi hj=>?_⟩
  rw [←zrJ h5 hi hj]
  simp [zt,h4,yz]
theorem zjV (s:S) (el:Nat) (l:List V) (need:Nat) (hn:need≤68719476736) (k:V→S→A):yF s el l need k=k (.so s.nx l.length 0 need 0) (zN s (.row l l.length el true 0 0 0)):=by
 show (@Bool.rec (fun _=>A) _ _ (Nat.ble need 68719476736):A)=_
 rw [kap hn]
 show Go.Ev.newRow s el l true (fun a n s=>k (.so a n 0 need 0) s)=_
 rw [zo]
theorem Gz.append (h:Gz el sz b s v l) (hb:b.nx.toNat≤s.nx.toNat) (hsz:0<sz) (new:List (List V)) (jU:∀ x∈new,x.length=sz) (hlim:l.length+new.length≤68719476736) :
  ∃ v' s',(∀ k:V→S→A,jL el sz v new.length new.flatten s k=k v' s')∧Gz el sz b s' v' (l++new)∧s.nx.toNat≤s'.nx.toNat ∧
   (∀ c,c.toNat<s.nx.toNat→zC v≠some c→Tr.get B.none c s'.h=Tr.get B.none c s.h)∧(zC v'=zC v∨∀ c,zC v'=some c→s.nx.toNat≤c.toNat):=by
 by_cases h0:new=[]
 ·subst h0
  refine ⟨v,s,fun k=>?_,by simpa using h,kab _,fun _ _ _=>rfl,.inl rfl⟩
  rcases h with ⟨rfl,rfl⟩ | ⟨a,mn,rfl,_⟩<;>rfl
 ·have hpos:0<new.length:=Nat.pos_of_ne_zero (fun h=>h0 (kaw.1 h))
  have hne:Nat.beq new.length 0=false:=by
   cases e:Nat.beq new.length 0 with
   | true=>have:=kaa e;omega
   | false=>rfl
  have hfl:=zcj jU
  rcases h with ⟨rfl,rfl⟩ | ⟨a,mn,rfl,h1,h2,h3,h4,h5⟩
  ·refine ⟨.so s.nx (new.length*sz) 0 new.length 0,zN s (.row new.flatten (new.length*sz) el true 0 0 0),fun k=>?_,.inr ⟨s.nx,0,rfl,hb,?_,⟨hpos,Nat.zero_le _⟩,by rw [zx];rfl,jU⟩,(zO _ _).nx,fun c hc _=>(zO _ _).get c hc,.inr fun c hc=>by cases hc;exact kab _⟩
   ·show (@Bool.rec (fun _=>A) _ _ (Nat.beq new.length 0):A)=_
    rw [hne]
    show yF s el _ _ k=_
    rw [zjV _ _ _ _ (by have:([]:List (List V)).length=0:=rfl;omega),hfl]
   ·show s.nx.toNat<s.nx.succ.toNat
    rw [K.toNat_succ];omega
  ·have hstate:∀ k:V→S→A,jL el sz (.so a (l.length*sz) 0 l.length 0) new.length new.flatten s k=k (.so a (l.length*sz+new.length*sz) 0 (l.length+new.length) 0) (qj s a (.row (l.flatten++new.flatten) (l.length*sz+new.length*sz) el true mn 0 0)):=by
    intro k
    have hmul:0<new.length*sz:=Nat.mul_pos hpos hsz
    show (@Bool.rec (fun _=>A) _ _ (Nat.beq new.length 0):A)=_
    rw [hne]
    show fN (Nat.add l.length new.length) _=_
    rw [zH]
    show zY s a _=_
    rw [zK,h4]
    show fN (Nat.add 0 (Nat.mul l.length sz)) _=_
    rw [zH]
    show (@Bool.rec (fun _=>A) _ _ (zq (Nat.beq el el) true):A)=_
    rw [show Nat.beq el el=true from kay el]
    show (@Bool.rec (fun _=>A) _ _ (zq (Nat.beq (l.length*sz) (l.length*sz)) (Nat.ble (Nat.add (Nat.add 0 (Nat.mul l.length sz)) (Nat.mul new.length sz)) (l.length*sz))):A)=_
    have e0:Nat.add 0 (Nat.mul l.length sz)=l.length*sz:=by show 0+l.length*sz=_;omega
    rw [e0,show Nat.beq (l.length*sz) (l.length*sz)=true from kay _,show Nat.ble (Nat.add (l.length*sz) (Nat.mul new.length sz)) (l.length*sz)=false by
     cases e:Nat.ble (Nat.add (l.length*sz) (Nat.mul new.length sz)) (l.length*sz) with
     | true=>have:=kaM e;have e2:Nat.add (l.length*sz) (Nat.mul new.length sz)=l.length*sz+new.length*sz:=rfl;omega
     | false=>rfl]
    show (@Bool.rec (fun _=>A) _ _ (Nat.ble (Nat.add l.length new.length) 68719476736):A)=_
    rw [show Nat.ble (Nat.add l.length new.length) 68719476736=true from kap (by show l.length+new.length≤_;omega)]
    show zah l.flatten new.flatten _=_
    rw [yf,zH,qp];rfl
   refine ⟨_,_,hstate,.inr ⟨a,mn,by rw [kah,Nat.add_mul],h1,h2,⟨by rw [kah];omega,by rw [kah,Nat.add_mul];omega⟩,?_,fun x hx=>?_⟩,kab _,fun c hc hne=>?_,.inl rfl⟩
   ·rw [zm,if_pos rfl,List.flatten_append,kah,Nat.add_mul]
   ·rcases kak.1 hx with h | h
    ·exact h5 x h
    ·exact jU x h
   ·rw [zm,if_neg (fun e=>hne (by rw [e];rfl))]
variable {x:List V}
theorem zNf (el sz:Nat) (hx:∀ y∈x,y≠.bad) (hl:x.length=sz) (c:Nat→List V→A):qy sz (.sl s.nx 0 0 1 1) (zN s (.row x sz el false 0 0 0)) c=c 1 x:=by
 show zM _ s.nx 0 0 (Nat.mul 1 sz) _=_
 unfold zM
 rw [zK,zx]
 have e1:Nat.mul 1 sz=sz:=Nat.one_mul sz
 show (@Bool.rec (fun _=>A) _ _ (j9 sz false 0 0 (Nat.add 0 (Nat.mul 1 sz))):A)=_
 rw [e1,show j9 sz false 0 0 (Nat.add 0 sz)=true from qG.2 (.inr ⟨rfl,by show 0+sz≤sz;omega⟩)]
 show zeQ 0 x _=_
 rw [wv]
 show zlN sz _ _=_
 have e:(x.drop 0).take sz=x:=by rw [List.drop_zero,List.take_of_length_le (by omega)]
 rw [ze1 _ _ _ (by rw [e];exact hx),e]
theorem Gz.app1 (h:Gz el sz b s v l) (hb:b.nx.toNat≤s.nx.toNat) (hsz:0<sz) (hx:∀ y∈x,y≠.bad) (hl:x.length=sz) (hlim:l.length+1≤68719476736) :
  ∃ v' s',(∀ k:V→S→A,zP el sz v (.sl s.nx 0 0 1 1) (zN s (.row x sz el false 0 0 0)) k=k v' s')∧Gz el sz b s' v' (l++[x])∧s.nx.toNat≤s'.nx.toNat ∧
   (∀ c,c.toNat<s.nx.toNat→zC v≠some c→Tr.get B.none c s'.h=Tr.get B.none c s.h)∧(zC v'=zC v∨∀ c,zC v'=some c→s.nx.toNat≤c.toNat):=by
 have hE:=zO s (.row x sz el false 0 0 0)
 obtain ⟨v',s',h1,h2,h3,h4,h5⟩:=(h.ext hE).append (by have:=hE.nx;omega) hsz [x] (fun y hy=>by simp at hy;subst hy;exact hl) (by simpa using hlim)
 refine ⟨v',s',fun k=>?_,h2,kar hE.nx h3,fun c hc hn=>?_,?_⟩
 ·show qy sz (.sl s.nx 0 0 1 1) _ _=_
  rw [zNf _ _ hx hl]
  have:=h1 k
  simpa using this
 ·rw [h4 c (kaf hc hE.nx) hn,hE.get c hc]
 ·rcases h5 with h5 | h5
  ·exact .inl h5
  ·exact .inr fun c hc=>by have:=h5 c hc;have:=hE.nx;omega
theorem ext_of (hb:Ext b s) (hn:s.nx.toNat≤s'.nx.toNat) {D:K→Prop} (hk:∀ c,c.toNat<s.nx.toNat→¬D c→Tr.get B.none c s'.h=Tr.get B.none c s.h) (hD:∀ c,D c→b.nx.toNat≤c.toNat):Ext b s' :=
 ⟨kar hb.nx hn,fun c hc=>by
  rw [hk c (kaf hc hb.nx) (fun h=>by have:=hD c h;omega)]
  exact hb.get c hc⟩
def A.all (Q:A→Prop):A→Prop
 | .alt a b=>a.all Q∧b.all Q
 | a=>Q a
def F.all (Q:V→S→Prop):F→Prop
 | .ret v s=>Q v s
 | .alt a b=>a.all Q∧b.all Q
 | _=>False
theorem F.all.nb {Q:V→S→Prop}:∀ {x:F},x.all Q→¬x.isBad
 | .ret _ _,_=>fun h=>h
 | .alt _ _,h=>fun g=>g.elim (F.all.nb h.1) (F.all.nb h.2)
theorem F.all.imp {Q R:V→S→Prop} (H:∀ v s,Q v s→R v s):∀ {x:F},x.all Q→x.all R
 | .ret _ _,h=>H _ _ h
 | .alt _ _,h=>⟨F.all.imp H h.1,F.all.imp H h.2⟩
theorem A.all.nb {Q:A→Prop} (hQ:∀ a,Q a→¬a.isBad):∀ {x:A},x.all Q→¬x.isBad
 | .alt _ _,h=>fun g=>g.elim (A.all.nb hQ h.1) (A.all.nb hQ h.2)
 | .nrm _ _,h=>hQ _ h
 | .ext _ _ _,h=>hQ _ h
 | .ret _ _,h=>hQ _ h
 | .pnc _ _,h=>hQ _ h
 | .fin _ _,h=>hQ _ h
 | .bad _,h=>hQ _ h
theorem A.all.imp {Q R:A→Prop} (H:∀ a,Q a→R a):∀ {x:A},x.all Q→x.all R
 | .alt _ _,h=>⟨A.all.imp H h.1,A.all.imp H h.2⟩
 | .nrm _ _,h=>H _ h
 | .ext _ _ _,h=>H _ h
 | .ret _ _,h=>H _ h
 | .pnc _ _,h=>H _ h
 | .fin _ _,h=>H _ h
 | .bad _,h=>H _ h
def A.leaf:A→Prop | .alt _ _=>False | _=>True
theorem A.all_bind {f:T→S→A} {g:Nat→T→S→A} {h:T→S→A} {R Q:A→Prop} (H:∀ x,A.leaf x→R x→(wU f g h x).all Q):∀ {a:A},a.all R→(wU f g h a).all Q
 | .alt _ _,k=>⟨A.all_bind H k.1,A.all_bind H k.2⟩
 | .nrm _ _,k=>H _ trivial k
 | .ext _ _ _,k=>H _ trivial k
 | .ret _ _,k=>H _ trivial k
 | .pnc _ _,k=>H _ trivial k
 | .fin _ _,k=>H _ trivial k
 | .bad _,k=>H _ trivial k
variable {Q:A→Prop}
theorem A.all_seq {f:T→S→A} {R:A→Prop} (H:∀ x,A.leaf x→R x→(za f x).all Q) {a:A} (h:a.all R):(za f a).all Q:=A.all_bind H h
noncomputable def zE (id:Nat) (a:A):A:=wU (fun tm s=>.nrm tm s) (fun i tm s=>zet (Nat.beq i id) (.nrm tm s) (.ext i tm s)) (fun tm s=>.ret tm s) a
@[simp] theorem zNB (i:Nat) (tm:T) (s:S):zE i (.nrm tm s)=.nrm tm s:=rfl
@[simp] theorem zNN (i:Nat) (tm:T) (s:S):zE i (.ret tm s)=.ret tm s:=rfl
@[simp] theorem zOj (i : Nat) (tm : T) (s : S) : zE i (.ext i tm s) = .nrm tm s := by
  show zet (Nat.beq i i) (.nrm tm s) (.ext i tm s) = _
  rw [kay]; rfl
theorem zFY {j:Nat} (h:j≠i) (tm:T) (s:S):zE i (.ext j tm s)=.ext j tm s:=by
 show zet (Nat.beq j i) (.nrm tm s) (.ext j tm s)=_
 rw [show Nat.beq j i=false by cases e:Nat.beq j i with | false=>rfl | true=>exact absurd (kaa e) h];rfl
theorem A.all_block {R:A→Prop} (H:∀ x,A.leaf x→R x→(zE i x).all Q) {a:A} (h:a.all R):(zE i a).all Q:=A.all_bind H h
theorem A.all_fold {k:V→S→A} {R:V→S→Prop} {Q:A→Prop} (H:∀ v s,R v s→(k v s).all Q):∀ {x:F},x.all R→(zD x k).all Q
 | .ret _ _,h=>H _ _ h
 | .alt _ _,h=>⟨A.all_fold H h.1,A.all_fold H h.2⟩
theorem A.all_pick {f:ME→List ME→A} {Q:A→Prop}:∀ {l:List ME} (pre:List ME),l≠[]→(∀ l1 e l2,l=l1++e::l2→(f e (pre++(l1++l2))).all Q)→(zek f l pre).all Q
 | [],_,h,_=>absurd rfl h
 | [e],pre,_,H=>by
  have:zek f [e] pre=zah pre [] fun r=>f e r:=rfl
  rw [this,yf]
  exact H [] e [] rfl
 | e::e'::t,pre,_,H=>by
  have:zek f (e::e'::t) pre=zah pre (e'::t) fun r=>A.alt (f e r) (zah pre [e] fun pre=>zek f (e'::t) pre):=rfl
  rw [this,yf,yf]
  refine ⟨H [] e (e'::t) rfl,A.all_pick (l:=e'::t) (pre++[e]) (by simp) fun l1 x l2 h=>?_⟩
  have:=H (e::l1) x l2 (by rw [h];rfl)
  simpa using this
theorem F.all_fn {fin:T→S→A} {Q:V→S→Prop} {R:A→Prop} (H:∀ x,A.leaf x→R x→(qk (z7 fin x)).all Q):∀ {a:A},a.all R→(qk (z7 fin a)).all Q
 | .alt _ _,k=>⟨F.all_fn H k.1,F.all_fn H k.2⟩
 | .nrm _ _,k=>H _ trivial k
 | .ext _ _ _,k=>H _ trivial k
 | .ret _ _,k=>H _ trivial k
 | .pnc _ _,k=>H _ trivial k
 | .fin _ _,k=>H _ trivial k
 | .bad _,k=>H _ trivial k
open Classical in
noncomputable def RqN (P:Program) (Q:Nat→List V→S→F→Prop) (QC:FI→Code→T→S→A→Prop):R :=
  ⟨fun fi c tm s=>if h:∃ a:A,zdH P fi c tm s a∧QC fi c tm s a then h.choose else .bad 0,
   fun f args s=>if h:∃ X:F,wW P f args s X∧Q f args s X then h.choose else .bad 0⟩
theorem zNI (pc:PC) (Q:Nat→List V→S→F→Prop) (QC:FI→Code→T→S→A→Prop):RS P pc (RqN P Q QC):=by
 refine ⟨fun fi c tm s hnb=>?_,fun f args s hnb=>?_⟩
 ·unfold RqN at hnb ⊢
  simp only at hnb ⊢
  split at hnb
  ·rename_i h
   rw [dif_pos h]
   exact h.choose_spec.1
  ·exact absurd trivial hnb
 ·unfold RqN at hnb ⊢
  simp only at hnb ⊢
  split at hnb
  ·rename_i h
   rw [dif_pos h]
   exact h.choose_spec.1
  ·exact absurd trivial hnb
variable {QC:FI→Code→T→S→A→Prop} {args:List V} {Q:Nat→List V→S→F→Prop}
open Classical in
theorem zAr {f:Nat} (h:∃ X,wW P f args s X∧Q f args s X):Q f args s ((RqN P Q QC).call f args s):=by
 show Q f args s (if h:∃ X:F,wW P f args s X∧Q f args s X then h.choose else .bad 0)
 rw [dif_pos h];exact h.choose_spec.2
variable {fi:FI}
open Classical in
theorem zKt {c:Code} {tm:T} (h:∃ a,zdH P fi c tm s a∧QC fi c tm s a):QC fi c tm s ((RqN P Q QC).code fi c tm s):=by
 show QC fi c tm s (if h:∃ a,zdH P fi c tm s a∧QC fi c tm s a then h.choose else .bad 0)
 rw [dif_pos h];exact h.choose_spec.2
theorem zBm {pc:PC} (hp:PcOk P pc) (hh:pc.hooks=[]) {r:R} (hr:RS P pc r) {f:Nat} {Q:V→S→Prop} (h:((fnC pc f).run r args s).all Q):∃ X,wW P f args s X∧X.all Q :=
 ⟨_,zzv hp hr (by rw [hh];intro h hx;cases hx) (f:=f) (args:=args) (s:=s) h.nb,h⟩
theorem wW.single {f:Nat} {X:F} (h:wW P f args s X) (hX:X.all fun v1 s1=>v1=v∧Wk s1 s'):qO P f args s v s':=by
 intro n0 w0 ν w cargs hst hG hv
 obtain ⟨h1,h2⟩:=h n0 w0 ν w cargs hst hG hv
 refine ⟨h1,fun kind cs hc=>?_⟩
 have:∀ {X:F} {p:V→S→Prop},X.Has p→X.all (fun v1 s1=>v1=v∧Wk s1 s')→∃ v1 s1,p v1 s1∧v1=v∧Wk s1 s':=by
  intro X
  induction X with
  | ret v1 s1=>intro p hp ha;exact ⟨v1,s1,hp,ha⟩
  | alt a b iha ihb =>
   intro p hp ha
   rcases hp with hp | hp
   ·exact iha hp ha.1
   ·exact ihb hp ha.2
  | _=>intro p hp;exact hp.elim
 obtain ⟨v1,s1,⟨ν',y,w',fr,g1,g2⟩,rfl,hw⟩:=this (h2 kind cs hc) hX
 exact ⟨ν',y,w',fr,g1.wk hw,g2⟩
theorem qO.f {f:Nat} (h:qO P f args s v s'):wW P f args s (.ret v s'):=h
noncomputable def RkN (P:Program) (K KN:Nat→Ct) (L:Nat→Lt):R :=
 RqN P (fun f a s X=>((K f).pre a s→∃ v s',X=.ret v s'∧(K f).post a s v s')∧((KN f).pre a s→X.all ((KN f).post a s))) (fun _ c tm s a=>(L (z3 c)).pre tm s→(L (z3 c)).post tm s a)
theorem zFX (pc:PC) (K KN:Nat→Ct) (L:Nat→Lt):RS P pc (RkN P K KN L):=zNI pc _ _
def zFj (P:Program) (KN:Nat→Ct) (f:Nat):Prop:=∀ a s,(KN f).pre a s→∃ X,wW P f a s X∧X.all ((KN f).post a s)
def zOu (KN:Nat→Ct) (r:R) (f:Nat):Prop:=∀ a s,(KN f).pre a s→(r.call f a s).all ((KN f).post a s)
variable {KN:Nat→Ct} {L:Nat→Lt}
theorem zd8 {K:Nat→Ct} {f:Nat} (h:zL P K f) (hn:∀ a s,¬(KN f).pre a s):zMW K (RkN P K KN L) f:=by
 intro a s hp
 obtain ⟨v,s',h1,h2⟩:=h a s hp
 exact (zAr (P:=P) (Q:=fun f a s X=>((K f).pre a s→∃ v s',X=.ret v s'∧(K f).post a s v s')∧((KN f).pre a s→X.all ((KN f).post a s))) (QC:=fun _ c tm s a=>(L (z3 c)).pre tm s→(L (z3 c)).post tm s a) ⟨.ret v s',h1.f,fun _=>⟨v,s',rfl,h2⟩,fun g=>absurd g (hn _ _)⟩).1 hp
theorem zIf {K:Nat→Ct} {f:Nat} (h:zFj P KN f) (hn:∀ a s,¬(K f).pre a s):zOu KN (RkN P K KN L) f:=by
 intro a s hp
 obtain ⟨X,h1,h2⟩:=h a s hp
 exact (zAr (P:=P) (Q:=fun f a s X=>((K f).pre a s→∃ v s',X=.ret v s'∧(K f).post a s v s')∧((KN f).pre a s→X.all ((KN f).post a s))) (QC:=fun _ c tm s a=>(L (z3 c)).pre tm s→(L (z3 c)).post tm s a) ⟨X,h1,fun g=>absurd g (hn _ _),fun _=>h2⟩).2 hp
theorem zKl {pc:PC} (hp:PcOk P pc) (hh:pc.hooks=[]) {K:Nat→Ct} {c:Code} (hn:z3 c=n) (μ:T→S→Nat) (hnb:∀ tm s a,(L n).pre tm s→(L n).post tm s a→¬a.isBad)
  (body:∀ tm s,(L n).pre tm s→(∀ tm' s',μ tm' s'<μ tm s→(L n).pre tm' s'→(L n).post tm' s' ((RkN P K KN L).code fi c tm' s'))→(L n).post tm s ((zl pc fi c).run (RkN P K KN L) tm s)) :
  ∀ tm s,(L n).pre tm s→(L n).post tm s ((zl pc fi c).run (RkN P K KN L) tm s):=by
 have key:∀ m tm s,μ tm s=m→(L n).pre tm s→(L n).post tm s ((zl pc fi c).run (RkN P K KN L) tm s):=by
  intro m
  induction m using Nat.strongRecOn with
  | ind m ih =>
   intro tm s e h
   refine body tm s h fun tm' s' hm hp'=>?_
   have h2:=ih (μ tm' s') (by omega) tm' s' rfl hp'
   have h1:=hnb _ _ _ hp' h2
   have:=zKt (P:=P) (Q:=fun f a s X=>((K f).pre a s→∃ v s',X=.ret v s'∧(K f).post a s v s')∧((KN f).pre a s→X.all ((KN f).post a s))) (QC:=fun _ c tm s a=>(L (z3 c)).pre tm s→(L (z3 c)).post tm s a) (fi:=fi) (c:=c) (tm:=tm') (s:=s') ⟨_,zuE hp hh (zFX pc K KN L) rfl h1,fun _=>by rw [hn];exact h2⟩
   rw [hn] at this
   exact this hp'
 exact fun tm s h=>key _ tm s rfl h
def Tr.filt {α:Type} (d:α):(K→Bool)→Tr α→Tr α
 | _,.lf=>.lf
 | p,.nd l v r=>.nd (Tr.filt d (fun k=>p (.o k)) l) (if p .h=true then v else d) (Tr.filt d (fun k=>p (.i k)) r)
theorem zCB {α:Type} (d:α) (k:K):∀ (p:K→Bool) (t:Tr α),Tr.get d k (Tr.filt d p t)=if p k=true then Tr.get d k t else d:=by
 induction k with
 | h=>intro p t;cases t with
  | lf=>simp [Tr.filt,Tr.get]
  | nd l v r=>simp [Tr.filt,Tr.get]
 | o k ih=>intro p t;cases t with
  | lf=>simp [Tr.filt,Tr.get]
  | nd l v r=>simp [Tr.filt,Tr.get,ih]
 | i k ih=>intro p t;cases t with
  | lf=>simp [Tr.filt,Tr.get]
  | nd l v r=>simp [Tr.filt,Tr.get,ih]
def F.nxm:F→K
 | .ret _ s=>s.nx
 | .alt a b=>if a.nxm.toNat≤b.nxm.toNat then b.nxm else a.nxm
 | _=>.h
theorem F.all_max {Q:V→S→Prop}:∀ {x:F},x.all Q→x.all fun v s=>Q v s∧s.nx.toNat≤x.nxm.toNat
 | .ret _ _,h=>⟨h,kab _⟩
 | .alt a b,h=>by
  have h1:=F.all_max h.1
  have h2:=F.all_max h.2
  show (F.all _ a)∧(F.all _ b)
  have e:(F.alt a b).nxm=if a.nxm.toNat≤b.nxm.toNat then b.nxm else a.nxm:=rfl
  rw [e]
  by_cases g:a.nxm.toNat≤b.nxm.toNat
  ·rw [if_pos g]
   exact ⟨h1.imp fun v s h=>⟨h.1,kar h.2 g⟩,h2⟩
  ·rw [if_neg g]
   exact ⟨h1,h2.imp fun v s h=>⟨h.1,kar h.2 (by omega)⟩⟩
theorem F.all_some {Q:V→S→Prop}:∀ {x:F},x.all Q→∃ v s,Q v s∧s.nx.toNat≤x.nxm.toNat
 | .ret v s,h=>⟨v,s,h,kab _⟩
 | .alt a b,h=>by
  obtain ⟨v,s,h1,h2⟩:=F.all_some h.1
  refine ⟨v,s,h1,?_⟩
  have e:(F.alt a b).nxm=if a.nxm.toNat≤b.nxm.toNat then b.nxm else a.nxm:=rfl
  rw [e]
  split<;>omega
theorem wW.trim {f:Nat} {X:F} {G:K→B} (h:wW P f args s X) (hX:X.all fun v1 s1=>v1=v∧s.nx.toNat≤s1.nx.toNat∧∀ k,k.toNat<s.nx.toNat→Tr.get B.none k s1.h=G k) :
  ∃ s',qO P f args s v s'∧s.nx.toNat≤s'.nx.toNat∧∀ k,k.toNat<s.nx.toNat→Tr.get B.none k s'.h=G k:=by
 obtain ⟨v0,s0,⟨h1,h2,h3⟩,h4⟩:=F.all_some hX
 refine ⟨⟨Tr.filt B.none (fun k=>decide (k.toNat<s.nx.toNat)) s0.h,X.nxm⟩,h.single ((F.all_max hX).imp ?_),kar h2 h4,fun k hk=>?_⟩
 ·rintro v1 s1 ⟨⟨g1,g2,g3⟩,g4⟩
  refine ⟨g1,fun k=>?_,g4⟩
  show Tr.get B.none k (Tr.filt B.none _ s0.h)=.none∨Tr.get B.none k (Tr.filt B.none _ s0.h)=Tr.get B.none k s1.h
  rw [zCB]
  by_cases hk:k.toNat<s.nx.toNat
  ·right
   rw [if_pos (by simpa using hk),h3 k hk,g3 k hk]
  ·left
   rw [if_neg (by simpa using hk)]
 ·show Tr.get B.none k (Tr.filt B.none _ s0.h)=G k
  rw [zCB,if_pos (by simpa using hk),h3 k hk]
structure Kp (s s':S) (m:K):Prop where
 nx:s.nx.toNat≤s'.nx.toNat
 other:∀ k,k.toNat<s.nx.toNat→k≠m→Tr.get B.none k s'.h=Tr.get B.none k s.h
 map:∃ es ck,Tr.get B.none m s.h=.map es ck
structure KeyK (q:EK) {α:Type} [DecidableEq α] (kf:α→V):Prop where
 eq:∀ a b,eqV q false (kf a) (kf b)=some (decide (a=b))
 key:∀ a (c:A),zzk q (kf a) c=c
section
variable {α:Type} [DecidableEq α]
abbrev LG (α:Type):=List (α × V × Nat)
def toG (kf:α→V) (e:α × V × Nat):ME:=⟨kf e.1,e.2.1,e.2.2⟩
def qh:LG α→α→Option V
 | [],_=>none
 | e::l,z=>if e.1=z then some e.2.1 else qh l z
def yr (z:α) (v:V) (ck:Nat):LG α→LG α
 | []=>[(z,v,ck)]
 | e::l=>if z=e.1 then (z,v,e.2.2)::l else e::yr z v ck l
def yj (kf:α→V) (s:S) (k:K) (l:LG α) (ck:Nat):Prop:=Tr.get B.none k s.h=.map (l.map (toG kf)) ck
variable {q:EK} {kf:α→V}
theorem zzU (hq:KeyK q kf) (z:α):∀ (l:LG α) (c:Option V→A),zbK q (kf z) (l.map (toG kf)) c=c (qh l z)
 | [],c=>rfl
 | e::l,c=>by
  show (match eqV q false (kf z) (kf e.1) with | some true=>c (some e.2.1) | some false=>zbK q (kf z) (l.map (toG kf)) c | none=>.bad 0)=_
  rw [hq.eq]
  by_cases g:z=e.1
  ·rw [decide_eq_true g];simp [qh,g]
  ·rw [decide_eq_false g]
   show zbK _ _ (l.map (toG kf)) c=_
   rw [zzU hq z l c]
   simp only [qh];rw [if_neg (fun h=>g h.symm)]
variable {l:LG α} {ck:Nat} {s:S}
theorem zcn (hq:KeyK q kf) {k:K} (hg:yj kf s k l ck) (zero:V) (z:α) (c:V→A):z4 q zero false (.ref 0 k) (kf z) s c=c ((qh l z).getD zero):=by
 unfold yj at hg
 unfold z4
 rw [hq.key]
 show zY s k _=_
 rw [zK,hg]
 show zbK q (kf z) (l.map (toG kf)) (fun r=>zvP zero false r c)=_
 rw [zzU hq]
 cases qh l z<;>rfl
theorem zj3 (hq:KeyK q kf) {k:K} (hg:yj kf s k l ck) (zero:V) (z:α) (c:V→A):z4 q zero true (.ref 0 k) (kf z) s c=c (.ls 1 [(qh l z).getD zero,.bool (qh l z).isSome]):=by
 unfold yj at hg
 unfold z4
 rw [hq.key]
 show zY s k _=_
 rw [zK,hg]
 show zbK q (kf z) (l.map (toG kf)) (fun r=>zvP zero true r c)=_
 rw [zzU hq]
 cases qh l z<;>rfl
theorem zKL (hq:KeyK q kf) (z:α) (v:V) (ck:Nat):∀ (l:LG α) (c:Bool→List ME→A),zjR q (kf z) v ck (l.map (toG kf)) c=c (qh l z).isNone ((yr z v ck l).map (toG kf))
 | [],c=>rfl
 | e::l,c=>by
  show (match eqV q false (kf z) (kf e.1) with | some true=>c false (⟨kf z,v,e.2.2⟩::l.map (toG kf)) | some false=>zjR q (kf z) v ck (l.map (toG kf)) (fun b l'=>c b (toG kf e::l')) | none=>.bad 0)=_
  rw [hq.eq]
  by_cases g:z=e.1
  ·rw [decide_eq_true g];simp [qh,yr,g,toG]
  ·rw [decide_eq_false g]
   show zjR q (kf z) v ck (l.map (toG kf)) _=_
   rw [zKL hq z v ck l]
   simp only [qh,yr]
   rw [if_neg (fun h=>g h.symm),if_neg g]
   rfl
theorem zbo (hq:KeyK q kf) {k:K} (hg:yj kf s k l ck) (z:α) (v:V) (c:V→S→A) :
  qw q (.ref 0 k) (kf z) v s c=c undef (qj s k (.map ((yr z v ck l).map (toG kf)) (if (qh l z).isNone then ck+1 else ck))):=by
 unfold yj at hg
 unfold qw
 rw [hq.key]
 show zY s k _=_
 rw [zK,hg]
 show zjR q (kf z) v ck (l.map (toG kf)) _=_
 rw [zKL hq,zH,qp]
 cases qh l z<;>rfl
theorem zas (z:α) (v:V) (ck:Nat) (y:α):∀ l:LG α,qh (yr z v ck l) y=if y=z then some v else qh l y
 | []=>by
  simp only [yr,qh]
  by_cases h:y=z
  ·rw [if_pos h,if_pos h.symm]
  ·rw [if_neg h,if_neg (fun e=>h e.symm)]
 | e::l=>by
  simp only [yr]
  by_cases h:z=e.1
  ·rw [if_pos h]
   simp only [qh]
   rw [←h]
   by_cases g:z=y
   ·rw [if_pos g,if_pos g.symm]
   ·rw [if_neg g,if_neg (fun e=>g e.symm),if_neg g]
  ·rw [if_neg h]
   simp only [qh,zas z v ck y l]
   by_cases g:e.1=y
   ·rw [if_pos g,if_pos g,if_neg (fun e2=>h (e2.symm.trans g.symm))]
   ·rw [if_neg g,if_neg g]
theorem zj2 (z:α) (v:V) (ck:Nat):∀ l:LG α,(yr z v ck l).map (·.1)=if (qh l z).isSome then l.map (·.1) else l.map (·.1)++[z]
 | []=>rfl
 | e::l=>by
  have ih:=zj2 z v ck l
  simp only [yr]
  by_cases h:z=e.1
  ·rw [if_pos h]
   have hm:qh (e::l) z=some e.2.1:=by simp only [qh];rw [if_pos h.symm]
   rw [hm]
   show z::l.map (·.1)=e.1::l.map (·.1)
   rw [h]
  ·rw [if_neg h,kaN,ih]
   have hm:qh (e::l) z=qh l z:=by simp only [qh];rw [if_neg (fun e2=>h e2.symm)]
   rw [hm]
   cases hx:qh l z<;>rfl
theorem zbq {z:α}:∀ {l:LG α},(qh l z).isSome=true↔z∈l.map (·.1)
 | []=>by simp [qh]
 | e::l=>by
  simp only [qh,kaN,kaj]
  by_cases h:e.1=z
  ·rw [if_pos h];simp [h]
  ·rw [if_neg h,zbq (l:=l)]
   constructor
   ·exact fun h=>.inr h
   ·rintro (g | g)
    ·exact absurd g.symm h
    ·exact g
end
theorem zGP:KeyK ⟨7,[]⟩ (iv .i64):=⟨zp8 false,fun _ _=>rfl⟩
theorem zJn:∀ a b:List Nat,eqS a b=decide (a=b)
 | [],[]=>rfl
 | [],_::_=>rfl
 | _::_,[]=>rfl
 | x::a,y::b=>by
  show (@Bool.rec (fun _=>Bool) false (eqS a b) (Nat.beq x y):Bool)=_
  by_cases h:x=y
  ·rw [show Nat.beq x y=true by rw [Nat.beq_eq];exact h]
   show eqS a b=_
   rw [zJn a b]
   simp [h]
  ·rw [show Nat.beq x y=false by rw [←Bool.not_eq_true,Nat.beq_eq];exact h]
   show false=_
   simp [h]
theorem zGK:KeyK ⟨8,[]⟩ V.str:=⟨fun a b=>by show some (eqS a b)=_;rw [zJn],fun _ _=>rfl⟩
def qu (x:Nat × Nat):V:=.ls 0 [iv .i64 (x.1:Int),iv .i64 (x.2:Int)]
theorem y5:KeyK ⟨6,[7,7]⟩ qu:=⟨fun a b=>by
  rcases a with ⟨a1,a2⟩
  rcases b with ⟨b1,b2⟩
  show zis [7,7] [iv .i64 (a1:Int),iv .i64 (a2:Int)] [iv .i64 (b1:Int),iv .i64 (b2:Int)]=_
  have h:∀ x y:Nat,eqP 7 (iv .i64 (x:Int)) (iv .i64 (y:Int))=some (decide (x=y)):=fun x y=>by
   have:=zp8 false (x:Int) (y:Int)
   rw [show decide ((x:Int)=(y:Int))=decide (x=y) by rw [decide_eq_decide];omega] at this
   exact this
  show (match eqP 7 (iv .i64 (a1:Int)) (iv .i64 (b1:Int)) with | some true=>(match eqP 7 (iv .i64 (a2:Int)) (iv .i64 (b2:Int)) with | some true=>some true | some false=>some false | none=>none) | some false=>some false | none=>none)=_
  rw [h,h]
  by_cases g1:a1=b1
  ·by_cases g2:a2=b2<;>simp [g1,g2]
  ·simp [g1],fun _ _=>rfl⟩
variable {X:Type}
def ctI (pre:X→List V→S→Prop) (post:X→S→V→S→Prop):Ct:=⟨fun a s=>∃ x,pre x a s,fun a s v s'=>∀ x,pre x a s→post x s v s'⟩
def ltI (pre:X→T→S→Prop) (post:X→A→Prop):Lt:=⟨fun tm s=>∃ x,pre x tm s,fun tm s a=>∀ x,pre x tm s→post x a⟩
def ltM (pre:X→T→S→Prop) (post:X→A→Prop):Lt:=⟨fun tm s=>∃ x,pre x tm s,fun tm s a=>∀ x,pre x tm s→a.all (post x)⟩
variable {L:Nat→Lt} {pre:X→List V→S→Prop} {post:X→S→V→S→Prop}
theorem zaj {pc:PC} (hp:PcOk P pc) (hh:pc.hooks=[]) {K:Nat→Ct} {f:Nat} (hK:K f=ctI pre post)
  (h:∀ x a s,pre x a s→∃ v s',(fnC pc f).run (Rk P K L) a s=.ret v s'∧post x s v s'):zL P K f:=by
 intro a s hx
 rw [hK] at hx ⊢
 obtain ⟨x,hx⟩:=hx
 obtain ⟨v,s',e,h1⟩:=h x a s hx
 refine ⟨v,s',zbD hp hh (zKY pc K L) e,fun y hy=>?_⟩
 obtain ⟨v2,s2,e2,h2⟩:=h y a s hy
 rw [e] at e2
 cases e2
 exact h2
theorem qV {K:Nat→Ct} {r:R} {f:Nat} (h:zMW K r f) (hK:K f=ctI pre post):∀ x a s,pre x a s→∃ v s',r.call f a s=.ret v s'∧post x s v s':=by
 intro x a s hx
 obtain ⟨v,s',h1,h2⟩:=h a s (by rw [hK];exact ⟨x,hx⟩)
 rw [hK] at h2
 exact ⟨v,s',h1,h2 x hx⟩
variable {fi:FI} {n:Nat}
theorem y9 {pc:PC} (hp:PcOk P pc) (hh:pc.hooks=[]) {K:Nat→Ct} {c:Code} (hn:z3 c=n) {pre:X→T→S→Prop} {post:X→A→Prop} (hL:L n=ltI pre post) (μ:T→S→Nat)
  (hnb:∀ x a,post x a→¬a.isBad) (body:∀ x tm s,pre x tm s→(∀ y tm' s',μ tm' s'<μ tm s→pre y tm' s'→post y ((Rk P K L).code fi c tm' s'))→post x ((zl pc fi c).run (Rk P K L) tm s)) :
  ∀ x tm s,pre x tm s→post x ((zl pc fi c).run (Rk P K L) tm s):=by
 intro x tm s hx
 have:=zeI (P:=P) hp hh (K:=K) (L:=L) (fi:=fi) (c:=c) hn μ (fun tm s a h1 h2=>by
  rw [hL] at h1 h2
  obtain ⟨x,hx⟩:=h1
  exact hnb x a (h2 x hx)) (fun tm s h1 IH=>by
  rw [hL] at h1 IH ⊢
  intro x hx
  exact body x tm s hx fun y tm' s' hm hy=>IH tm' s' hm ⟨y,hy⟩ y hy) tm s (by rw [hL];exact ⟨x,hx⟩)
 rw [hL] at this
 exact this x hx
variable {KN:Nat→Ct}
theorem zJR {pc:PC} (hp:PcOk P pc) (hh:pc.hooks=[]) {K:Nat→Ct} {c:Code} (hn:z3 c=n) {pre:X→T→S→Prop} {post:X→A→Prop} (hL:L n=ltM pre post) (μ:T→S→Nat)
  (hnb:∀ x a,post x a→¬a.isBad) (body:∀ x tm s,pre x tm s→(∀ y tm' s',μ tm' s'<μ tm s→pre y tm' s'→((RkN P K KN L).code fi c tm' s').all (post y))→((zl pc fi c).run (RkN P K KN L) tm s).all (post x)) :
  ∀ x tm s,pre x tm s→((zl pc fi c).run (RkN P K KN L) tm s).all (post x):=by
 intro x tm s hx
 have:=zKl (P:=P) hp hh (K:=K) (KN:=KN) (L:=L) (fi:=fi) (c:=c) hn μ (fun tm s a h1 h2=>by
  rw [hL] at h1 h2
  obtain ⟨x,hx⟩:=h1
  exact A.all.nb (hnb x) (h2 x hx)) (fun tm s h1 IH=>by
  rw [hL] at h1 IH ⊢
  intro x hx
  exact body x tm s hx fun y tm' s' hm hy=>IH tm' s' hm ⟨y,hy⟩ y hy) tm s (by rw [hL];exact ⟨x,hx⟩)
 rw [hL] at this
 exact this x hx
theorem F.all_forall {X:Type} {p:X→Prop} {Q:X→V→S→Prop}:∀ {f:F},(∃ x,p x)→(∀ x,p x→f.all (Q x))→f.all fun v s=>∀ x,p x→Q x v s
 | .ret _ _,_,h=>fun x hx=>h x hx
 | .alt _ _,he,h=>⟨F.all_forall he fun x hx=>(h x hx).1,F.all_forall he fun x hx=>(h x hx).2⟩
 | .bad _,⟨x,hx⟩,h=>(h x hx).elim
 | .pnc _ _,⟨x,hx⟩,h=>(h x hx).elim
theorem zJX {pc:PC} (hp:PcOk P pc) (hh:pc.hooks=[]) {K:Nat→Ct} {f:Nat} (hK:KN f=ctI pre post)
  (h:∀ x a s,pre x a s→((fnC pc f).run (RkN P K KN L) a s).all (post x s)):zFj P KN f:=by
 intro a s hx
 rw [hK] at hx ⊢
 obtain ⟨x,hx⟩:=hx
 exact zBm hp hh (zFX pc K KN L) (F.all_forall ⟨x,hx⟩ fun y hy=>h y a s hy)
def Gw (e:Nat) (s:S) (c:K):Prop:=∃ l n el mn f1 f2,Tr.get B.none c s.h=.row l n el true mn f1 f2∧el≠e
structure Frm (e:Nat) (b:S) (gk nm:K) (x:K→Prop) (s s':S):Prop where
 nx:s.nx.toNat≤s'.nx.toNat
 keep:∀ c,c.toNat<s.nx.toNat→(c.toNat<b.nx.toNat∨(c≠gk∧c≠nm∧¬Gw e s c∧¬x c))→Tr.get B.none c s'.h=Tr.get B.none c s.h
theorem Frm.refl (e:Nat) (b:S) (gk nm:K) (x:K→Prop) (s:S):Frm e b gk nm x s s:=⟨kab _,fun _ _ _=>rfl⟩
variable {e:Nat} {s s':S}
theorem Gw.same {c:K} (h:Tr.get B.none c s'.h=Tr.get B.none c s.h):Gw e s' c↔Gw e s c:=by unfold Gw;rw [h]
variable {gk nm:K} {x:K→Prop} {b:S}
theorem Frm.trans {s1 s2:S} (h:Frm e b gk nm x s s1) (g:Frm e b gk nm x s1 s2):Frm e b gk nm x s s2:=by
 refine ⟨kar h.nx g.nx,fun c hc hk=>?_⟩
 have e1:=h.keep c hc hk
 rw [g.keep c (kaf hc h.nx) ?_,e1]
 rcases hk with hk | ⟨k1,k2,k3,k4⟩
 ·exact .inl hk
 ·exact .inr ⟨k1,k2,fun hg=>k3 ((Gw.same e1).1 hg),k4⟩
theorem Frm.weak {y:K→Prop} (h:Frm e b gk nm x s s') (g:∀ c,c.toNat<s.nx.toNat→b.nx.toNat≤c.toNat→x c→y c):Frm e b gk nm y s s':=by
 refine ⟨h.nx,fun c hc hk=>h.keep c hc ?_⟩
 rcases hk with hk | ⟨k1,k2,k3,k4⟩
 ·exact .inl hk
 ·rcases kaq c.toNat b.nx.toNat with g1 | g1
  ·exact .inl g1
  ·exact .inr ⟨k1,k2,k3,fun hx=>k4 (g c hc g1 hx)⟩
theorem Frm.ext (h:Frm e b gk nm x s s') (hb:Ext b s):Ext b s' :=
 ⟨kar hb.nx h.nx,fun c hc=>(h.keep c (kaf hc hb.nx) (.inl hc)).trans (hb.get c hc)⟩
theorem Frm.of_ext (h:Ext s s'):Frm e b gk nm x s s':=⟨h.nx,fun c hc _=>h.get c hc⟩
def jy (v:V) (o:Nat):V:=match v with | .so a w _ _ _=>.ptr a w o | _=>.bad
variable {l:List (List V)} {el i sz:Nat} {v:V}
theorem Gz.pos (h:Gz el sz b s v l) (hi:i<l.length):∃ a mn,v=.so a (l.length*sz) 0 l.length 0∧a.toNat<s.nx.toNat∧b.nx.toNat≤a.toNat∧mn≤l.length*sz∧Tr.get B.none a s.h=.row l.flatten (l.length*sz) el true mn 0 0∧∀ x∈l,x.length=sz:=by
 rcases h with ⟨rfl,rfl⟩ | ⟨a,mn,rfl,h1,h2,h3,h4,h5⟩
 ·cases hi
 ·exact ⟨a,mn,rfl,h2,h1,h3.2,h4,h5⟩
theorem Gz.idx (h:Gz el sz b s v l) (hi:i<l.length) (k:IntKind) (c:V→A):zg sz v (iv k (i:Int)) c=c (jy v (i*sz)):=by
 obtain ⟨a,mn,rfl,-⟩:=h.pos hi
 show (@Bool.rec (fun _=>A) _ _ (Nat.blt i l.length):A)=_
 rw [show Nat.blt i l.length=true by rw [Nat.blt_eq];exact hi]
 show fN (Nat.add 0 (Nat.mul i sz)) (fun o=>c (.ptr a (l.length*sz) o))=_
 rw [zH,show Nat.add 0 (Nat.mul i sz)=i*sz from kaF _];rfl
variable {x:List V}
theorem Gz.pt (h:Gz el sz b s v l) (hi:l[i]?=some x):Pt s (jy v (i*sz)) sz (fun j=>x.getD j .bad)∧x.length=sz:=by
 have hlt:i<l.length:=(kad.1 hi).1
 obtain ⟨a,mn,rfl,h1,h0,h2,h3,h4⟩:=h.pos hlt
 have hx:x∈l:=kae hi
 have hle:(i+1)*sz≤l.length*sz:=kaL _ hlt
 rw [Nat.add_mul] at hle
 refine ⟨⟨a,_,i*sz,_,_,el,true,mn,0,0,rfl,h3,zcj h4,qG.2 (.inl ⟨rfl,h2,kab _,by omega⟩),fun j hj=>?_⟩,h4 x hx⟩
 rw [zrJ h4 hlt hj,kan (l:=l),hi];rfl
theorem Gz.load1 (h:Gz el 1 b s v l) {x:V} (hi:l[i]?=some [x]) (hx:x≠.bad) (k:V→S→A):zd false 1 (jy v i) s k=k x s:=by
 have:=(h.pt hi).1
 rw [kaK] at this
 exact this.load1 (by omega) hx k
theorem Gz.load (h:Gz el sz b s v l) (hi:l[i]?=some x) (hx:∀ y∈x,y≠.bad) (k:V→S→A):zd true sz (jy v (i*sz)) s k=k (.ls 0 x) s:=by
 obtain ⟨h1,h2⟩:=h.pt hi
 rw [h1.loadN sz (kab _) (fun j hj=>?_)]
 ·congr 2
  apply kaG
  intro j
  by_cases hj:j<sz
  ·rw [kal,List.getElem?_range hj]
   rw [kac (by omega)]
   simp [kac (show j<x.length by omega)]
  ·rw [kau (by simp;omega),kau (by omega)]
 ·rw [kan,kac (by omega)]
  exact hx _ (kaI _)
theorem zAd {v y:V}:∀ (l:List (List V)) (i:Nat),(∀ x∈l,x.length=1)→i<l.length→(l.set i [y]).flatten=upd [y] i l.flatten
 | [],_,_,h=>by cases h
 | x::l,0,hx,_=>by
  have h1:=hx x (by simp)
  obtain ⟨a,rfl⟩:=List.length_eq_one_iff.1 h1
  rfl
 | x::l,i+1,hx,h=>by
  have h1:=hx x (by simp)
  obtain ⟨a,rfl⟩:=List.length_eq_one_iff.1 h1
  have:=zAd (v:=v) (y:=y) l i (fun x hx'=>hx x (by simp [hx'])) (by simpa using h)
  show a::(l.set i [y]).flatten=upd [y] (i+1) (a::l.flatten)
  rw [this];rfl
theorem Gz.store1 (h:Gz el 1 b s v l) (hi:i<l.length) {y:V} (hy:∀ c:List V→A,zp 1 y c=c [y]) :
  ∃ s',(∀ k:V→S→A,zJ 1 (jy v i) y s k=k undef s')∧Gz el 1 b s' v (l.set i [y])∧s'.nx=s.nx∧∀ c,zC v≠some c→Tr.get B.none c s'.h=Tr.get B.none c s.h:=by
 obtain ⟨a,mn,rfl,h1,h0,h2,h3,h4⟩:=h.pos hi
 rw [kaK] at h2 h3
 refine ⟨qj s a (.row (upd [y] i l.flatten) l.length el true l.length 0 0),fun k=>?_,?_,rfl,fun c hc=>?_⟩
 ·show zp 1 y (fun xs=>qf s a (l.length*1) i 1 xs (fun s=>k undef s))=_
  rw [hy]
  unfold qf
  rw [zK,h3]
  show (@Bool.rec (fun _=>A) _ _ (zfA l.length true (l.length*1) i (Nat.add i 1) 0 0):A)=_
  rw [show zfA l.length true (l.length*1) i (Nat.add i 1) 0 0=true by
   show (@Bool.rec (fun _=>Bool) _ _ _:Bool)=_
   rw [kaK,show Nat.ble (Nat.add i 1) l.length=true from kap hi,show Nat.ble 0 i=true from kap (Nat.zero_le _),show Nat.beq l.length l.length=true from kay _]]
  show qY [y] i l.flatten _=_
  rw [zdp,qp];rfl
 ·refine .inr ⟨a,l.length,by rw [List.length_set],h0,h1,⟨by rw [List.length_set];omega,by rw [List.length_set];omega⟩,?_,fun x hx=>?_⟩
  ·rw [zm,if_pos rfl,List.length_set,kaK,zAd (v:=y) l i h4 hi]
  ·rcases List.mem_or_eq_of_mem_set hx with hx | rfl
   ·exact h4 x hx
   ·rfl
 ·rw [zm,if_neg (fun e=>hc (by rw [e];rfl))]
theorem Gz.cell1 (h:Gz el sz b s v l):∀ c:List V→A,zp 1 v c=c [v]:=by
 intro c
 rcases h with ⟨rfl,rfl⟩ | ⟨a,mn,rfl,-⟩<;>rfl
theorem Gz.nbad (h:Gz el sz b s v l):v≠.bad:=by
 rcases h with ⟨rfl,rfl⟩ | ⟨a,mn,rfl,-⟩<;>(intro e;cases e)
theorem Gz.own (h:Gz el sz b s v l) {c:K} (hc:zC v=some c):∃ l n mn f1 f2,Tr.get B.none c s.h=.row l n el true mn f1 f2:=by
 rcases h with ⟨rfl,-⟩ | ⟨a,mn,rfl,-,-,-,h,-⟩
 ·cases hc
 ·cases hc;exact ⟨_,_,_,_,_,h⟩
variable {b':S}
theorem Gz.diff {e' z z':Nat} {v':V} {l':List (List V)} (h:Gz e z b s v l) (h':Gz e' z' b' s v' l') (hne:e≠e') {c:K} (hc:zC v=some c):zC v'≠some c:=by
 intro hc'
 obtain ⟨_,_,_,_,_,g⟩:=Gz.own h hc
 obtain ⟨_,_,_,_,_,g'⟩:=Gz.own h' hc'
 rw [g] at g'
 injection g' with _ _ g' _
 exact hne g'
theorem Gz.base (h:Gz el sz b s v l) (hb:b'.nx.toNat≤b.nx.toNat):Gz el sz b' s v l:=by
 rcases h with h | ⟨a,mn,h0,h1,h2,h3⟩
 ·exact .inl h
 ·exact .inr ⟨a,mn,h0,kar hb h1,h2,h3⟩
theorem Gz.ne_row (h:Gz el sz b s v l) {c:K} {l':List V} {mn f1 f2:Nat} (hc:Tr.get B.none c s.h=.row l' n e false mn f1 f2):zC v≠some c:=by
 intro g
 obtain ⟨_,_,_,_,_,g⟩:=Gz.own h g
 rw [hc] at g
 injection g with _ _ _ g
 cases g
theorem Gz.ne_map (h:Gz el sz b s v l) {c:K} {es:List ME} {ck:Nat} (hc:Tr.get B.none c s.h=.map es ck):zC v≠some c:=by
 intro g
 obtain ⟨_,_,_,_,_,g⟩:=Gz.own h g
 rw [hc] at g
 cases g
theorem aI {a b:Prop} (h:a) (k:b):a∧b:=⟨h,k⟩
def dn (a:Nat):Nat→List Nat
 | 0=>[]
 | n+1=>a::dn (a - 1) n
end Go.Ev
