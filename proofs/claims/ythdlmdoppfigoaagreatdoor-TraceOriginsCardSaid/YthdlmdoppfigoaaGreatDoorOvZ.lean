/- The contracts of the functions that the statements reach, for all arguments. No statement of the seat stands here. Conditions: the arguments are as their types say. By an AI agent. -/
import Derived.Test.YthdlmdoppfigoaaGreatDoorOvY
import Derived.Test.YthdlmdoppfigoaaGreatDoorChecked
import Derived.Lib.SmallJoins
import Derived.Deep.Strs
import Derived.LaidSub
import Derived.SliceStrings
namespace Go.Proofs.YthdlmdoppfigoaaGreatDoor.oev
open Go.Ev Go.RowKit NatB
set_option maxRecDepth 100000
def Wd (s:S) (v:V) (w:List Int):Prop:=zlj s v∧word s v=w
variable {w:List Int} {U s:S} {v:V}
theorem Wd.ext (h:Wd s v w) (e:Ext s U):Wd U v w:=⟨(h.1.ext e).1,by rw [h.1.word e];exact h.2⟩
theorem Wd.len (h:Wd s v w):qm v=w.length:=by rw [←h.2];simp
theorem Wd.lenS (h:Wd s v w) (c:V→Go.Ev.A):zm v c=c (iv .i64 (w.length:Int)):=by rw [h.1.1.len,h.len]
theorem Wd.le (h:Wd s v w):w.length≤9223372036854775807:=by rw [←h.len];exact h.1.2.1
variable {i:Nat}
theorem Wd.at_ (h:Wd s v w) (hi:i<w.length):∃ p,(∀ k c,ze 1 v (iv k (i:Int)) c=c p)∧∀ k:V→S→Go.Ev.A,zd false 1 p s k=k (iv .i64 w[i]) s:=by
 obtain ⟨p,I,J⟩:=h.1.at_ (i:=i) (by rw [h.len];exact hi)
 refine ⟨p,I,fun k=>?_⟩
 have:w[i]?=some (zkl s v i):=by rw [←h.2];exact zo2 (by rw [h.len];exact hi)
 rw [kab hi] at this
 rw [J,Option.some.inj this]
variable {α:Type}
theorem zdC {w:List α} {p:α→Bool} (h:i<w.length):(w.take (i+1)).any p=((w.take i).any p || p w[i]):=by
 rw [List.take_add_one,kab h,List.any_append];simp
theorem zcA {w:List α} {p:α→Bool} (h:i<w.length):(w.take (i+1)).all p=((w.take i).all p && p w[i]):=by
 rw [List.take_add_one,kab h,List.all_append];simp
theorem zjo {w:List α} {p:α→Bool} (h:i<w.length) (e:p w[i]=true):w.any p=true:=List.any_eq_true.2 ⟨_,kai h,e⟩
theorem zdO {w:List α} {p:α→Bool} (h:i<w.length) (e:p w[i]=false):w.all p=false:=by
 rw [←Bool.not_eq_true,kao]
 exact fun g=>by rw [g _ (kai h)] at e;cases e
def inB (n z:Int):Bool:=decide (1≤z∧z≤n)
def wOk (m:Nat) (n:Int) (w:List Int):Bool:=decide (w.length≤m) && w.all (inB n)
structure PaD where
 e:Ex
 cp:Bool
 bf:List Int
 af:List Int
structure RuD where
 k:Int
 ps:List PaD
 l:Ex
 r:Ex
def zho (e:Ex):Bool:=zQ okN e && zQ qr e
def zdx (p:PaD):Bool:=zho p.e && (wOk 40 500 p.bf && (wOk 40 500 p.af && (p.cp || decide (p.af=[]))))
def zca (r:RuD):Bool:=decide ((1≤r.k∧r.k≤6)∧1≤r.ps.length∧r.ps.length≤20) && (zho r.l && (zho r.r && r.ps.all zdx))
def PaR (h:Nat) (s:S) (C:List V) (p:PaD):Prop:=∃ e B A,C=e++[.bool p.cp,B,A]∧ExR h s e p.e∧Wd s B p.bf∧Wd s A p.af
noncomputable def rwC (sz:Nat) (s:S) (p:V) (i:Nat):List V:=(List.range sz).map fun j=>qg s p (i*sz+j)
def RuR (h:Nat) (s:S) (C:List V) (r:RuD):Prop:=∃ p el t,C=iv .i64 r.k::p::(el++t)∧(Sl s 10 p∧qm p=r.ps.length∧r.ps.length≤9223372036854775807)∧(∀ i (hi:i<r.ps.length),PaR h s (rwC 10 s p i) r.ps[i])∧ExR h s el r.l∧ExR h s t r.r
def zbY (h:Nat) (s:S) (v:V) (l:List RuD):Prop:=(Sl s 16 v∧qm v=l.length∧l.length≤9223372036854775807)∧∀ i (hi:i<l.length),RuR h s (rwC 16 s v i) l[i]
def RuS (r:RuD):Prop:=szE r.l≤500∧szE r.r≤500∧∀ p∈r.ps,szE p.e≤500
variable {sz:Nat}
theorem zV {p:V} (h:Sl s sz p) (e:Ext s U) (i:Nat):rwC sz U p i=rwC sz s p i:=by
 unfold rwC
 simp [(h.ext e).2]
variable {C:List V} {h:Nat} {p:PaD}
theorem PaR.ext (x:PaR h s C p) (e:Ext s U):PaR h U C p:=by
 obtain ⟨a,b,c,I,J,Q,K⟩:=x
 exact ⟨a,b,c,I,J.ext e,Q.ext e,K.ext e⟩
variable {r:RuD}
theorem RuR.ext (x:RuR h s C r) (e:Ext s U):RuR h U C r:=by
 obtain ⟨a,b,c,I,⟨J,Q⟩,K,d,W⟩:=x
 exact ⟨a,b,c,I,⟨(J.ext e).1,Q⟩,fun i hi=>by rw [zV J e];exact (K i hi).ext e,d.ext e,W.ext e⟩
theorem zbY.ext {l:List RuD} (x:zbY h s v l) (e:Ext s U):zbY h U v l:=by
 obtain ⟨⟨J,Q⟩,K⟩:=x
 exact ⟨⟨(J.ext e).1,Q⟩,fun i hi=>by rw [zV J e];exact (K i hi).ext e⟩
theorem PaR.cells (x:PaR h s C p):C.length=10∧∀ x∈C,x≠.bad:=by
 obtain ⟨e,B,A,rfl,J,Q,K⟩:=x
 refine ⟨by simp [J.cells.1],fun x M=>?_⟩
 simp only [kaq,kaj,List.not_mem_nil,or_false] at M
 rcases M with M | rfl | rfl | rfl
 ·exact J.cells.2 x M
 ·exact fun h=>by cases h
 ·exact Q.1.ne
 ·exact K.1.ne
theorem RuR.cells (x:RuR h s C r):C.length=16∧∀ x∈C,x≠.bad:=by
 obtain ⟨p,el,t,rfl,⟨J,-⟩,-,d,W⟩:=x
 refine ⟨by simp [d.cells.1,W.cells.1],fun x M=>?_⟩
 simp only [kaq,kaj] at M
 rcases M with rfl | rfl | M | M
 ·exact qG _ _
 ·exact zwD J
 ·exact d.cells.2 x M
 ·exact W.cells.2 x M
theorem jE {p:V} {L:Nat} (h:Sl s sz p) (f:qm p=L) (hi:i<L) (X:∀ x∈rwC sz s p i,x≠.bad):∃ q,(∀ k c,ze sz p (iv k (i:Int)) c=c q)∧∀ k:V→S→Go.Ev.A,zd true sz q s k=k (.ls 0 (rwC sz s p i)) s:=by
 obtain ⟨q,I,J⟩:=h.idx (i:=(i:Int)) (by omega) (by omega)
 refine ⟨q,I,fun k=>?_⟩
 rw [J.loadN sz (kad _) (fun j G=>X _ (by rw [Int.toNat_natCast];exact kau.2 ⟨j,kaM.2 G,rfl⟩)) k]
 rfl
variable {a:Go.Ev.K} {el:Nat}
theorem Bx.seg {c:List V} {n:Nat} (h:Bx s a c n el) (o m:Nat) (Y:o+m≤n) (k:V→S→Go.Ev.A):zd true m (.ptr a 0 o) s k=k (.ls 0 ((c.drop o).take m)) s:=by
 have F:Pt s (.ptr a 0 o) m (fun j=>c.getD (o+j) .bad):=⟨a,0,o,c,n,el,false,0,0,0,rfl,h.1,h.2.1,ql.2 (.inr ⟨rfl,by omega⟩),fun j _=>rfl⟩
 have Z:∀ j,j<m→c.getD (o+j) .bad≠.bad:=fun j G=>by
  rw [kaa,kab (by rw [h.2.1];omega)]
  exact h.2.2.1 _ (kai _)
 rw [F.loadN m (kad _) Z k,zfF (f:=fun j=>c.getD (o+j) .bad) (by rw [h.2.1];omega) (fun j _=>rfl)]
theorem ji (h:C.length=16) (c:List V→Go.Ev.A):zg 16 (.ls 0 C) c=c C:=yg 16 C h c
structure RBx (h:Nat) (s:S) (a:Go.Ev.K) (C:List V) (r:RuD):Prop where
 all:∀ k:V→S→Go.Ev.A,zd true 16 (.ptr a 0 0) s k=k (.ls 0 C) s
 f0:∀ k:V→S→Go.Ev.A,zd false 1 (.ptr a 0 0) s k=k (iv .i64 r.k) s
 f1:∃ p,(∀ k:V→S→Go.Ev.A,zd false 1 (.ptr a 0 1) s k=k p s)∧(Sl s 10 p∧qm p=r.ps.length∧r.ps.length≤9223372036854775807)∧(∀ i (hi:i<r.ps.length),PaR h s (rwC 10 s p i) r.ps[i])∧C.getD 1 .bad=p
 f2:∃ e,(∀ k:V→S→Go.Ev.A,zd true 7 (.ptr a 0 2) s k=k (.ls 0 e) s)∧ExR h s e r.l
 f9:∃ e,(∀ k:V→S→Go.Ev.A,zd true 7 (.ptr a 0 9) s k=k (.ls 0 e) s)∧ExR h s e r.r
theorem Bx.ru (b:Bx s a C 16 el) (x:RuR h s C r):RBx h s a C r:=by
 obtain ⟨p,T,D,rfl,J,Q,d,W⟩:=x
 refine ⟨b.all,b.fld 0 (by omega),⟨p,b.fld 1 (by omega),J,Q,rfl⟩,⟨T,fun k=>?_,d⟩,⟨D,fun k=>?_,W⟩⟩
 ·rw [b.seg 2 7 (by omega) k]
  show k (.ls 0 ((T++D).take 7)) s=_
  rw [List.take_append_of_le_length (by rw [d.cells.1];omega),List.take_of_length_le (by rw [d.cells.1];omega)]
 ·rw [b.seg 9 7 (by omega) k]
  show k (.ls 0 (((T++D).drop 7).take 7)) s=_
  rw [List.drop_append_of_le_length (by rw [d.cells.1];omega),List.drop_of_length_le (by rw [d.cells.1];omega),List.nil_append,List.take_of_length_le (by rw [W.cells.1];omega)]
structure PBx (h:Nat) (s:S) (a:Go.Ev.K) (p:PaD):Prop where
 f0:∃ e,(∀ k:V→S→Go.Ev.A,zd true 7 (.ptr a 0 0) s k=k (.ls 0 e) s)∧ExR h s e p.e
 f7:∀ k:V→S→Go.Ev.A,zd false 1 (.ptr a 0 7) s k=k (.bool p.cp) s
 f8:∃ v,(∀ k:V→S→Go.Ev.A,zd false 1 (.ptr a 0 8) s k=k v s)∧Wd s v p.bf
 f9:∃ v,(∀ k:V→S→Go.Ev.A,zd false 1 (.ptr a 0 9) s k=k v s)∧Wd s v p.af
theorem Bx.pa (b:Bx s a C 10 el) (x:PaR h s C p):PBx h s a p:=by
 obtain ⟨e,B,A,rfl,J,Q,O⟩:=x
 have z:∀ j,(e++[V.bool p.cp,B,A]).getD (7+j) .bad=[V.bool p.cp,B,A].getD j .bad:=fun j=>by
  rw [kaa,kaw (by rw [J.cells.1];omega),J.cells.1,Nat.add_sub_cancel_left,←kaa]
 refine ⟨⟨e,fun k=>?_,J⟩,fun k=>?_,⟨B,fun k=>?_,Q⟩,⟨A,fun k=>?_,O⟩⟩
 ·rw [b.seg 0 7 (by omega) k,List.drop_zero,List.take_append_of_le_length (by rw [J.cells.1];omega),List.take_of_length_le (by rw [J.cells.1];omega)]
 ·rw [b.fld 7 (by omega) k,z 0];rfl
 ·rw [b.fld 8 (by omega) k,z 1];rfl
 ·rw [b.fld 9 (by omega) k,z 2];rfl
theorem zbE (s:S) {Z:List V} {n:Nat} (f:C.length=n) (hz:Z.length=n) (X:∀ x∈C,x≠.bad):∃ s0 s1,Bx s1 s.nx C n el∧Ext s s1∧s1=zY s (.row C n el false 0 0 0)∧(∀ k:Go.Ev.K→Nat→S→Go.Ev.A,Go.Ev.newRow s el Z false k=k s.nx n s0)∧∀ k:V→S→Go.Ev.A,zA n (.ptr s.nx 0 0) (.ls 0 C) s0 k=k Go.Ev.undef s1:=by
 obtain ⟨M,p,-⟩:=qT s (el:=el) f X
 exact ⟨_,_,M,p,rfl,fun k=>by rw [zU,hz],fun k=>zeW s el n Z C hz f k⟩
def ClI (s:S) (f:V) (p:Int→Bool):Prop:=(f=.fn (.func 67) [] []∧p=fun z=>!inB 500 z)∨∃ q n,f=.fn (.func 50) [] [q]∧(∀ k:V→S→Go.Ev.A,zd false 1 q s k=k (iv .i64 n) s)∧p=fun z=>!inB n z
structure IfX where
 v:V
 w:List Int
 f:V
 p:Int→Bool
 b:S
def IfX.base (c:IfX):Prop:=Wd c.b c.v c.w∧ClI c.b c.f c.p
structure IrX where
 v:V
 l:List RuD
 b:S
noncomputable def KN1 (h:Nat):Nat→Ct
 | 67=>ctI (X:=Int) (fun z a _=>a=[iv .i64 z]) (fun z s v U=>U=s∧v=.bool (!inB 500 z))
 | 50=>ctI (X:=Int × Int × V) (fun ⟨z,n,q⟩ a s=>a=[iv .i64 z,q]∧∀ k:V→S→Go.Ev.A,zd false 1 q s k=k (iv .i64 n) s) (fun ⟨z,n,_⟩ s v U=>U=s∧v=.bool (!inB n z))
 | 68=>ctI (X:=IfX) (fun c a s=>a=[c.v,c.f]∧s=c.b∧c.base) (fun c s v U=>U=s∧∃ z,v=iv .i64 z∧decide (0≤z)=c.w.any c.p)
 | 49=>ctI (X:=IfX) (fun c a s=>a=[c.v,c.f]∧s=c.b∧c.base) (fun c s v U=>U=s∧v=.bool (c.w.any c.p))
 | 48=>ctI (X:=V × List Int) (fun ⟨v,w⟩ a s=>a=[v]∧Wd s v w) (fun ⟨_,w⟩ s v U=>U=s∧v=.bool (wOk 40 500 w))
 | 53=>ctI (X:=V × List Int) (fun ⟨v,w⟩ a s=>a=[v]∧Wd s v w) (fun ⟨_,w⟩ s v U=>U=s∧v=.bool (wOk 40 500 w))
 | 26=>ctI (X:=V × List Int) (fun ⟨v,w⟩ a s=>a=[v]∧Wd s v w) (fun ⟨_,w⟩ s v U=>U=s∧v=.bool (wOk 200 500 w))
 | 19=>ctI (X:=V × List Int × Int) (fun ⟨v,w,n⟩ a s=>a=[v,iv .i64 n]∧Wd s v w) (fun ⟨_,w,n⟩ s v U=>Ext s U∧v=.bool (wOk 200 n w))
 | 20=>ctI (X:=V × V × List Int × List Int) (fun ⟨v,u,w,x⟩ a s=>a=[v,u]∧Wd s v w∧Wd s u x) (fun ⟨_,_,w,x⟩ s v U=>U=s∧v=.bool (decide (w=x)))
 | 44=>ctI (X:=V × V × List Int × List Int) (fun ⟨v,u,w,x⟩ a s=>a=[v,u]∧Wd s v w∧Wd s u x) (fun ⟨_,_,w,x⟩ s v U=>U=s∧∃ z,v=iv .i64 z∧(z=0↔w=x))
 | 18=>ctI (X:=List V × RuD) (fun ⟨C,r⟩ a s=>a=[.ls 0 C]∧RuR h s C r∧yd s∧RuS r) (fun ⟨_,r⟩ s v U=>Ext s U∧v=.bool (zca r))
 | 25=>ctI (X:=List V × RuD) (fun ⟨C,r⟩ a s=>a=[.ls 0 C]∧RuR h s C r∧yd s∧RuS r) (fun ⟨_,r⟩ s v U=>Ext s U∧v=.bool (zca r))
 | 17=>ctI (X:=List V × RuD) (fun ⟨C,r⟩ a s=>a=[.ls 0 C]∧RuR h s C r∧yd s∧RuS r) (fun ⟨_,r⟩ s v U=>Ext s U∧v=.bool (!zca r))
 | 46=>ctI (X:=V × List RuD) (fun ⟨v,l⟩ a s=>a=[v,.fn (.func 17) [] []]∧zbY h s v l∧yd s∧∀ r∈l,RuS r) (fun ⟨_,l⟩ s v U=>Ext s U∧∃ z,v=iv .i64 z∧decide (0≤z)=l.any fun r=>!zca r)
 | 16=>ctI (X:=V × List RuD) (fun ⟨v,l⟩ a s=>a=[v,.fn (.func 17) [] []]∧zbY h s v l∧yd s∧∀ r∈l,RuS r) (fun ⟨_,l⟩ s v U=>Ext s U∧v=.bool (l.any fun r=>!zca r))
 | f=>KE h f
variable {z:Int}
theorem zoq {n:Int} (h:z<1):inB n z=false:=decide_eq_false fun g=>by omega
theorem zhp {n:Int} (h:¬z<1):inB n z=!decide (n<z):=by
 unfold inB
 by_cases g:n<z
 ·rw [decide_eq_true g,decide_eq_false fun h=>by omega];rfl
 ·rw [decide_eq_false g,decide_eq_true ⟨by omega,by omega⟩];rfl
theorem zvN (h:Nat):zo Tryz.prog (KN1 h) 67:=by
 refine zr (L:=noL) zt (K:=KN1 h) (X:=Int) rfl ?_
 rintro z a s rfl
 refine ⟨_,s,?_,rfl,rfl⟩
 generalize Rk Tryz.prog _ _=r
 by_cases I:z<1
 ·simp -implicitDefEqProofs [zlF,I,zoq]
 ·simp -implicitDefEqProofs [zlF,I,zhp]
theorem zvh (h:Nat):zo Tryz.prog (KN1 h) 50:=by
 refine zr (L:=noL) zt (K:=KN1 h) (X:=Int × Int × V) rfl ?_
 rintro ⟨z,n,q⟩ a s ⟨rfl,U⟩
 refine ⟨_,s,?_,rfl,rfl⟩
 generalize Rk Tryz.prog _ _=r
 by_cases I:z<1
 ·simp -implicitDefEqProofs [zne,I,zoq]
 ·simp -implicitDefEqProofs [zne,I,zhp,U]
theorem zzE {L:Nat→Lt} {f:V} {p:Int→Bool} (g:ClI s f p) (z:Int):∀ tm (k:V→S→Go.Ev.A),jv (Rk Tryz.prog (KN1 h) L) f [iv .i64 z] tm s k=k (.bool (p z)) s:=by
 intro tm k
 rcases g with ⟨rfl,rfl⟩ | ⟨q,n,rfl,U,rfl⟩
 ·obtain ⟨v,s1,e,j,d⟩:=zk (zh (L:=L) (zvN h)) (X:=Int) rfl z _ s rfl
  rw [wm,show []++([iv .i64 z]++[])=[iv .i64 z] from rfl,e,j,d]
  rfl
 ·obtain ⟨v,s1,e,j,d⟩:=zk (zh (L:=L) (zvh h)) (X:=Int × Int × V) rfl (z,n,q) _ s ⟨rfl,U⟩
  rw [wm,show []++([iv .i64 z]++[q])=[iv .i64 z,q] from rfl,e,j,d]
  rfl
def IfX.pre (c:IfX) (tm:T) (s:S):Prop:=s=c.b∧c.base∧(gp 0 tm=c.v∧gp 1 tm=c.f∧gp 6 tm=iv .i64 (c.w.length:Int)∧gp 240 tm=.bad)∧∃ i:Nat,i≤c.w.length∧gp 7 tm=iv .i64 (i:Int)∧(c.w.take i).any c.p=false
def IfX.post (c:IfX) (x:Go.Ev.A):Prop:=(∃ N,x=.ext 0 N c.b∧gp 240 N=.bad∧c.w.any c.p=false)∨∃ N,∃ i:Nat,x=.ret N c.b∧gp 240 N=.bad∧gp 4 N=iv .i64 (i:Int)∧c.w.any c.p=true
theorem zDg:∀ (c:IfX) tm s,c.pre tm s→c.post (jX.run (Rk Tryz.prog (KN1 h) fun _=>ltI IfX.pre IfX.post) tm s):=by
 refine zL (L:=fun _=>ltI IfX.pre IfX.post) zt zlo rfl (fun tm _=>(toI (gp 6 tm)).toNat - (toI (gp 7 tm)).toNat) (fun x a h=>by rcases h with ⟨_,rfl,_⟩ | ⟨_,_,rfl,_⟩<;>exact fun h=>h) ?_
 rintro ⟨v,w,f,p,b⟩ tm s ⟨C,y,⟨h0,I,W,N⟩,i,hi,g,E⟩ J
 show IfX.post _ (jX.run _ tm _)
 obtain ⟨m,X⟩:=id y
 simp only at C m X h0 I W hi E
 subst C
 have Q:=zzE (h:=h) (L:=fun _=>ltI IfX.pre IfX.post) X
 generalize Rk Tryz.prog _ _=r at J Q ⊢
 by_cases O:i<w.length
 ·obtain ⟨q,U,z⟩:=m.at_ O
  have j:=m.le
  have n:IntKind.i64.wrap ((i:Int)+1)=((i+1:Nat):Int):=w64
  cases Z:p w[i] with
  | true =>
   simp -implicitDefEqProofs [zb2,h0,I,W,g,O,U,z,Q,Z]
   exact .inr ⟨_,i,rfl,by simp [N],by simp,zjo O Z⟩
  | false =>
   have next:∀ F,(gp 0 F=v∧gp 1 F=f∧gp 6 F=iv .i64 (w.length:Int)∧gp 240 F=.bad)→gp 7 F=iv .i64 ((i+1:Nat):Int)→IfX.post ⟨v,w,f,p,s⟩ (r.code zbA zaD F s):=fun F k e =>
    J ⟨v,w,f,p,s⟩ F s (by rw [k.2.2.1,e,W,g,zp,zp,zp];omega) ⟨rfl,y,k,i+1,O,e,by rw [zdC O,E];exact Z⟩
   simp -implicitDefEqProofs [zb2,h0,I,W,g,O,U,z,Q,Z,n]
   apply next<;>simp [h0,I,W,N]
 ·obtain rfl:i=w.length:=by omega
  rw [List.take_length] at E
  simp -implicitDefEqProofs [zb2,W,g]
  exact .inl ⟨_,rfl,by simp [N],E⟩
theorem znB (h:Nat):zo Tryz.prog (KN1 h) 68:=by
 have e:=zDg (h:=h)
 refine zr (L:=fun _=>ltI IfX.pre IfX.post) zt (K:=KN1 h) (X:=IfX) rfl ?_
 rintro ⟨v,w,f,p,b⟩ a s ⟨rfl,C,y⟩
 simp only at C
 subst C
 generalize Rk Tryz.prog _ _=r at e ⊢
 have o:=y.1.lenS
 simp only at o
 generalize g:(fnC zf 68).run r _ _=D
 simp -implicitDefEqProofs [zat,o] at g
 generalize B:jX.run r _ s=U at g
 rcases B▸e ⟨v,w,f,p,s⟩ _ s ⟨rfl,y,⟨by simp,by simp,by simp,by simp⟩,0,Nat.zero_le _,by simp,by simp⟩ with ⟨N,rfl,G,k⟩ | ⟨N,i,rfl,G,u,k⟩
 ·simp -implicitDefEqProofs [G] at g
  exact ⟨_,s,g.symm,rfl,-1,rfl,k▸rfl⟩
 ·simp -implicitDefEqProofs [G,u] at g
  exact ⟨_,s,g.symm,rfl,i,rfl,by rw [show w.any p=true from k];exact decide_eq_true (by omega)⟩
theorem zdu (h:Nat):zo Tryz.prog (KN1 h) 49:=by
 have q:=zk (zh (L:=noL) (znB h)) (X:=IfX) rfl
 refine zr (L:=noL) zt (K:=KN1 h) (X:=IfX) rfl ?_
 rintro c a s ⟨rfl,C,y⟩
 generalize Rk Tryz.prog _ _=r at q ⊢
 obtain ⟨_,_,e,rfl,z,rfl,hz⟩:=q c _ s ⟨rfl,C,y⟩
 refine ⟨_,_,?_,rfl,rfl⟩
 rw [←hz]
 simp -implicitDefEqProofs [ziH,e]
theorem ztW {n:Int} (w:List Int):(!w.any fun z=>!inB n z)=w.all (inB n):=by
 induction w with
 | nil=>rfl
 | cons a l X=>simp only [List.any_cons,List.all_cons,←X];cases inB n a<;>simp
theorem zye (h:Nat):zo Tryz.prog (KN1 h) 48:=by
 have q:=zk (zh (L:=noL) (zdu h)) (X:=IfX) rfl
 refine zr (L:=noL) zt (K:=KN1 h) (X:=V × List Int) rfl ?_
 rintro ⟨v,w⟩ a s ⟨rfl,m⟩
 generalize Rk Tryz.prog _ _=r at q ⊢
 obtain ⟨_,s,e,rfl,rfl⟩:=q ⟨v,w,.fn (.func 67) [] [],fun z=>!inB 500 z,s⟩ _ s ⟨rfl,rfl,m,.inl ⟨rfl,rfl⟩⟩
 simp only at e
 have o:=m.lenS
 refine ⟨_,s,?_,rfl,rfl⟩
 unfold wOk
 rw [←ztW]
 by_cases I:w.length≤40
 ·have E:((w.length:Int)≤40)=True:=eq_true (by omega)
  simp -implicitDefEqProofs [zp1,o,I,E,e]
 ·have E:((w.length:Int)≤40)=False:=eq_false (by omega)
  simp -implicitDefEqProofs [zp1,o,I,E]
theorem zyx (h:Nat):zo Tryz.prog (KN1 h) 19:=by
 have q:=zk (zh (L:=noL) (zdu h)) (X:=IfX) rfl
 refine zr (L:=noL) zt (K:=KN1 h) (X:=V × List Int × Int) rfl ?_
 rintro ⟨v,w,n⟩ a s ⟨rfl,m⟩
 generalize Rk Tryz.prog _ _=r at q ⊢
 obtain ⟨Z,j,t⟩:=qT s (el:=3) (c:=[iv .i64 n]) (n:=1) rfl (by simp [qG])
 generalize zY s (.row [iv .i64 n] 1 3 false 0 0 0)=s1 at *
 have J:=m.ext j
 obtain ⟨_,s1,e,rfl,rfl⟩:=q ⟨v,w,.fn (.func 50) [] [.ptr s.nx 0 0],fun z=>!inB n z,s1⟩ _ s1 ⟨rfl,rfl,J,.inr ⟨_,n,rfl,Z.fld 0 (by omega),rfl⟩⟩
 simp only at e
 have o:=m.lenS
 refine ⟨_,s1,?_,j,rfl⟩
 unfold wOk
 rw [←ztW]
 by_cases I:w.length≤200
 ·have E:((w.length:Int)≤200)=True:=eq_true (by omega)
  simp -implicitDefEqProofs [zpa,t,o,I,E,e]
 ·have E:((w.length:Int)≤200)=False:=eq_false (by omega)
  simp -implicitDefEqProofs [zpa,t,o,I,E]
structure WdX where
 v:V
 w:List Int
 b:S
def WdX.preR (c:WdX) (tm:T) (s:S):Prop:=s=c.b∧Wd c.b c.v c.w∧(gp 0 tm=c.v∧gp 240 tm=.bad)∧∃ i:Nat,i≤c.w.length∧gp 3 tm=iv .i64 (i:Int)∧(c.w.take i).all (inB 500)=true
def WdX.postR (c:WdX) (x:Go.Ev.A):Prop:=(∃ N,x=.ext 0 N c.b∧gp 240 N=.bad∧gp 0 N=c.v∧c.w.all (inB 500)=true)∨∃ N,x=.ret N c.b∧gp 240 N=.bad∧gp 2 N=.bool false∧c.w.all (inB 500)=false
def WdX.post7 (c:WdX) (x:Go.Ev.A):Prop:=(∃ N,x=.ext 0 N c.b∧gp 240 N=.bad∧gp 0 N=c.v∧(c.w.length≤40→c.w.all (inB 500)=true))∨∃ N,x=.ret N c.b∧gp 240 N=.bad∧gp 2 N=.bool false∧c.w.all (inB 500)=false
theorem zBX:∀ (c:WdX) tm s,c.preR tm s→c.postR (zcy.run (Rk Tryz.prog (KN1 h) fun _=>ltI WdX.preR WdX.postR) tm s):=by
 refine zL (L:=fun _=>ltI WdX.preR WdX.postR) zt zr1 rfl (fun tm _=>9223372036854775808 - (toI (gp 3 tm)).toNat) (fun x a h=>by rcases h with ⟨_,rfl,_⟩ | ⟨_,rfl,_⟩<;>exact fun h=>h) ?_
 rintro ⟨v,w,b⟩ tm s ⟨C,m,⟨h0,N⟩,i,hi,Q,E⟩ J
 show WdX.postR _ (zcy.run _ tm _)
 simp only at C m h0 hi E
 subst C
 generalize Rk Tryz.prog _ _=r at J ⊢
 have o:=m.lenS
 by_cases O:i<w.length
 ·obtain ⟨q,U,z⟩:=m.at_ O
  have g:=m.le
  have n:IntKind.i64.wrap ((i:Int)+1)=((i+1:Nat):Int):=w64
  by_cases j:w[i]<1
  ·simp -implicitDefEqProofs [zc6,zcf,h0,Q,o,O,U,z,j]
   exact .inr ⟨_,rfl,by simp [N],by simp,zdO O (zoq j)⟩
  ·cases Z:decide (500<w[i]) with
   | true =>
    simp -implicitDefEqProofs [zc6,zcf,h0,Q,o,O,U,z,j,Z]
    exact .inr ⟨_,rfl,by simp [N],by simp,zdO O (by rw [zhp j,Z];rfl)⟩
   | false =>
    have next:∀ F,(gp 0 F=v∧gp 240 F=.bad)→gp 3 F=iv .i64 ((i+1:Nat):Int)→WdX.postR ⟨v,w,s⟩ (r.code zgo zeL F s):=fun F k y =>
     J ⟨v,w,s⟩ F s (by rw [y,Q,zp,zp];omega) ⟨rfl,m,k,i+1,O,y,by rw [zcA O,E,zhp j,Z];rfl⟩
    simp -implicitDefEqProofs [zc6,zcf,h0,Q,o,O,U,z,j,Z,n]
    apply next<;>simp [h0,N]
 ·obtain rfl:i=w.length:=by omega
  rw [List.take_length] at E
  simp -implicitDefEqProofs [zc6,zcf,h0,Q,o]
  exact .inl ⟨_,rfl,by simp [N],by simp [h0],E⟩
theorem zx3 (h:Nat):zo Tryz.prog (KN1 h) 26:=by
 have e:=zBX (h:=h)
 refine zr (L:=fun _=>ltI WdX.preR WdX.postR) zt (K:=KN1 h) (X:=V × List Int) rfl ?_
 rintro ⟨v,w⟩ a s ⟨rfl,m⟩
 generalize Rk Tryz.prog _ _=r at e ⊢
 have o:=m.lenS
 unfold wOk
 by_cases I:w.length≤200
 ·have E:(200<(w.length:Int))=False:=eq_false (by omega)
  generalize g:(fnC zf 26).run r _ _=D
  simp -implicitDefEqProofs [zcf,o,E] at g
  generalize f:zcy.run r _ s=U at g
  rcases f▸e ⟨v,w,s⟩ _ s ⟨rfl,m,⟨by simp,by simp⟩,0,Nat.zero_le _,by simp,by simp⟩ with ⟨N,rfl,G,p,k⟩ | ⟨N,rfl,G,i,k⟩
  ·simp -implicitDefEqProofs [G] at g
   exact ⟨_,s,g.symm,rfl,by rw [show w.all (inB 500)=true from k,decide_eq_true I];rfl⟩
  ·simp -implicitDefEqProofs [G,i] at g
   exact ⟨_,s,g.symm,rfl,by rw [show w.all (inB 500)=false from k,decide_eq_true I];rfl⟩
 ·have E:(200<(w.length:Int))=True:=eq_true (by omega)
  refine ⟨.bool false,s,?_,rfl,by rw [decide_eq_false I];rfl⟩
  simp -implicitDefEqProofs [zcf,o,E]
theorem zBI:∀ (c:WdX) tm s,c.preR tm s→c.post7 (zjw.run (Rk Tryz.prog (KN1 h) fun _=>ltI WdX.preR WdX.post7) tm s):=by
 refine zL (L:=fun _=>ltI WdX.preR WdX.post7) zt zA9 rfl (fun tm _=>9223372036854775808 - (toI (gp 3 tm)).toNat) (fun x a h=>by rcases h with ⟨_,rfl,_⟩ | ⟨_,rfl,_⟩<;>exact fun h=>h) ?_
 rintro ⟨v,w,b⟩ tm s ⟨C,m,⟨h0,N⟩,i,hi,Q,E⟩ J
 show WdX.post7 _ (zjw.run _ tm _)
 simp only at C m h0 hi E
 subst C
 generalize Rk Tryz.prog _ _=r at J ⊢
 have o:=m.lenS
 by_cases O:i<w.length
 ·by_cases A:(i:Int)≤40
  ·obtain ⟨q,U,z⟩:=m.at_ O
   have g:=m.le
   have n:IntKind.i64.wrap ((i:Int)+1)=((i+1:Nat):Int):=w64
   by_cases j:w[i]<1
   ·simp -implicitDefEqProofs [zg2,zhJ,h0,Q,o,O,A,U,z,j]
    exact .inr ⟨_,rfl,by simp [N],by simp,zdO O (zoq j)⟩
   ·cases Z:decide (500<w[i]) with
    | true =>
     simp -implicitDefEqProofs [zg2,zhJ,h0,Q,o,O,A,U,z,j,Z]
     exact .inr ⟨_,rfl,by simp [N],by simp,zdO O (by rw [zhp j,Z];rfl)⟩
    | false =>
     have next:∀ F,(gp 0 F=v∧gp 240 F=.bad)→gp 3 F=iv .i64 ((i+1:Nat):Int)→WdX.post7 ⟨v,w,s⟩ (r.code zmK zn2 F s):=fun F k y =>
      J ⟨v,w,s⟩ F s (by rw [y,Q,zp,zp];omega) ⟨rfl,m,k,i+1,O,y,by rw [zcA O,E,zhp j,Z];rfl⟩
     simp -implicitDefEqProofs [zg2,zhJ,h0,Q,o,O,A,U,z,j,Z,n]
     apply next<;>simp [h0,N]
  ·simp -implicitDefEqProofs [zg2,zhJ,h0,Q,o,O,A]
   exact .inl ⟨_,rfl,by simp [N],by simp [h0],fun h=>by simp only at h;omega⟩
 ·obtain rfl:i=w.length:=by omega
  rw [List.take_length] at E
  simp -implicitDefEqProofs [zg2,zhJ,h0,Q,o]
  exact .inl ⟨_,rfl,by simp [N],by simp [h0],fun _=>E⟩
theorem zBF (h:Nat):zo Tryz.prog (KN1 h) 53:=by
 have e:=zBI (h:=h)
 refine zr (L:=fun _=>ltI WdX.preR WdX.post7) zt (K:=KN1 h) (X:=V × List Int) rfl ?_
 rintro ⟨v,w⟩ a s ⟨rfl,m⟩
 generalize Rk Tryz.prog _ _=r at e ⊢
 have o:=m.lenS
 unfold wOk
 generalize g:(fnC zf 53).run r _ _=D
 simp -implicitDefEqProofs [zhJ] at g
 generalize f:zjw.run r _ s=U at g
 rcases f▸e ⟨v,w,s⟩ _ s ⟨rfl,m,⟨by simp,by simp⟩,0,Nat.zero_le _,by simp,by simp⟩ with ⟨N,rfl,G,p,k⟩ | ⟨N,rfl,G,i,k⟩
 ·by_cases I:w.length≤40
  ·have E:((w.length:Int)≤40)=True:=eq_true (by omega)
   simp -implicitDefEqProofs [G,p,o,E] at g
   exact ⟨_,s,g.symm,rfl,by rw [show w.all (inB 500)=true from k I,decide_eq_true I];rfl⟩
  ·have E:((w.length:Int)≤40)=False:=eq_false (by omega)
   simp -implicitDefEqProofs [G,p,o,E] at g
   exact ⟨_,s,g.symm,rfl,by rw [decide_eq_false I];rfl⟩
 ·simp -implicitDefEqProofs [G,i] at g
  exact ⟨_,s,g.symm,rfl,by rw [show w.all (inB 500)=false from k,Bool.and_false]⟩
structure W2X where
 v:V
 u:V
 w:List Int
 x:List Int
 b:S
def W2X.base (c:W2X):Prop:=Wd c.b c.v c.w∧Wd c.b c.u c.x∧c.w.length=c.x.length
def zyY (w x:List Int) (i:Nat):Prop:=∀ j,j<i→w[j]?=x[j]?
def W2X.preE (c:W2X) (tm:T) (s:S):Prop:=s=c.b∧c.base∧(gp 0 tm=c.v∧gp 1 tm=c.u∧gp 7 tm=iv .i64 (c.w.length:Int)∧gp 240 tm=.bad)∧∃ i:Nat,i≤c.w.length∧gp 8 tm=iv .i64 (i:Int)∧zyY c.w c.x i
def W2X.postE (c:W2X) (x:Go.Ev.A):Prop:=(∃ N,x=.ext 0 N c.b∧gp 240 N=.bad∧c.w=c.x)∨∃ N,x=.ret N c.b∧gp 240 N=.bad∧gp 4 N=.bool false∧c.w≠c.x
def W2X.preC (c:W2X) (tm:T) (s:S):Prop:=s=c.b∧c.base∧(gp 0 tm=c.v∧gp 1 tm=c.u∧gp 240 tm=.bad)∧∃ i:Nat,i≤c.w.length∧gp 5 tm=iv .i64 (i:Int)∧zyY c.w c.x i
def W2X.postC (c:W2X) (x:Go.Ev.A):Prop:=(∃ N,x=.ext 0 N c.b∧gp 240 N=.bad∧c.w=c.x)∨∃ N z,x=.ret N c.b∧gp 240 N=.bad∧gp 4 N=iv .i64 z∧z≠0∧c.w≠c.x
variable {x:List Int}
theorem zpj (f:w.length=x.length) (h:zyY w x w.length):w=x:=by
 apply kaL
 intro j
 by_cases G:j<w.length
 ·exact h j G
 ·rw [kal (by omega),kal (by omega)]
theorem zmZ (hi:i<w.length) (N:i<x.length) (h:zyY w x i) (e:w[i]=x[i]):zyY w x (i+1):=fun j G=>by
 rcases kaK j i with g | g
 ·exact h j g
 ·obtain rfl:j=i:=by omega
  rw [kab hi,kab N,e]
theorem zyv (hi:i<w.length) (N:i<x.length) (e:w[i]≠x[i]):w≠x:=fun h=>by subst h;exact e rfl
theorem zCD:∀ (c:W2X) tm s,c.preE tm s→c.postE (zcN.run (Rk Tryz.prog (KN1 h) fun _=>ltI W2X.preE W2X.postE) tm s):=by
 refine zL (L:=fun _=>ltI W2X.preE W2X.postE) zt zrp rfl (fun tm _=>(toI (gp 7 tm)).toNat - (toI (gp 8 tm)).toNat) (fun x a h=>by rcases h with ⟨_,rfl,_⟩ | ⟨_,rfl,_⟩<;>exact fun h=>h) ?_
 rintro ⟨v,u,w,x,b⟩ tm s ⟨C,y,⟨h0,I,g,N⟩,i,hi,R,E⟩ J
 show W2X.postE _ (zcN.run _ tm _)
 obtain ⟨m,M,f⟩:=id y
 simp only at C m M f h0 I g hi E
 subst C
 generalize Rk Tryz.prog _ _=r at J ⊢
 by_cases O:i<w.length
 ·have W:i<x.length:=f▸O
  obtain ⟨q,U,z⟩:=m.at_ O
  obtain ⟨Z,G,A⟩:=M.at_ W
  have j:=m.le
  have n:IntKind.i64.wrap ((i:Int)+1)=((i+1:Nat):Int):=w64
  by_cases e:w[i]=x[i]
  ·have next:∀ F,(gp 0 F=v∧gp 1 F=u∧gp 7 F=iv .i64 (w.length:Int)∧gp 240 F=.bad)→gp 8 F=iv .i64 ((i+1:Nat):Int)→W2X.postE ⟨v,u,w,x,s⟩ (r.code ziS zfa F s):=fun F k l =>
    J ⟨v,u,w,x,s⟩ F s (by rw [k.2.2.1,l,g,R,zp,zp,zp];omega) ⟨rfl,y,k,i+1,O,l,zmZ O W E e⟩
   simp -implicitDefEqProofs [zfE,h0,I,g,R,O,U,z,G,A,e,n]
   apply next<;>simp [h0,I,g,N]
  ·simp -implicitDefEqProofs [zfE,h0,I,g,R,O,U,z,G,A,e]
   exact .inr ⟨_,rfl,by simp [N],by simp,zyv O W e⟩
 ·obtain rfl:i=w.length:=by omega
  simp -implicitDefEqProofs [zfE,g,R]
  exact .inl ⟨_,rfl,by simp [N],zpj f E⟩
theorem zqC (h:Nat):zo Tryz.prog (KN1 h) 20:=by
 have e:=zCD (h:=h)
 refine zr (L:=fun _=>ltI W2X.preE W2X.postE) zt (K:=KN1 h) (X:=V × V × List Int × List Int) rfl ?_
 rintro ⟨v,u,w,x⟩ a s ⟨rfl,m,M⟩
 generalize Rk Tryz.prog _ _=r at e ⊢
 have o:=m.lenS
 have R:=M.lenS
 by_cases I:w.length=x.length
 ·have E:(w.length:Int)=(x.length:Int):=by omega
  generalize g:(fnC zf 20).run r _ _=D
  simp -implicitDefEqProofs [zdI,o,R,E] at g
  generalize f:zcN.run r _ s=U at g
  rcases f▸e ⟨v,u,w,x,s⟩ _ s ⟨rfl,⟨m,M,I⟩,⟨by simp,by simp,by simp [E],by simp⟩,0,Nat.zero_le _,by simp,fun j h=>by omega⟩ with ⟨N,rfl,G,k⟩ | ⟨N,rfl,G,p,k⟩
  ·simp -implicitDefEqProofs [G] at g
   exact ⟨_,s,g.symm,rfl,by rw [decide_eq_true (show w=x from k)]⟩
  ·simp -implicitDefEqProofs [G,p] at g
   exact ⟨_,s,g.symm,rfl,by rw [decide_eq_false (show w≠x from k)]⟩
 ·have E:¬(w.length:Int)=(x.length:Int):=by omega
  refine ⟨.bool false,s,?_,rfl,by rw [decide_eq_false fun h=>I (by rw [h])]⟩
  simp -implicitDefEqProofs [zdI,o,R,E]
theorem zAa:∀ (c:W2X) tm s,c.preC tm s→c.postC (zaj.run (Rk Tryz.prog (KN1 h) fun _=>ltI W2X.preC W2X.postC) tm s):=by
 refine zL (L:=fun _=>ltI W2X.preC W2X.postC) zt znX rfl (fun tm _=>9223372036854775808 - (toI (gp 5 tm)).toNat) (fun x a h=>by rcases h with ⟨_,rfl,_⟩ | ⟨_,_,rfl,_⟩<;>exact fun h=>h) ?_
 rintro ⟨v,u,w,x,b⟩ tm s ⟨C,y,⟨h0,I,N⟩,i,hi,d,E⟩ J
 show W2X.postC _ (zaj.run _ tm _)
 obtain ⟨m,M,f⟩:=id y
 simp only at C m M f h0 I hi E
 subst C
 generalize Rk Tryz.prog _ _=r at J ⊢
 have o:=m.lenS
 by_cases O:i<w.length
 ·have W:i<x.length:=f▸O
  obtain ⟨q,U,B⟩:=m.at_ O
  obtain ⟨t,G,A⟩:=M.at_ W
  have g:=m.le
  have n:IntKind.i64.wrap ((i:Int)+1)=((i+1:Nat):Int):=w64
  by_cases T:w[i]<x[i]
  ·have Z:w[i]≠x[i]:=by omega
   simp -implicitDefEqProofs [zaw,h0,I,d,o,O,U,B,G,A,T]
   exact .inr ⟨_,-1,rfl,by simp [N],(by simp;rfl),by decide,zyv O W Z⟩
  ·by_cases D:x[i]<w[i]
   ·have Z:w[i]≠x[i]:=by omega
    simp -implicitDefEqProofs [zaw,h0,I,d,o,O,U,B,G,A,T,D]
    exact .inr ⟨_,1,rfl,by simp [N],(by simp),by decide,zyv O W Z⟩
   ·have z:w[i]=x[i]:=by omega
    have next:∀ F,(gp 0 F=v∧gp 1 F=u∧gp 240 F=.bad)→gp 5 F=iv .i64 ((i+1:Nat):Int)→W2X.postC ⟨v,u,w,x,s⟩ (r.code zeI zbH F s):=fun F k l =>
     J ⟨v,u,w,x,s⟩ F s (by rw [l,d,zp,zp];omega) ⟨rfl,y,k,i+1,O,l,zmZ O W E z⟩
    simp -implicitDefEqProofs [zaw,h0,I,d,o,O,U,B,G,A,T,D,n]
    apply next<;>simp [h0,I,N]
 ·obtain rfl:i=w.length:=by omega
  simp -implicitDefEqProofs [zaw,h0,d,o]
  exact .inl ⟨_,rfl,by simp [N],zpj f E⟩
theorem zsx (h:Nat):zo Tryz.prog (KN1 h) 44:=by
 have e:=zAa (h:=h)
 refine zr (L:=fun _=>ltI W2X.preC W2X.postC) zt (K:=KN1 h) (X:=V × V × List Int × List Int) rfl ?_
 rintro ⟨v,u,w,x⟩ a s ⟨rfl,m,M⟩
 generalize Rk Tryz.prog _ _=r at e ⊢
 have o:=m.lenS
 have R:=M.lenS
 by_cases I:w.length=x.length
 ·have E:(w.length:Int)=(x.length:Int):=by omega
  generalize g:(fnC zf 44).run r _ _=D
  simp -implicitDefEqProofs [jH,o,R,E] at g
  generalize f:zaj.run r _ s=U at g
  rcases f▸e ⟨v,u,w,x,s⟩ _ s ⟨rfl,⟨m,M,I⟩,⟨by simp,by simp,by simp⟩,0,Nat.zero_le _,by simp,fun j h=>by omega⟩ with ⟨N,rfl,G,k⟩ | ⟨N,z,rfl,G,p,k,Y⟩
  ·simp -implicitDefEqProofs [G] at g
   exact ⟨_,s,g.symm,rfl,0,rfl,fun _=>k,fun _=>rfl⟩
  ·simp -implicitDefEqProofs [G,p] at g
   exact ⟨_,s,g.symm,rfl,z,rfl,fun h=>absurd h k,fun h=>absurd h Y⟩
 ·have E:¬(w.length:Int)=(x.length:Int):=by omega
  have Z:w≠x:=fun h=>I (by rw [h])
  by_cases J:w.length<x.length
  ·refine ⟨iv .i64 (-1),s,?_,rfl,-1,rfl,(fun h=>by cases h),fun h=>absurd h Z⟩
   simp -implicitDefEqProofs [jH,o,R,E,J]
   rfl
  ·refine ⟨iv .i64 1,s,?_,rfl,1,rfl,(fun h=>by cases h),fun h=>absurd h Z⟩
   simp -implicitDefEqProofs [jH,o,R,E,J]
structure AvX where
 p:V
 ps:List PaD
 a:Go.Ev.K
 C:List V
 b:S
def AvX.base (h:Nat) (c:AvX):Prop:=(Sl c.b 10 c.p∧qm c.p=c.ps.length∧c.ps.length≤9223372036854775807)∧(∀ i (hi:i<c.ps.length),PaR h c.b (rwC 10 c.b c.p i) c.ps[i])∧yd c.b∧(∀ p∈c.ps,szE p.e≤500)∧Bx c.b c.a c.C 16 38∧c.C.getD 1 .bad=c.p
def AvX.preA (h:Nat) (c:AvX) (tm:T) (s:S):Prop:=c.base h∧Ext c.b s∧(gp 6 tm=c.p∧gp 7 tm=iv .i64 (c.ps.length:Int)∧gp 240 tm=.bad)∧∃ i:Nat,i≤c.ps.length∧gp 8 tm=iv .i64 (i:Int)∧(c.ps.take i).all zdx=true
def AvX.pre7 (h:Nat) (c:AvX) (tm:T) (s:S):Prop:=c.base h∧Ext c.b s∧(gp 1 tm=.ptr c.a 0 0∧gp 240 tm=.bad)∧∃ i:Nat,i≤c.ps.length∧gp 3 tm=iv .i64 (i:Int)∧(c.ps.take i).all zdx=true
def AvX.post (c:AvX) (x:Go.Ev.A):Prop:=(∃ N s,x=.ext 0 N s∧Ext c.b s∧gp 240 N=.bad∧c.ps.all zdx=true)∨∃ N s,x=.ret N s∧Ext c.b s∧gp 240 N=.bad∧gp 2 N=.bool false∧c.ps.all zdx=false
theorem zyA:∀ (c:AvX) tm s,c.preA h tm s→c.post (zdQ.run (Rk Tryz.prog (KN1 h) fun _=>ltI (AvX.preA h) AvX.post) tm s):=by
 have A:=zk (zh (L:=fun _=>ltI (AvX.preA h) AvX.post) (show zo Tryz.prog (KN1 h) 47 from zoY h)) (X:=List V × Ex) rfl
 have hW:=zk (zh (L:=fun _=>ltI (AvX.preA h) AvX.post) (zye h)) (X:=V × List Int) rfl
 refine zL (L:=fun _=>ltI (AvX.preA h) AvX.post) zt zvW rfl (fun tm _=>(toI (gp 7 tm)).toNat - (toI (gp 8 tm)).toNat) (fun x a h=>by rcases h with ⟨_,_,rfl,_⟩ | ⟨_,_,rfl,_⟩<;>exact fun h=>h) ?_
 rintro ⟨p,ps,a,C,b⟩ tm s ⟨y,Y,⟨t,S,N⟩,i,hi,R,u⟩ g
 show AvX.post _ (zdQ.run _ tm _)
 generalize Rk Tryz.prog _ _=r at g A hW ⊢
 obtain ⟨⟨B,f,ah⟩,M,G,hz,-⟩:=id y
 simp only at B f ah M G hz Y t S hi u
 by_cases O:i<ps.length
 ·have aa:=(M i O).ext Y
  have ai:=hz _ (kai O)
  obtain ⟨q,U,hQ⟩:=jE (B.ext Y).1 f O (by rw [zV B Y];exact aa.cells.2)
  rw [zV B Y] at hQ
  obtain ⟨s0,s1,bb,j,-,l,st⟩:=zbE s (Z:=[iv .i64 0,iv .i64 0,iv .i64 0,.str [],iv .i64 0,iv .i64 0,.nil 1,.bool false,.nil 1,.nil 1]) (el:=42) aa.cells.1 rfl aa.cells.2
  have P1:=bb.pa (aa.ext j)
  obtain ⟨e,f0,z⟩:=P1.f0
  obtain ⟨_,W,T,w,rfl⟩:=A (e,_) _ s1 ⟨rfl,z,G.ext (Y.trans j),ai⟩
  have P2:=(bb.ext w).pa (aa.ext (j.trans w))
  obtain ⟨vb,f8,aj⟩:=P2.f8
  obtain ⟨va,f9,ae⟩:=P2.f9
  have f7:=P2.f7
  have ad:=ae.lenS
  obtain ⟨_,W,D,rfl,rfl⟩:=hW (vb,_) _ W ⟨rfl,aj⟩
  obtain ⟨_,W,o,rfl,rfl⟩:=hW (va,_) _ W ⟨rfl,ae⟩
  have E:=(Y.trans j).trans w
  have bad:∀ x,zdx ps[i]=false→(∃ F,x=.ret F W∧gp 240 F=.bad∧gp 2 F=.bool false)→AvX.post ⟨p,ps,a,C,b⟩ x:=fun x B ⟨F,M,n,v⟩=>.inr ⟨F,W,M,E,n,v,zdO O B⟩
  have m:IntKind.i64.wrap ((i:Int)+1)=((i+1:Nat):Int):=w64
  have next:zdx ps[i]=true→∀ F,(gp 6 F=p∧gp 7 F=iv .i64 (ps.length:Int)∧gp 240 F=.bad)→gp 8 F=iv .i64 ((i+1:Nat):Int)→AvX.post ⟨p,ps,a,C,b⟩ (r.code zhe zf5 F W):=fun B F k k8 =>
   g ⟨p,ps,a,C,b⟩ F W (by rw [k.2.1,k8,S,R,zp,zp,zp];omega) ⟨y,E,k,i+1,O,k8,by rw [zcA O,u];exact B⟩
  unfold zdx at bad next
  generalize ps[i]=pd at *
  obtain ⟨xe,cp,bf,af⟩:=pd
  simp only at T D o bad next f7 ad
  cases I:zho xe with
  | false =>
   rw [show (zQ okN xe && zQ qr xe)=false from I] at T
   refine bad _ (by rw [I];rfl) ?_
   simp -implicitDefEqProofs [wE,yU,t,S,R,O,U,hQ,l,st,f0,T,N]
  | true =>
  rw [show (zQ okN xe && zQ qr xe)=true from I] at T
  cases J:wOk 40 500 bf with
  | false =>
   rw [J] at D
   refine bad _ (by rw [J,Bool.false_and,Bool.and_false]) ?_
   simp -implicitDefEqProofs [wE,yU,t,S,R,O,U,hQ,l,st,f0,T,f8,D,N]
  | true =>
  rw [J] at D
  cases Q:wOk 40 500 af with
  | false =>
   rw [Q] at o
   refine bad _ (by rw [Q,Bool.false_and,Bool.and_false,Bool.and_false]) ?_
   simp -implicitDefEqProofs [wE,yU,t,S,R,O,U,hQ,l,st,f0,T,f8,D,f9,o,N]
  | true =>
  rw [Q] at o
  cases cp with
  | true =>
   have next:=next (by rw [I,J,Q];rfl)
   simp -implicitDefEqProofs [wE,yU,t,S,R,O,U,hQ,l,st,f0,T,f8,D,f9,o,f7,m]
   apply next<;>simp [t,S,N]
  | false =>
   by_cases K:af=[]
   ·subst K
    have next:=next (by rw [I,J,Q];rfl)
    simp -implicitDefEqProofs [wE,yU,t,S,R,O,U,hQ,l,st,f0,T,f8,D,f9,o,f7,ad,m]
    apply next<;>simp [t,S,N]
   ·have d:0<af.length:=List.length_pos_iff.2 K
    refine bad _ (by rw [decide_eq_false K];simp) ?_
    simp -implicitDefEqProofs [wE,yU,t,S,R,O,U,hQ,l,st,f0,T,f8,D,f9,o,f7,ad,d,N]
 ·obtain rfl:i=ps.length:=by omega
  rw [List.take_length] at u
  simp -implicitDefEqProofs [wE,yU,S,R]
  exact .inl ⟨_,s,rfl,Y,by simp [N],u⟩
theorem zA8:∀ (c:AvX) tm s,c.pre7 h tm s→c.post (zg7.run (Rk Tryz.prog (KN1 h) fun _=>ltI (AvX.pre7 h) AvX.post) tm s):=by
 have hS:=zk (zh (L:=fun _=>ltI (AvX.pre7 h) AvX.post) (show zo Tryz.prog (KN1 h) 52 from zxG h)) (X:=List V × Ex) rfl
 have hW:=zk (zh (L:=fun _=>ltI (AvX.pre7 h) AvX.post) (zBF h)) (X:=V × List Int) rfl
 refine zL (L:=fun _=>ltI (AvX.pre7 h) AvX.post) zt zxi rfl (fun tm _=>9223372036854775808 - (toI (gp 3 tm)).toNat) (fun x a h=>by rcases h with ⟨_,_,rfl,_⟩ | ⟨_,_,rfl,_⟩<;>exact fun h=>h) ?_
 rintro ⟨p,ps,a,C,b⟩ tm s ⟨y,Y,⟨I,N⟩,i,hi,Q,u⟩ J
 show AvX.post _ (zg7.run _ tm _)
 generalize Rk Tryz.prog _ _=r at J hS hW ⊢
 obtain ⟨⟨B,f,ai⟩,M,G,hz,ae,g⟩:=id y
 simp only at B f ai M G hz Y I hi u ae g
 have R:∀ k:V→S→Go.Ev.A,zd false 1 (.ptr a 0 1) s k=k p s:=fun k=>by rw [(ae.ext Y).fld 1 (by omega),g]
 have o:∀ c:V→Go.Ev.A,zm p c=c (iv .i64 (ps.length:Int)):=fun c=>by rw [B.len,f]
 by_cases O:i<ps.length
 ·have aa:=(M i O).ext Y
  have aj:=hz _ (kai O)
  obtain ⟨q,U,hQ⟩:=jE (B.ext Y).1 f O (by rw [zV B Y];exact aa.cells.2)
  rw [zV B Y] at hQ
  obtain ⟨s0,s1,bb,j,-,t,st⟩:=zbE s (Z:=[iv .i64 0,iv .i64 0,iv .i64 0,.str [],iv .i64 0,iv .i64 0,.nil 1,.bool false,.nil 1,.nil 1]) (el:=42) aa.cells.1 rfl aa.cells.2
  have P1:=bb.pa (aa.ext j)
  obtain ⟨e,f0,z⟩:=P1.f0
  obtain ⟨_,W,T,w,rfl⟩:=hS (e,_) _ s1 ⟨rfl,z,G.ext (Y.trans j),aj⟩
  have P2:=(bb.ext w).pa (aa.ext (j.trans w))
  obtain ⟨vb,f8,ak⟩:=P2.f8
  obtain ⟨va,f9,ah⟩:=P2.f9
  have f7:=P2.f7
  have ad:=ah.lenS
  obtain ⟨_,W,D,rfl,rfl⟩:=hW (vb,_) _ W ⟨rfl,ak⟩
  obtain ⟨_,W,l,rfl,rfl⟩:=hW (va,_) _ W ⟨rfl,ah⟩
  have E:=(Y.trans j).trans w
  have bad:∀ x,zdx ps[i]=false→(∃ F,x=.ret F W∧gp 240 F=.bad∧gp 2 F=.bool false)→AvX.post ⟨p,ps,a,C,b⟩ x:=fun x B ⟨F,M,n,v⟩=>.inr ⟨F,W,M,E,n,v,zdO O B⟩
  have m:IntKind.i64.wrap ((i:Int)+1)=((i+1:Nat):Int):=w64
  have next:zdx ps[i]=true→∀ F,(gp 1 F=.ptr a 0 0∧gp 240 F=.bad)→gp 3 F=iv .i64 ((i+1:Nat):Int)→AvX.post ⟨p,ps,a,C,b⟩ (r.code zma zjb F W):=fun B F k k8 =>
   J ⟨p,ps,a,C,b⟩ F W (by rw [k8,Q,zp,zp];omega) ⟨y,E,k,i+1,O,k8,by rw [zcA O,u];exact B⟩
  unfold zdx at bad next
  generalize ps[i]=pd at *
  obtain ⟨xe,cp,bf,af⟩:=pd
  simp only at T D l bad next f7 ad
  cases n:zho xe with
  | false =>
   rw [show (zQ okN xe && zQ qr xe)=false from n] at T
   refine bad _ (by rw [n];rfl) ?_
   simp -implicitDefEqProofs [zbg,wf,I,Q,R,o,O,U,hQ,t,st,f0,T,N]
  | true =>
  rw [show (zQ okN xe && zQ qr xe)=true from n] at T
  cases v:wOk 40 500 bf with
  | false =>
   rw [v] at D
   refine bad _ (by rw [v,Bool.false_and,Bool.and_false]) ?_
   simp -implicitDefEqProofs [zbg,wf,I,Q,R,o,O,U,hQ,t,st,f0,T,f8,D,N]
  | true =>
  rw [v] at D
  cases k3:wOk 40 500 af with
  | false =>
   rw [k3] at l
   refine bad _ (by rw [k3,Bool.false_and,Bool.and_false,Bool.and_false]) ?_
   simp -implicitDefEqProofs [zbg,wf,I,Q,R,o,O,U,hQ,t,st,f0,T,f8,D,f9,l,N]
  | true =>
  rw [k3] at l
  cases cp with
  | true =>
   have next:=next (by rw [n,v,k3];rfl)
   simp -implicitDefEqProofs [zbg,wf,I,Q,R,o,O,U,hQ,t,st,f0,T,f8,D,f9,l,f7,m]
   apply next<;>simp [I,N]
  | false =>
   by_cases K:af=[]
   ·subst K
    have next:=next (by rw [n,v,k3];rfl)
    simp -implicitDefEqProofs [zbg,wf,I,Q,R,o,O,U,hQ,t,st,f0,T,f8,D,f9,l,f7,ad,m]
    apply next<;>simp [I,N]
   ·have d:0<af.length:=List.length_pos_iff.2 K
    refine bad _ (by rw [decide_eq_false K];simp) ?_
    simp -implicitDefEqProofs [zbg,wf,I,Q,R,o,O,U,hQ,t,st,f0,T,f8,D,f9,l,f7,ad,d,N]
 ·obtain rfl:i=ps.length:=by omega
  rw [List.take_length] at u
  simp -implicitDefEqProofs [zbg,wf,I,Q,R,o]
  exact .inl ⟨_,s,rfl,Y,by simp [N],u⟩
theorem zBi (h:Nat):zo Tryz.prog (KN1 h) 18:=by
 have e:=zyA (h:=h)
 have n:=zk (zh (L:=fun _=>ltI (AvX.preA h) AvX.post) (show zo Tryz.prog (KN1 h) 47 from zoY h)) (X:=List V × Ex) rfl
 refine zr (L:=fun _=>ltI (AvX.preA h) AvX.post) zt (K:=KN1 h) (X:=List V × RuD) rfl ?_
 rintro ⟨C,R⟩ a s ⟨rfl,hR,F,ae,ah,ai⟩
 generalize Rk Tryz.prog _ _=r at e n ⊢
 have Y:=ji hR.cells.1
 obtain ⟨M,w,t⟩:=qT s (el:=38) hR.cells.1 hR.cells.2
 generalize zY s (.row C 16 38 false 0 0 0)=s1 at *
 have R1:=M.ru (hR.ext w)
 have f0:=R1.f0
 obtain ⟨p,f1,⟨Z,u,aj⟩,ak,ad⟩:=R1.f1
 obtain ⟨el,f2,al⟩:=R1.f2
 obtain ⟨_,W,T,q,rfl⟩:=n (el,_) _ s1 ⟨rfl,al,F.ext w,ae⟩
 have R2:=(M.ext q).ru (hR.ext (w.trans q))
 obtain ⟨er,f9,an⟩:=R2.f9
 obtain ⟨_,m,D,b,rfl⟩:=n (er,_) _ W ⟨rfl,an,F.ext (w.trans q),ah⟩
 have b3:=M.ext (q.trans b)
 have z:∀ k:V→S→Go.Ev.A,zd false 1 (.ptr s.nx 0 1) m k=k p m:=fun k=>by rw [b3.fld 1 (by omega),ad]
 have o:∀ c:V→Go.Ev.A,zm p c=c (iv .i64 (R.ps.length:Int)):=fun c=>by rw [Z.len,u]
 have ao:=Z.ext (q.trans b)
 have aa:AvX.base h ⟨p,R.ps,s.nx,C,m⟩:=⟨⟨ao.1,u,aj⟩,fun i hi=>by show PaR h m (rwC 10 m p i) R.ps[i];rw [zV Z (q.trans b)];exact (ak i hi).ext (q.trans b),F.ext (w.trans (q.trans b)),ai,b3,ad⟩
 obtain ⟨k,ps,l,rr⟩:=R
 simp only at T D
 have f0:∀ f:V→S→Go.Ev.A,zd false 1 (.ptr s.nx 0 0) s1 f=f (iv .i64 k) s1:=R1.f0
 have o:∀ c:V→Go.Ev.A,zm p c=c (iv .i64 (ps.length:Int)):=o
 show ∃ (v:V) (U:S),_∧Ext s U∧v=V.bool (decide ((1≤k∧k≤6)∧1≤ps.length∧ps.length≤20) && (zho l && (zho rr && ps.all zdx)))
 by_cases B:(1≤k∧k≤6)∧1≤ps.length∧ps.length≤20
 rotate_left
 ·refine ⟨.bool false,s1,?_,w,by rw [decide_eq_false B];rfl⟩
  by_cases j:k<1
  ·simp -implicitDefEqProofs [yU,Y,t,f0,j]
  ·by_cases d:6<k
   ·simp -implicitDefEqProofs [yU,Y,t,f0,j,d]
   ·by_cases x:(ps.length:Int)<1
    ·simp -implicitDefEqProofs [yU,Y,t,f0,j,d,f1,o,x]
    ·have y:(20<(ps.length:Int))=True:=eq_true (by omega)
     simp -implicitDefEqProofs [yU,Y,t,f0,j,d,f1,o,x,y]
 have j:(k<1)=False:=eq_false (by omega)
 have d:(6<k)=False:=eq_false (by omega)
 have x:((ps.length:Int)<1)=False:=eq_false (by omega)
 have y:(20<(ps.length:Int))=False:=eq_false (by omega)
 rw [decide_eq_true B]
 cases I:zho l with
 | false =>
  rw [show (zQ okN l && zQ qr l)=false from I] at T
  refine ⟨.bool false,W,?_,w.trans q,rfl⟩
  simp -implicitDefEqProofs [yU,Y,t,f0,j,d,f1,o,x,y,f2,T]
 | true =>
 rw [show (zQ okN l && zQ qr l)=true from I] at T
 cases J:zho rr with
 | false =>
  rw [show (zQ okN rr && zQ qr rr)=false from J] at D
  refine ⟨.bool false,m,?_,w.trans (q.trans b),rfl⟩
  simp -implicitDefEqProofs [yU,Y,t,f0,j,d,f1,o,x,y,f2,T,f9,D]
 | true =>
 rw [show (zQ okN rr && zQ qr rr)=true from J] at D
 generalize g:(fnC zf 18).run r _ _=F0
 simp -implicitDefEqProofs [yU,Y,t,f0,j,d,f1,o,x,y,f2,T,f9,D,z] at g
 generalize B:zdQ.run r _ m=A1 at g
 rcases B▸e ⟨p,ps,s.nx,C,m⟩ _ m ⟨aa,Ext.refl m,⟨by simp,by simp,by simp⟩,0,Nat.zero_le _,by simp,by simp⟩ with ⟨N,O,rfl,E4,G,E⟩ | ⟨N,O,rfl,E4,G,Q,E⟩
 ·simp -implicitDefEqProofs [G] at g
  exact ⟨_,O,g.symm,w.trans (q.trans (b.trans E4)),by rw [show ps.all zdx=true from E];rfl⟩
 ·simp -implicitDefEqProofs [G,Q] at g
  exact ⟨_,O,g.symm,w.trans (q.trans (b.trans E4)),by rw [show ps.all zdx=false from E];rfl⟩
theorem zDc (h:Nat):zo Tryz.prog (KN1 h) 25:=by
 have e:=zA8 (h:=h)
 have n:=zk (zh (L:=fun _=>ltI (AvX.pre7 h) AvX.post) (show zo Tryz.prog (KN1 h) 52 from zxG h)) (X:=List V × Ex) rfl
 refine zr (L:=fun _=>ltI (AvX.pre7 h) AvX.post) zt (K:=KN1 h) (X:=List V × RuD) rfl ?_
 rintro ⟨C,R⟩ a s ⟨rfl,hR,F,ae,ah,ai⟩
 generalize Rk Tryz.prog _ _=r at e n ⊢
 have Y:=ji hR.cells.1
 obtain ⟨M,w,t⟩:=qT s (el:=38) hR.cells.1 hR.cells.2
 generalize zY s (.row C 16 38 false 0 0 0)=s1 at *
 have R1:=M.ru (hR.ext w)
 have f0:=R1.f0
 obtain ⟨p,f1,⟨Z,u,aj⟩,ak,ad⟩:=R1.f1
 obtain ⟨el,f2,al⟩:=R1.f2
 obtain ⟨_,W,T,q,rfl⟩:=n (el,_) _ s1 ⟨rfl,al,F.ext w,ae⟩
 have R2:=(M.ext q).ru (hR.ext (w.trans q))
 obtain ⟨er,f9,an⟩:=R2.f9
 obtain ⟨_,m,D,b,rfl⟩:=n (er,_) _ W ⟨rfl,an,F.ext (w.trans q),ah⟩
 have b3:=M.ext (q.trans b)
 have z:∀ k:V→S→Go.Ev.A,zd false 1 (.ptr s.nx 0 1) m k=k p m:=fun k=>by rw [b3.fld 1 (by omega),ad]
 have o:∀ c:V→Go.Ev.A,zm p c=c (iv .i64 (R.ps.length:Int)):=fun c=>by rw [Z.len,u]
 have ao:=Z.ext (q.trans b)
 have aa:AvX.base h ⟨p,R.ps,s.nx,C,m⟩:=⟨⟨ao.1,u,aj⟩,fun i hi=>by show PaR h m (rwC 10 m p i) R.ps[i];rw [zV Z (q.trans b)];exact (ak i hi).ext (q.trans b),F.ext (w.trans (q.trans b)),ai,b3,ad⟩
 obtain ⟨k,ps,l,rr⟩:=R
 simp only at T D
 have f0:∀ f:V→S→Go.Ev.A,zd false 1 (.ptr s.nx 0 0) s1 f=f (iv .i64 k) s1:=R1.f0
 have o:∀ c:V→Go.Ev.A,zm p c=c (iv .i64 (ps.length:Int)):=o
 show ∃ (v:V) (U:S),_∧Ext s U∧v=V.bool (decide ((1≤k∧k≤6)∧1≤ps.length∧ps.length≤20) && (zho l && (zho rr && ps.all zdx)))
 by_cases B:(1≤k∧k≤6)∧1≤ps.length∧ps.length≤20
 rotate_left
 ·refine ⟨.bool false,s1,?_,w,by rw [decide_eq_false B];rfl⟩
  by_cases j:k<1
  ·simp -implicitDefEqProofs [wf,Y,t,f0,j]
  ·by_cases d:6<k
   ·simp -implicitDefEqProofs [wf,Y,t,f0,j,d]
   ·by_cases x:(ps.length:Int)<1
    ·simp -implicitDefEqProofs [wf,Y,t,f0,j,d,f1,o,x]
    ·have y:(20<(ps.length:Int))=True:=eq_true (by omega)
     simp -implicitDefEqProofs [wf,Y,t,f0,j,d,f1,o,x,y]
 have j:(k<1)=False:=eq_false (by omega)
 have d:(6<k)=False:=eq_false (by omega)
 have x:((ps.length:Int)<1)=False:=eq_false (by omega)
 have y:(20<(ps.length:Int))=False:=eq_false (by omega)
 rw [decide_eq_true B]
 cases I:zho l with
 | false =>
  rw [show (zQ okN l && zQ qr l)=false from I] at T
  refine ⟨.bool false,W,?_,w.trans q,rfl⟩
  simp -implicitDefEqProofs [wf,Y,t,f0,j,d,f1,o,x,y,f2,T]
 | true =>
 rw [show (zQ okN l && zQ qr l)=true from I] at T
 cases J:zho rr with
 | false =>
  rw [show (zQ okN rr && zQ qr rr)=false from J] at D
  refine ⟨.bool false,m,?_,w.trans (q.trans b),rfl⟩
  simp -implicitDefEqProofs [wf,Y,t,f0,j,d,f1,o,x,y,f2,T,f9,D]
 | true =>
 rw [show (zQ okN rr && zQ qr rr)=true from J] at D
 generalize g:(fnC zf 25).run r _ _=F0
 simp -implicitDefEqProofs [wf,Y,t,f0,j,d,f1,o,x,y,f2,T,f9,D] at g
 generalize B:zg7.run r _ m=A1 at g
 rcases B▸e ⟨p,ps,s.nx,C,m⟩ _ m ⟨aa,Ext.refl m,⟨by simp,by simp⟩,0,Nat.zero_le _,by simp,by simp⟩ with ⟨N,O,rfl,E4,G,E⟩ | ⟨N,O,rfl,E4,G,Q,E⟩
 ·simp -implicitDefEqProofs [G] at g
  exact ⟨_,O,g.symm,w.trans (q.trans (b.trans E4)),by rw [show ps.all zdx=true from E];rfl⟩
 ·simp -implicitDefEqProofs [G,Q] at g
  exact ⟨_,O,g.symm,w.trans (q.trans (b.trans E4)),by rw [show ps.all zdx=false from E];rfl⟩
theorem zzv (h:Nat):zo Tryz.prog (KN1 h) 17:=by
 have p:=zk (zh (L:=noL) (zBi h)) (X:=List V × RuD) rfl
 refine zr (L:=noL) zt (K:=KN1 h) (X:=List V × RuD) rfl ?_
 rintro ⟨C,R⟩ a s ⟨rfl,Q,F,hz⟩
 generalize Rk Tryz.prog _ _=r at p ⊢
 have Y:=ji Q.cells.1
 obtain ⟨Z,j,t⟩:=qT s (el:=38) Q.cells.1 Q.cells.2
 generalize zY s (.row C 16 38 false 0 0 0)=s1 at *
 have B:∀ k:V→S→Go.Ev.A,zd true 16 (.ptr s.nx 0 0) s1 k=k (.ls 0 C) s1:=Z.all
 obtain ⟨_,W,T,q,rfl⟩:=p (C,R) _ s1 ⟨rfl,Q.ext j,F.ext j,hz⟩
 refine ⟨_,W,?_,j.trans q,rfl⟩
 simp -implicitDefEqProofs [zx9,Y,t,B,T]
structure IrX' where
 v:V
 l:List RuD
 b:S
def IrX'.base (h:Nat) (c:IrX'):Prop:=zbY h c.b c.v c.l∧yd c.b∧∀ r∈c.l,RuS r
def zv1 (r:RuD):Bool:=!zca r
def IrX'.pre (h:Nat) (c:IrX') (tm:T) (s:S):Prop:=c.base h∧Ext c.b s∧(gp 0 tm=c.v∧gp 1 tm=.fn (.func 17) [] []∧gp 6 tm=iv .i64 (c.l.length:Int)∧gp 240 tm=.bad)∧∃ i:Nat,i≤c.l.length∧gp 7 tm=iv .i64 (i:Int)∧(c.l.take i).any zv1=false
def IrX'.post (c:IrX') (x:Go.Ev.A):Prop:=(∃ N s,x=.ext 0 N s∧Ext c.b s∧gp 240 N=.bad∧c.l.any zv1=false)∨∃ N s,∃ i:Nat,x=.ret N s∧Ext c.b s∧gp 240 N=.bad∧gp 4 N=iv .i64 (i:Int)∧c.l.any zv1=true
theorem zC4:∀ (c:IrX') tm s,c.pre h tm s→c.post (zaY.run (Rk Tryz.prog (KN1 h) fun _=>ltI (IrX'.pre h) IrX'.post) tm s):=by
 have p:=zk (zh (L:=fun _=>ltI (IrX'.pre h) IrX'.post) (zzv h)) (X:=List V × RuD) rfl
 refine zL (L:=fun _=>ltI (IrX'.pre h) IrX'.post) zt zp5 rfl (fun tm _=>(toI (gp 6 tm)).toNat - (toI (gp 7 tm)).toNat) (fun x a h=>by rcases h with ⟨_,_,rfl,_⟩ | ⟨_,_,_,rfl,_⟩<;>exact fun h=>h) ?_
 rintro ⟨v,l,b⟩ tm s ⟨y,Y,⟨h0,I,t,N⟩,i,hi,g,E⟩ J
 show IrX'.post _ (zaY.run _ tm _)
 generalize Rk Tryz.prog _ _=r at J p ⊢
 obtain ⟨⟨⟨Z,f,D⟩,M⟩,K,hz⟩:=id y
 simp only at Z f D M K hz Y h0 I t hi E
 by_cases O:i<l.length
 ·have B:=(M i O).ext Y
  have C:=hz _ (kai O)
  obtain ⟨q,U,z⟩:=jE (Z.ext Y).1 f O (by rw [zV Z Y];exact B.cells.2)
  rw [zV Z Y] at z
  obtain ⟨_,W,T,j,rfl⟩:=p (rwC 16 b v i,l[i]) _ s ⟨rfl,B,K.ext Y,C⟩
  have n:IntKind.i64.wrap ((i:Int)+1)=((i+1:Nat):Int):=w64
  cases Z:zv1 l[i] with
  | true =>
   rw [show (!zca l[i])=true from Z] at T
   simp -implicitDefEqProofs [zen,h0,I,t,g,O,U,z,T]
   exact .inr ⟨_,W,i,rfl,Y.trans j,by simp [N],by simp,zjo O Z⟩
  | false =>
   rw [show (!zca l[i])=false from Z] at T
   have next:∀ F,(gp 0 F=v∧gp 1 F=.fn (.func 17) [] []∧gp 6 F=iv .i64 (l.length:Int)∧gp 240 F=.bad)→gp 7 F=iv .i64 ((i+1:Nat):Int)→IrX'.post ⟨v,l,b⟩ (r.code zeR zc0 F W):=fun F k e =>
    J ⟨v,l,b⟩ F W (by rw [k.2.2.1,e,t,g,zp,zp,zp];omega) ⟨y,Y.trans j,k,i+1,O,e,by rw [zdC O,E];exact Z⟩
   simp -implicitDefEqProofs [zen,h0,I,t,g,O,U,z,T,n]
   apply next<;>simp [h0,I,t,N]
 ·obtain rfl:i=l.length:=by omega
  rw [List.take_length] at E
  simp -implicitDefEqProofs [zen,t,g]
  exact .inl ⟨_,s,rfl,Y,by simp [N],E⟩
theorem zr4 (h:Nat):zo Tryz.prog (KN1 h) 46:=by
 have e:=zC4 (h:=h)
 refine zr (L:=fun _=>ltI (IrX'.pre h) IrX'.post) zt (K:=KN1 h) (X:=V × List RuD) rfl ?_
 rintro ⟨v,l⟩ a s ⟨rfl,y⟩
 generalize Rk Tryz.prog _ _=r at e ⊢
 have o:∀ c:V→Go.Ev.A,zm v c=c (iv .i64 (l.length:Int)):=fun c=>by rw [y.1.1.1.len,y.1.1.2.1]
 generalize g:(fnC zf 46).run r _ _=D
 simp -implicitDefEqProofs [zdh,o] at g
 generalize f:zaY.run r _ s=U at g
 rcases f▸e ⟨v,l,s⟩ _ s ⟨y,Ext.refl s,⟨by simp,by simp,by simp,by simp⟩,0,Nat.zero_le _,by simp,by simp⟩ with ⟨N,W,rfl,E,G,k⟩ | ⟨N,W,i,rfl,E,G,p,k⟩
 ·simp -implicitDefEqProofs [G] at g
  exact ⟨_,W,g.symm,E,-1,rfl,(show l.any zv1=false from k)▸rfl⟩
 ·simp -implicitDefEqProofs [G,p] at g
  exact ⟨_,W,g.symm,E,i,rfl,(decide_eq_true (by omega)).trans (show l.any zv1=true from k).symm⟩
theorem zoP (h:Nat):zo Tryz.prog (KN1 h) 16:=by
 have q:=zk (zh (L:=noL) (zr4 h)) (X:=V × List RuD) rfl
 refine zr (L:=noL) zt (K:=KN1 h) (X:=V × List RuD) rfl ?_
 rintro ⟨v,l⟩ a s ⟨rfl,y⟩
 generalize Rk Tryz.prog _ _=r at q ⊢
 obtain ⟨_,W,e,E,z,rfl,hz⟩:=q (v,l) _ s ⟨rfl,y⟩
 refine ⟨_,W,?_,E,rfl⟩
 rw [←hz]
 simp -implicitDefEqProofs [zoy,e]
structure Rw (s:S) (sz:Nat) (v:V) (L:List (List V)):Prop where
 sl:Sl s sz v
 len:qm v=L.length
 sz_:∀ x∈L,x.length=sz
 nb:∀ x∈L,∀ y∈x,y≠.bad
 at_:∀ i j,i<L.length→j<sz→qg s v (i*sz+j)=(L.getD i []).getD j .bad
variable {L:List (List V)}
theorem Rw.ext (h:Rw s sz v L) (e:Ext s U):Rw U sz v L:=by
 obtain ⟨I,J⟩:=h.sl.ext e
 exact ⟨I,h.len,h.sz_,h.nb,fun i j hi G=>by rw [J];exact h.at_ i j hi G⟩
theorem Rw.lenS (h:Rw s sz v L) (c:V→Go.Ev.A):zm v c=c (iv .i64 (L.length:Int)):=by rw [h.sl.len,h.len]
theorem Rw.row (h:Rw s sz v L) (hi:i<L.length):rwC sz s v i=L[i]:=by
 have C:=h.sz_ _ (kai hi)
 apply List.ext_getElem (by simp [rwC,C])
 intro j I J
 have G:j<sz:=by simpa [rwC] using I
 simp only [rwC,List.getElem_map,List.getElem_range]
 rw [h.at_ i j hi G]
 simp [kab hi,kab J]
theorem Rw.load (h:Rw s sz v L) (hi:i<L.length):∃ q,(∀ k c,ze sz v (iv k (i:Int)) c=c q)∧∀ k:V→S→Go.Ev.A,zd true sz q s k=k (.ls 0 L[i]) s:=by
 rw [←h.row hi]
 exact jE h.sl h.len hi (by rw [h.row hi];exact h.nb _ (kai hi))
theorem Rw.cells (h:Rw s sz v L) (hz:0<sz):(List.range (L.length*sz)).map (qg s v)=L.flatten:=by
 have z:=wY h.sz_
 apply List.ext_getElem (by simp [z])
 intro m I J
 have Y:m<L.length*sz:=by simpa using I
 have hi:m / sz<L.length:=Nat.div_lt_of_lt_mul (by rw [Nat.mul_comm];exact Y)
 have G:m % sz<sz:=Nat.mod_lt _ hz
 have e:m / sz*sz+m % sz=m:=by rw [Nat.mul_comm];exact Nat.div_add_mod _ _
 simp only [List.getElem_map,List.getElem_range]
 have:=h.at_ _ _ hi G
 rw [e] at this
 rw [this,←zeo h.sz_ hi G,e]
 simp [kab J]
variable {y:V}
theorem Rw.src (h:Rw s sz y L) (hz:0<sz) (c:Nat→List V→Go.Ev.A):qA sz y s c=c L.length L.flatten:=by
 have X:=h.cells hz
 have Z:∀ x∈L.flatten,x≠.bad:=fun x M=>by
  obtain ⟨l,u,M⟩:=List.mem_flatten.1 M
  exact h.nb l u x M
 have O:=h.len
 have run:∀ (a:Go.Ev.K) (w o len:Nat) (l:List V) (n el:Nat) (D:Bool) (W f1 f2:Nat),Tr.get B.none a s.h=.row l n el D W f1 f2→l.length=n→jV n D W w (o+len*sz)=true→(∀ j,qg s y j=l.getD (o+j) .bad)→qm y=len →
   zM s a w o (Nat.mul len sz) (fun l=>c len l)=c len L.flatten:=by
  intro a w o len l n el D W f1 f2 R U g E F
  have z:len=L.length:=by rw [←F];exact O
  have C:=zwg g
  unfold zM
  rw [qb,R]
  show (Bool.rec (motive:=fun _=>Go.Ev.A) _ _ (jV n D W w (Nat.add o (Nat.mul len sz))):Go.Ev.A)=_
  rw [show jV n D W w (Nat.add o (Nat.mul len sz))=true from g]
  show zem o l _=_
  have e:=zfF (l:=l) (o:=o) (sz:=len*sz) (f:=qg s y) (by omega) (fun j _=>(E j).symm)
  rw [z,X] at e
  rw [jY]
  show zil (len*sz) _ _=_
  rw [zez _ _ _ (by rw [z,e];exact Z),z,e]
 rcases h.sl with (rfl | ⟨N,rfl⟩) | ⟨a,w,o,len,⟨cap,rfl,_⟩ | ⟨e,rfl⟩,_,l,n,el,D,W,f1,f2,R,U,g⟩
 ·obtain rfl:L=[]:=kap.1 h.len.symm
  rfl
 ·obtain rfl:L=[]:=kap.1 h.len.symm
  rfl
 ·show zM s a w o (Nat.mul len sz) (fun l=>c len l)=_
  rw [run a w o len l n el D W f1 f2 R U g (fun j=>by simp [qg,R,yR]) rfl]
  rw [show len=L.length from O]
 ·show zM s a w o (Nat.mul len sz) (fun l=>c len l)=_
  rw [run a w o len l n el D W f1 f2 R U g (fun j=>by simp [qg,R,yR]) rfl]
  rw [show len=L.length from O]
def FxE (el:Nat) (s:S) (v:V):Prop:=Fx v∨∃ a w o len e l n D W f1 f2,v=.so a w o len e∧a.toNat<s.nx.toNat∧Tr.get B.none a s.h=.row l n el D W f1 f2
theorem FxE.ext (h:FxE el s v) (e:Ext s U):FxE el U v:=by
 rcases h with h | ⟨a,w,o,len,p,l,n,D,W,f1,f2,rfl,I,J⟩
 ·exact .inl h
 ·exact .inr ⟨a,w,o,len,p,l,n,D,W,f1,f2,rfl,kan I e.nx,(e.get a I).trans J⟩
variable {b:Nat} {u:V}
theorem Rw.cut (h:Rw s sz v L) {a:Nat} (Y:a≤b) (hb:b≤L.length) (U:Sl s sz u) (g:qm u=b - a) (E:∀ j,j<(b - a)*sz→qg s u j=qg s v (a*sz+j)):Rw s sz u ((L.drop a).take (b - a)):=by
 have f:((L.drop a).take (b - a)).length=b - a:=by simp;omega
 refine ⟨U,by rw [g,f],fun x M=>h.sz_ x (List.mem_of_mem_drop (List.mem_of_mem_take M)),fun x M=>h.nb x (List.mem_of_mem_drop (List.mem_of_mem_take M)),fun i j hi G=>?_⟩
 rw [f] at hi
 have:i*sz+sz≤(b - a)*sz:=by rw [←Nat.succ_mul];exact kag _ (by omega)
 rw [E _ (by omega),show a*sz+(i*sz+j)=(a+i)*sz+j by rw [Nat.add_mul];omega,h.at_ (a+i) j (by omega) G]
 congr 1
 rw [kaa,kaa,List.getElem?_take_of_lt hi,List.getElem?_drop]
theorem Rw.slice (h:Rw s sz v L) (hz:0<sz) (B:FxE el s v) {lo hi:Option V} {a:Nat} (I:bnd lo 0 a) (J:bnd hi L.length b) (ad:a≤b) (hb:b≤L.length) :
  ∃ u,(∀ c:V→Go.Ev.A,qu el sz v lo hi none s c=c u)∧Rw s sz u ((L.drop a).take (b - a)):=by
 rcases B with B | ⟨k,w,o,len,p,l,n,D,W,f1,f2,rfl,N,d⟩
 ·obtain ⟨u,R,U,i,E,-⟩:=h.sl.slice B I (by rw [h.len];exact J) ad (by rw [h.len];exact hb)
  exact ⟨u,fun c=>R el c,h.cut ad hb U i E⟩
 ·have X:len=L.length:=h.len
  rcases h.sl with (g | ⟨Q,g⟩) | ⟨Y,T,o',aa,⟨cap,g,_⟩ | ⟨f,g⟩,O,l',n',ai,aj,ak,al,an,R,U,i⟩
  ·cases g
  ·cases g
  ·cases g
  ·cases g
   rw [d] at R
   cases R
   have t:b≤(Bool.rec len (Nat.div (Nat.sub n o) sz) (zB D (Nat.beq w n)):Nat):=by
    cases M:zB D (Nat.beq w n) with
    | false=>show b≤len;omega
    | true =>
     show b≤(n - o) / sz
     rw [zgZ,kaf] at M
     have m:=kac M.2
     subst m
     have F:o+len*sz≤w:=by rcases ql.1 i with ⟨-,-,q,Z⟩ | ⟨-,q⟩<;>omega
     refine (Nat.le_div_iff_mul_le hz).2 ?_
     have:b*sz≤len*sz:=kag _ (by omega)
     omega
   have key:∀ c:V→Go.Ev.A,qu el sz (.so k w o len p) lo hi none s c=(Bool.rec (motive:=fun _=>Go.Ev.A) (c (.so k w (o+a*sz) (b - a) (p+a))) (Bool.rec (motive:=fun _=>Go.Ev.A) (c (.ref 1 k)) (c (.so k w o 0 p)) (Nat.beq a 0)) (Nat.beq a b)):=by
    intro c
    show qk s k _=_
    rw [qb,d]
    show (Bool.rec (motive:=fun _=>Go.Ev.A) _ _ (Nat.beq el el):Go.Ev.A)=_
    rw [kaF]
    show fN (Bool.rec len (Nat.div (Nat.sub n o) sz) (zB D (Nat.beq w n))) _=_
    rw [zE]
    generalize (Bool.rec len (Nat.div (Nat.sub n o) sz) (zB D (Nat.beq w n)):Nat)=sure at t
    show qw lo 0 (fun x=>qw hi len fun y=>(Bool.rec (motive:=fun _=>Go.Ev.A) eA (Bool.rec (motive:=fun _=>Go.Ev.A) (fN (Nat.sub y x) (fun aa=>fN (Nat.add p x) fun f=>fN (Nat.add o (Nat.mul x sz)) fun o'=>c (.so k w o' aa f))) (Bool.rec (motive:=fun _=>Go.Ev.A) (c (.ref 1 k)) (c (.so k w o 0 p)) (Nat.beq x 0)) (Nat.beq x y)) (zB (Nat.ble x y) (Nat.ble y sure)):Go.Ev.A))=_
    rw [I.run,(by rw [X];exact J:bnd hi len b).run]
    rw [show zB (Nat.ble a b) (Nat.ble b sure)=true by rw [kah ad,kah t];rfl]
    show (Bool.rec (motive:=fun _=>Go.Ev.A) (fN (Nat.sub b a) (fun aa=>fN (Nat.add p a) fun f=>fN (Nat.add o (Nat.mul a sz)) fun o'=>c (.so k w o' aa f))) _ (Nat.beq a b):Go.Ev.A)=_
    simp only [zE]
    rfl
   have ah:a*sz≤b*sz:=kag _ ad
   have ao:b*sz≤len*sz:=kag _ (by omega)
   by_cases z:a=b
   ·subst z
    have ae:∀ u,Sl s sz u→qm u=0→Rw s sz u ((L.drop a).take (a - a)):=fun u C r=>h.cut (kad _) hb C (by omega) (fun j G=>by simp at G)
    by_cases K:a=0
    ·subst K
     exact ⟨.so k w o 0 p,fun c=>by rw [key c];rfl,ae _ (.inr ⟨k,w,o,0,.inr ⟨p,rfl⟩,O,l,n,el,D,W,f1,f2,d,U,zcY i (by omega)⟩) rfl⟩
    ·refine ⟨.ref 1 k,fun c=>?_,ae _ (.inl (.inr ⟨k,rfl⟩)) rfl⟩
     rw [key c,kaF,show Nat.beq a 0=false by
      cases e:Nat.beq a 0 with
      | true=>exact absurd (kac e) K
      | false=>rfl]
   ·refine ⟨.so k w (o+a*sz) (b - a) (p+a),fun c=>?_,h.cut ad hb (.inr ⟨k,w,_,b - a,.inr ⟨p+a,rfl⟩,O,l,n,el,D,W,f1,f2,d,U,zcY i ?_⟩) rfl (fun j G=>?_)⟩
    ·rw [key c,show Nat.beq a b=false by
      cases e:Nat.beq a b with
      | true=>exact absurd (kac e) z
      | false=>rfl]
    ·rw [Nat.sub_mul];omega
    ·simp only [qg,d,yR]
     rw [kaI]
variable {b:S}
theorem Gz.rw (h:Gz el sz b s v L) (C:∀ x∈L,x.length=sz) (o:∀ x∈L,∀ y∈x,y≠.bad):Rw s sz v L:=by
 obtain ⟨I,J,Q⟩:=h.sl
 exact ⟨I,J,C,o,Q⟩
theorem Gz.fxE (h:Gz el sz b s v L):FxE el s v:=by
 rcases h with ⟨rfl,-⟩ | ⟨a,W,rfl,I,J,Q,K,d⟩
 ·exact .inl trivial
 ·exact .inr ⟨a,_,_,_,_,_,_,_,_,_,_,rfl,J,K⟩
def yA (w:List Int):List (List V):=w.map fun z=>[iv .i64 z]
theorem Wd.rw (h:Wd s v w):Rw s 1 v (yA w):=by
 refine ⟨h.1.1,by simp [yA,h.len],fun x M=>?_,fun x M y Y=>?_,fun i j hi G=>?_⟩
 ·obtain ⟨z,_,rfl⟩:=kau.1 M;rfl
 ·obtain ⟨z,_,rfl⟩:=kau.1 M
  rw [kak.1 Y];exact qG _ _
 ·have N:i<w.length:=by simpa [yA] using hi
  obtain rfl:j=0:=by omega
  rw [kaz,Nat.add_zero,h.1.2.2 i (by rw [h.len];exact N)]
  have:w[i]?=some (zkl s v i):=by rw [←h.2];exact zo2 (by rw [h.len];exact N)
  rw [kab N] at this
  have:=Option.some.inj this
  simp [yA,kab N,this,zkl]
theorem Rw.wd (h:Rw s 1 v (yA w)) (f:w.length≤9223372036854775807):Wd s v w:=by
 have O:qm v=w.length:=by rw [h.len];simp [yA]
 have X:∀ i (hi:i<w.length),qg s v i=iv .i64 w[i]:=fun i hi=>by
  have:=h.at_ i 0 (by simpa [yA] using hi) (by omega)
  rw [kaz,Nat.add_zero] at this
  rw [this]
  simp [yA,kab hi]
 refine ⟨⟨h.sl,by omega,fun j G=>?_⟩,?_⟩
 ·rw [X j (by omega),zp]
 ·apply List.ext_getElem (by simp [O])
  intro i I J
  simp [word,zkl,X i J,zp]
structure AcD where
 f1:V
 f2:V
 a:Go.Ev.K
 ea:Nat
 el:Nat
 sz:Nat
 x:List (List V)
 nw:Int→List V
def own (a:Go.Ev.K) (s:S) (c:Go.Ev.K):Prop:=c=a∨∃ w e,Tr.get B.none a s.h=.row [w] 1 e false 0 0 0∧qi w=some c
structure FrA (a:Go.Ev.K) (s s':S):Prop where
 nx:s.nx.toNat≤s'.nx.toNat
 get:∀ c:Go.Ev.K,c.toNat<s.nx.toNat→¬own a s c→Tr.get B.none c s'.h=Tr.get B.none c s.h
 own_:∀ c,own a s' c→own a s c∨s.nx.toNat≤c.toNat
theorem FrA.refl (a:Go.Ev.K) (s:S):FrA a s s:=⟨kad _,fun _ _ _=>rfl,fun _ h=>.inl h⟩
theorem FrA.trans {s1 W:S} (h:FrA a s s1) (g:FrA a s1 W):FrA a s W:=by
 refine ⟨kaB h.nx g.nx,fun c X o=>?_,fun c X=>?_⟩
 ·rw [g.get c (kan X h.nx) (fun C=>(h.own_ c C).elim o fun h=>by omega),h.get c X o]
 ·rcases g.own_ c X with C | C
  ·exact h.own_ c C
  ·exact .inr (kaB h.nx C)
structure Acc (q:AcD) (b s:S) (L:List (List V)) (w:V):Prop where
 ext:Ext b s
 bx:Bx s q.a [w] 1 q.ea
 lo:b.nx.toNat≤q.a.toNat
 gz:Gz q.el q.sz b s w L
 sz_:∀ x∈L,x.length=q.sz
 nb:∀ x∈L,∀ y∈x,y≠.bad
def yu (q:AcD) (b s:S) (L:List (List V)):Prop:=∃ w,Acc q b s L w
variable {c:Go.Ev.K} {e:Nat} {w:V}
theorem zhN (h:Tr.get B.none a s.h=.row [w] 1 e false 0 0 0) (C:own a s c):c=a∨qi w=some c:=by
 rcases C with C | ⟨A,f,u,hb⟩
 ·exact .inl C
 ·rw [h] at u
  cases u
  exact .inr hb
variable {q:AcD}
theorem Acc.own_ (h:Acc q b s L w) (C:own q.a s c):b.nx.toNat≤c.toNat∧c.toNat<s.nx.toNat:=by
 rcases zhN h.bx.1 C with rfl | hb
 ·exact ⟨h.lo,h.bx.2.2.2⟩
 ·exact h.gz.blk hb
theorem yu.ext (h:yu q b s L):Ext b s:=h.choose_spec.ext
theorem yu.own_ (h:yu q b s L) (C:own q.a s c):b.nx.toNat≤c.toNat∧c.toNat<s.nx.toNat:=h.choose_spec.own_ C
theorem yu.mono (h:yu q b s L) (e:Ext s U):yu q b U L∧FrA q.a s U:=by
 obtain ⟨w,h⟩:=h
 refine ⟨⟨w,h.ext.trans e,h.bx.ext e,h.lo,h.gz.ext e,h.sz_,h.nb⟩,e.nx,fun c X _=>e.get c X,fun c X=>?_⟩
 rcases zhN (h.bx.ext e).1 X with rfl | hb
 ·exact .inl (.inl rfl)
 ·exact .inl (.inr ⟨w,_,h.bx.1,hb⟩)
def NB (a:Go.Ev.K) (s:S) (k:Go.Ev.K) (c:List V) (n el:Nat):Prop:=Bx s k c n el∧¬own a s k
variable {c:List V}
theorem NB.fr {k:Go.Ev.K} {n:Nat} (h:NB a s k c n el) (f:FrA a s U):NB a U k c n el :=
 ⟨⟨(f.get k h.1.2.2.2 h.2).trans h.1.1,h.1.2.1,h.1.2.2.1,kan h.1.2.2.2 f.nx⟩,fun C=>(f.own_ k C).elim h.2 fun g=>by have:=h.1.2.2.2;omega⟩
theorem NB.new (h:yu q b s L) {n:Nat} (f:c.length=n) (X:∀ x∈c,x≠.bad):NB q.a (zY s (.row c n el false 0 0 0)) s.nx c n el:=by
 obtain ⟨Z,p,-⟩:=qT s (el:=el) f X
 refine ⟨Z,fun C=>?_⟩
 rcases (h.mono p).2.own_ _ C with g | g
 ·have:=(h.own_ g).2;omega
 ·obtain ⟨w,h⟩:=h
  rcases zhN (h.bx.ext p).1 C with e | hb
  ·have:=h.bx.2.2.2;rw [←e] at this;omega
  ·have:=(h.gz.blk hb).2;omega
theorem Acc.step (h:Acc q b s L w) {x:List V} (hz:0<q.sz) (M:x.length=q.sz) (o:∀ y∈x,y≠.bad) (u:L.length+1≤68719476736) :
  ∃ F W m,(∀ k:V→S→Go.Ev.A,zd false 1 (.ptr q.a 0 0) s k=k w s)∧(∀ k:V→S→Go.Ev.A,zN q.el q.sz w (.sl s.nx 0 0 1 1) (zY s (.row x q.sz q.el false 0 0 0)) k=k F W)∧(∀ k:V→S→Go.Ev.A,zA 1 (.ptr q.a 0 0) F W k=k Go.Ev.undef m)∧yu q b m (L++[x])∧FrA q.a s m:=by
 obtain ⟨F,W,ap,T,f,v,E⟩:=h.gz.app1 h.ext.nx hz o M u
 have Z:qi w≠some q.a:=h.gz.ne_row h.bx.1
 have l:=h.bx.2.2.2
 have U:Tr.get B.none q.a W.h=.row [w] 1 q.ea false 0 0 0:=(v _ l Z).trans h.bx.1
 have D:qi F≠some q.a:=T.ne_row U
 refine ⟨F,W,yI W q.a (.row [F] 1 q.ea false 0 0 0),fun k=>h.bx.fld 0 (by omega) k,ap,fun k=>?_,⟨F,?_⟩,?_⟩
 ·exact js U 0 F T.cell1 (by omega) k
 ·refine ⟨⟨kaB h.ext.nx f,fun c X=>?_⟩,⟨by rw [z9,if_pos rfl],rfl,fun y Y=>by rw [kak.1 Y];exact T.nbad,kan l f⟩,h.lo,T.keep (kad _) (fun c X=>by rw [z9,if_neg (fun e=>by rw [e] at X;exact D X)]),fun y Y=>?_,fun y Y=>?_⟩
  ·rw [z9,if_neg (fun e=>by rw [e] at X;have:=h.lo;omega),v c (kan X h.ext.nx) (fun hb=>by have:=(h.gz.blk hb).1;omega)]
   exact h.ext.get c X
  ·rcases kaq.1 Y with Y | Y
   ·exact h.sz_ y Y
   ·rw [kak.1 Y];exact M
  ·rcases kaq.1 Y with Y | Y
   ·exact h.nb y Y
   ·rw [kak.1 Y];exact o
 ·refine ⟨f,fun c X C=>?_,fun c C=>?_⟩
  ·rw [z9,if_neg (fun e=>C (.inl e)),v c X (fun hb=>C (.inr ⟨w,_,h.bx.1,hb⟩))]
  ·rcases zhN (show Tr.get B.none q.a (yI W q.a (.row [F] 1 q.ea false 0 0 0)).h=_ by rw [z9,if_pos rfl]) C with rfl | hb
   ·exact .inl (.inl rfl)
   ·rcases E with g | g
    ·exact .inl (.inr ⟨w,_,h.bx.1,by rw [←g];exact hb⟩)
    ·exact .inr (g c hb)
def AcC (q:AcD) (b s:S):Prop :=
 (∃ xb O ex,q.f1=.fn (.func 58) [] [.ptr q.a 0 0,.ptr xb 0 0]∧q.f2=.fn (.func 59) [] [.ptr q.a 0 0]∧(q.el=3∧q.sz=1)∧NB q.a s xb [O] 1 ex∧(∃ w,q.x=yA w∧Wd b O w)∧q.nw=fun z=>[iv .i64 z]) ∨
 ∃ lb lv T xb C n D r,q.f1=.fn (.func 22) [] [.ptr q.a 0 0,.ptr lb 0 0]∧q.f2=.fn (.func 23) [] [.ptr q.a 0 0,.ptr xb 0 0]∧(q.el=55∧q.sz=2)∧NB q.a s lb [lv] 1 T∧Rw b 2 lv q.x∧NB q.a s xb C n D∧(C.getD 0 .bad=iv .i64 r∧0<n)∧q.nw=fun _=>[iv .i64 r,iv .i64 (-1)]
theorem AcC.fr (h:AcC q b s) (f:FrA q.a s U):AcC q b U:=by
 rcases h with ⟨xb,O,ex,I,J,Q,K,d⟩ | ⟨lb,lv,T,xb,C,n,D,r,I,J,Q,K,d,W,g⟩
 ·exact .inl ⟨xb,O,ex,I,J,Q,K.fr f,d⟩
 ·exact .inr ⟨lb,lv,T,xb,C,n,D,r,I,J,Q,K.fr f,d,W.fr f,g⟩
structure AcX where
 q:AcD
 b:S
 L:List (List V)
 i:Nat
 z:Int
def AcX.base (c:AcX) (s:S):Prop:=yu c.q c.b s c.L∧AcC c.q c.b s∧c.L.length+1≤68719476736
def AcX.st (c:AcX) (s U:S):Prop:=FrA c.q.a s U∧yu c.q c.b U (c.L++[c.q.x.getD c.i []])
def AcX.nw (c:AcX) (s U:S):Prop:=FrA c.q.a s U∧yu c.q c.b U (c.L++[c.q.nw c.z])
noncomputable def KN2 (h:Nat):Nat→Ct
 | 58=>ctI (X:=AcX) (fun c a s=>(∃ p,c.q.f1=.fn (.func 58) [] [.ptr c.q.a 0 0,p]∧a=[iv .i64 (c.i:Int),.ptr c.q.a 0 0,p])∧c.base s∧c.i<c.q.x.length) (fun c s _ U=>c.st s U)
 | 59=>ctI (X:=AcX) (fun c a s=>(c.q.f2=.fn (.func 59) [] [.ptr c.q.a 0 0]∧a=[iv .i64 c.z,.ptr c.q.a 0 0])∧c.base s) (fun c s _ U=>c.nw s U)
 | 22=>ctI (X:=AcX) (fun c a s=>(∃ p,c.q.f1=.fn (.func 22) [] [.ptr c.q.a 0 0,p]∧a=[iv .i64 (c.i:Int),.ptr c.q.a 0 0,p])∧c.base s∧c.i<c.q.x.length) (fun c s _ U=>c.st s U)
 | 23=>ctI (X:=AcX) (fun c a s=>(∃ p,c.q.f2=.fn (.func 23) [] [.ptr c.q.a 0 0,p]∧a=[iv .i64 c.z,.ptr c.q.a 0 0,p])∧c.base s) (fun c s _ U=>c.nw s U)
 | 51=>ctI (X:=AcX × Bool) (fun ⟨c,t⟩ a s=>a=[.ls 0 [c.q.f1,c.q.f2],iv .i64 (if t then 1 else 0),iv .i64 (if t then c.z else c.i)]∧c.base s∧(t=false→c.i<c.q.x.length)) (fun ⟨c,t⟩ s _ U=>if t then c.nw s U else c.st s U)
 | f=>KN1 h f
theorem zyR (h:Nat):zo Tryz.prog (KN2 h) 58:=by
 refine zr (L:=noL) zt (K:=KN2 h) (X:=AcX) rfl ?_
 rintro ⟨q,b,L,i,z⟩ a s ⟨⟨p,B,rfl⟩,⟨⟨w,f⟩,o,u⟩,hi⟩
 generalize Rk Tryz.prog _ _=r
 rcases o with ⟨xb,xv,ex,I,J,⟨Q,aa⟩,O,⟨wx,ad,d⟩,t⟩ | ⟨lb,lv,T,xb,C,n,D,rr,I,-⟩
 ·simp only at I J Q aa O d t B hi u f ad
  rw [I] at B
  cases B
  have fx:∀ k:V→S→Go.Ev.A,zd false 1 (.ptr xb 0 0) s k=k xv s:=O.1.fld 0 (by omega)
  have M:=d.ext f.ext
  have N:i<wx.length:=by rw [ad] at hi;simpa [yA] using hi
  obtain ⟨p,Z,G⟩:=M.at_ N
  obtain ⟨F,W,m,R,U,e,E,j⟩:=f.step (x:=[iv .i64 wx[i]]) (by omega) (by rw [aa];rfl) (fun y Y=>by rw [kak.1 Y];exact qG _ _) u
  rw [Q,aa] at U
  have l:∀ (c:Go.Ev.K→Nat→S→Go.Ev.A),Go.Ev.newRow s 3 [iv .i64 wx[i]] false c=c s.nx 1 (zY s (.row [iv .i64 wx[i]] 1 3 false 0 0 0)):=fun c=>zU s 3 _ false c
  have up:∀ x:V,upd [x] 0 (rep [iv .i64 0] 1)=[x]:=fun _=>rfl
  have v:q.x.getD i []=[iv .i64 wx[i]]:=by rw [ad];simp [yA,kab N]
  generalize g:(fnC zf 58).run r _ _=F0
  simp -implicitDefEqProofs [zyO,R,fx,Z,G,up,l,U,e] at g
  exact ⟨_,m,g.symm,j,by show yu q b m (L++[q.x.getD i []]);rw [v];exact E⟩
 ·simp only at I B
  rw [I] at B
  cases B
theorem zyS (h:Nat):zo Tryz.prog (KN2 h) 59:=by
 refine zr (L:=noL) zt (K:=KN2 h) (X:=AcX) rfl ?_
 rintro ⟨q,b,L,i,z⟩ a s ⟨⟨B,rfl⟩,⟨w,f⟩,o,u⟩
 generalize Rk Tryz.prog _ _=r
 rcases o with ⟨xb,G,ex,I,J,⟨Q,v⟩,O,⟨N,M,d⟩,t⟩ | ⟨lb,lv,T,xb,C,n,D,j,I,J,-⟩
 ·simp only at I J Q v O d t B u f M
  obtain ⟨F,W,m,R,U,e,E,Z⟩:=f.step (x:=[iv .i64 z]) (by omega) (by rw [v];rfl) (fun y Y=>by rw [kak.1 Y];exact qG _ _) u
  rw [Q,v] at U
  have l:∀ (c:Go.Ev.K→Nat→S→Go.Ev.A),Go.Ev.newRow s 3 [iv .i64 z] false c=c s.nx 1 (zY s (.row [iv .i64 z] 1 3 false 0 0 0)):=fun c=>zU s 3 _ false c
  have up:∀ x:V,upd [x] 0 (rep [iv .i64 0] 1)=[x]:=fun _=>rfl
  generalize g:(fnC zf 59).run r _ _=k
  simp -implicitDefEqProofs [zy5,R,up,l,U,e] at g
  exact ⟨_,m,g.symm,Z,by show yu q b m (L++[q.nw z]);rw [t];exact E⟩
 ·simp only at J B
  rw [J] at B
  cases B
theorem zx2 (h:Nat):zo Tryz.prog (KN2 h) 22:=by
 refine zr (L:=noL) zt (K:=KN2 h) (X:=AcX) rfl ?_
 rintro ⟨q,b,L,i,z⟩ a s ⟨⟨p,F,rfl⟩,⟨⟨w,f⟩,hC,y⟩,hi⟩
 generalize Rk Tryz.prog _ _=r
 rcases hC with ⟨xb,xv,ex,I,-⟩ | ⟨lb,lv,T,xb,C,n,D,rr,I,J,⟨Q,aa⟩,O,d,t,Y,j⟩
 ·simp only at I F
  rw [I] at F
  cases F
 ·simp only at I J Q aa O d t F hi y f
  rw [I] at F
  cases F
  have fx:∀ k:V→S→Go.Ev.A,zd false 1 (.ptr lb 0 0) s k=k lv s:=O.1.fld 0 (by omega)
  have M:=d.ext f.ext
  obtain ⟨p,Z,N⟩:=M.load hi
  have ad:=M.sz_ _ (kai hi)
  have G:=M.nb _ (kai hi)
  obtain ⟨E,W,m,R,U,e,o,g5⟩:=f.step (x:=q.x[i]) (by omega) (by rw [aa];exact ad) G y
  have v:q.x.getD i []=q.x[i]:=by simp [kab hi]
  rw [Q,aa] at U
  generalize q.x[i]=x at *
  obtain ⟨B,u,rfl⟩:∃ B u,x=[B,u]:=by
   match x,ad with
   | [a,b],_=>exact ⟨a,b,rfl⟩
  have l:∀ (c:Go.Ev.K→Nat→S→Go.Ev.A),Go.Ev.newRow s 55 [B,u] false c=c s.nx 2 (zY s (.row [B,u] 2 55 false 0 0 0)):=fun c=>zU s 55 _ false c
  have up:upd [B,u] 0 (rep [iv .i64 0,iv .i64 0] 1)=[B,u]:=rfl
  have cc:∀ c:List V→Go.Ev.A,zg 2 (.ls 0 [B,u]) c=c [B,u]:=fun c=>yg 2 _ rfl c
  generalize g:(fnC zf 22).run r _ _=F0
  simp -implicitDefEqProofs [zw4,R,fx,Z,N,up,cc,l,U,e] at g
  exact ⟨_,m,g.symm,g5,by show yu q b m (L++[q.x.getD i []]);rw [v];exact o⟩
theorem zy8 (h:Nat):zo Tryz.prog (KN2 h) 23:=by
 refine zr (L:=noL) zt (K:=KN2 h) (X:=AcX) rfl ?_
 rintro ⟨q,b,L,i,z⟩ a s ⟨⟨p,F,rfl⟩,⟨w,f⟩,o,G⟩
 generalize Rk Tryz.prog _ _=r
 rcases o with ⟨xb,xv,ex,I,J,-⟩ | ⟨lb,lv,T,xb,C,n,D,rr,I,J,⟨Q,aa⟩,O,d,t,⟨M,ad⟩,j⟩
 ·simp only at J F
  rw [J] at F
  cases F
 ·simp only at I J Q aa O d t F G f
  rw [J] at F
  cases F
  have fx:∀ k:V→S→Go.Ev.A,zd false 1 (.ptr xb 0 0) s k=k (iv .i64 rr) s:=fun k=>by rw [t.1.fld 0 ad,M]
  obtain ⟨Z,W,m,R,U,e,E,N⟩:=f.step (x:=[iv .i64 rr,iv .i64 (-1)]) (by omega) (by rw [aa];rfl) (fun y Y=>by
   simp only [kaj,List.not_mem_nil,or_false] at Y
   rcases Y with rfl | rfl<;>exact qG _ _) G
  rw [Q,aa] at U
  have l:∀ (c:Go.Ev.K→Nat→S→Go.Ev.A),Go.Ev.newRow s 55 [iv .i64 rr,iv .i64 (-1)] false c=c s.nx 2 (zY s (.row [iv .i64 rr,iv .i64 (-1)] 2 55 false 0 0 0)):=fun c=>zU s 55 _ false c
  have ae:∀ x:V,upd [x] 0 [iv .i64 0,iv .i64 0]=[x,iv .i64 0]:=fun _=>rfl
  have up1:∀ x y:V,upd [y] 1 [x,iv .i64 0]=[x,y]:=fun _ _=>rfl
  have up:∀ B u:V,upd [B,u] 0 (rep [iv .i64 0,iv .i64 0] 1)=[B,u]:=fun _ _=>rfl
  have cc:∀ (B u:V) (c:List V→Go.Ev.A),zg 2 (.ls 0 [B,u]) c=c [B,u]:=fun B u c=>yg 2 _ rfl c
  generalize g:(fnC zf 23).run r _ _=v
  have ng:∀ c:List V→Go.Ev.A,zg 1 (.neg .i64 0) c=c [iv .i64 (-1)]:=fun _=>rfl
  simp -implicitDefEqProofs [zy2,R,fx,ng,ae,up1,up,cc,l,U,e] at g
  exact ⟨_,m,g.symm,N,by show yu q b m (L++[q.nw z]);rw [j];exact E⟩
variable {c:AcX} {Lp:Nat→Lt}
theorem zyT (y:c.base s) (hi:c.i<c.q.x.length):∃ v U,(∀ tm (k:V→S→Go.Ev.A),jv (Rk Tryz.prog (KN2 h) Lp) c.q.f1 [iv .i64 (c.i:Int)] tm s k=k v U)∧c.st s U:=by
 rcases id y.2.1 with ⟨xb,O,ex,I,-⟩ | ⟨lb,lv,T,xb,C,n,D,j,I,-⟩
 ·obtain ⟨v,U,e,p⟩:=zk (zh (L:=Lp) (zyR h)) (X:=AcX) rfl c _ s ⟨⟨_,I,rfl⟩,y,hi⟩
  refine ⟨v,U,fun tm k=>?_,p⟩
  rw [I,wm,show []++([iv .i64 (c.i:Int)]++[.ptr c.q.a 0 0,.ptr xb 0 0])=[iv .i64 (c.i:Int),.ptr c.q.a 0 0,.ptr xb 0 0] from rfl,e]
  rfl
 ·obtain ⟨v,U,e,p⟩:=zk (zh (L:=Lp) (zx2 h)) (X:=AcX) rfl c _ s ⟨⟨_,I,rfl⟩,y,hi⟩
  refine ⟨v,U,fun tm k=>?_,p⟩
  rw [I,wm,show []++([iv .i64 (c.i:Int)]++[.ptr c.q.a 0 0,.ptr lb 0 0])=[iv .i64 (c.i:Int),.ptr c.q.a 0 0,.ptr lb 0 0] from rfl,e]
  rfl
theorem zAs (y:c.base s):∃ v U,(∀ tm (k:V→S→Go.Ev.A),jv (Rk Tryz.prog (KN2 h) Lp) c.q.f2 [iv .i64 c.z] tm s k=k v U)∧c.nw s U:=by
 rcases id y.2.1 with ⟨xb,O,ex,I,J,-⟩ | ⟨lb,lv,T,xb,C,n,D,j,I,J,-⟩
 ·obtain ⟨v,U,e,p⟩:=zk (zh (L:=Lp) (zyS h)) (X:=AcX) rfl c _ s ⟨⟨J,rfl⟩,y⟩
  refine ⟨v,U,fun tm k=>?_,p⟩
  rw [J,wm,show []++([iv .i64 c.z]++[.ptr c.q.a 0 0])=[iv .i64 c.z,.ptr c.q.a 0 0] from rfl,e]
  rfl
 ·obtain ⟨v,U,e,p⟩:=zk (zh (L:=Lp) (zy8 h)) (X:=AcX) rfl c _ s ⟨⟨_,J,rfl⟩,y⟩
  refine ⟨v,U,fun tm k=>?_,p⟩
  rw [J,wm,show []++([iv .i64 c.z]++[.ptr c.q.a 0 0,.ptr xb 0 0])=[iv .i64 c.z,.ptr c.q.a 0 0,.ptr xb 0 0] from rfl,e]
  rfl
theorem AcC.cell (h:AcC q b s):(∀ c:List V→Go.Ev.A,zg 2 (.ls 0 [q.f1,q.f2]) c=c [q.f1,q.f2])∧∀ x∈[q.f1,q.f2],x≠.bad:=by
 refine ⟨fun c=>yg 2 _ rfl c,fun x M=>?_⟩
 simp only [kaj,List.not_mem_nil,or_false] at M
 rcases h with ⟨xb,O,ex,I,J,-⟩ | ⟨lb,lv,T,xb,C,n,D,j,I,J,-⟩<;>rcases M with rfl | rfl<;>first | (rw [I];exact fun h=>by cases h) | (rw [J];exact fun h=>by cases h)
theorem zs5 (h:Nat):zo Tryz.prog (KN2 h) 51:=by
 refine zr (L:=noL) zt (K:=KN2 h) (X:=AcX × Bool) rfl ?_
 rintro ⟨⟨q,b,L,i,z⟩,t⟩ a s ⟨rfl,⟨f,Q,u⟩,hi⟩
 simp only at f Q u hi
 obtain ⟨m,Z⟩:=Q.cell
 obtain ⟨M,j,l⟩:=qT s (el:=63) (c:=[q.f1,q.f2]) (n:=2) rfl Z
 generalize zY s (.row [q.f1,q.f2] 2 63 false 0 0 0)=s1 at *
 obtain ⟨B,w⟩:=f.mono j
 have E:=Q.fr w
 have f0:∀ k:V→S→Go.Ev.A,zd false 1 (.ptr s.nx 0 0) s1 k=k q.f1 s1:=M.fld 0 (by omega)
 have f1:∀ k:V→S→Go.Ev.A,zd false 1 (.ptr s.nx 0 1) s1 k=k q.f2 s1:=M.fld 1 (by omega)
 cases t with
 | false =>
  obtain ⟨v,W,T,C,d⟩:=zyT (h:=h) (Lp:=noL) (c:=⟨q,b,L,i,z⟩) ⟨B,E,u⟩ (hi rfl)
  simp only at T C d
  generalize Rk Tryz.prog _ _=r at T ⊢
  generalize g:(fnC zf 51).run r _ _=D
  simp -implicitDefEqProofs [ztK,m,l,f0,T] at g
  exact ⟨_,W,g.symm,w.trans C,d⟩
 | true =>
  obtain ⟨v,W,T,C,d⟩:=zAs (h:=h) (Lp:=noL) (c:=⟨q,b,L,i,z⟩) ⟨B,E,u⟩
  simp only at T C d
  generalize Rk Tryz.prog _ _=r at T ⊢
  generalize g:(fnC zf 51).run r _ _=D
  simp -implicitDefEqProofs [ztK,m,l,f1,T] at g
  exact ⟨_,W,g.symm,w.trans C,d⟩
def Gq (el sz:Nat) (b s:S) (v:V) (L:List (List V)):Prop:=Gz el sz b s v L∨(L=[]∧∃ a,v=.sl a 0 0 0 0∧b.nx.toNat≤a.toNat∧a.toNat<s.nx.toNat∧Tr.get B.none a s.h=.row [] 0 el false 0 0 0)
theorem Gq.app (h:Gq el sz b s v L) (hb:Ext b s) (hz:0<sz) {N:List (List V)} (Y:Rw s sz y N) (u:L.length+N.length≤68719476736) :
  ∃ F U,(∀ k:V→S→Go.Ev.A,zN el sz v y s k=k F U)∧Ext b U∧Gq el sz b U F (L++N)∧(N≠[]→Gz el sz b U F (L++N)):=by
 rcases h with h | ⟨rfl,a,rfl,I,J,Q⟩
 ·obtain ⟨F,U,T,M,o,i,Z⟩:=h.append hb.nx hz N Y.sz_ u
  refine ⟨F,U,fun k=>?_,za2 hb o (D:=fun c=>qi v=some c) i (fun c X=>(h.blk X).1),.inl M,fun _=>M⟩
  show qA sz y s _=_
  rw [Y.src hz]
  exact T k
 ·by_cases h0:N=[]
  ·subst h0
   refine ⟨.sl a 0 0 0 0,s,fun k=>?_,hb,.inr ⟨rfl,a,rfl,I,J,Q⟩,fun h=>absurd rfl h⟩
   show qA sz y s _=_
   rw [Y.src hz];rfl
  ·have B:0<N.length:=Nat.pos_of_ne_zero fun h=>h0 (kap.1 h)
   have z:=wY Y.sz_
   have w:=yc s (.row N.flatten N.flatten.length el true 0 0 0)
   have O:Gz el sz b (zY s (.row N.flatten N.flatten.length el true 0 0 0)) (.so s.nx (N.length*sz) 0 N.length 0) ([]++N):=by
    refine .inr ⟨s.nx,0,rfl,hb.nx,by show s.nx.toNat<s.nx.succ.toNat;rw [K.toNat_succ];omega,⟨by simpa using B,Nat.zero_le _⟩,?_,Y.sz_⟩
    rw [qQ,z];rfl
   refine ⟨.so s.nx (N.length*sz) 0 N.length 0,_,fun k=>?_,hb.trans w,.inl O,fun _=>O⟩
   show qA sz y s _=_
   rw [Y.src hz]
   show (Bool.rec (motive:=fun _=>Go.Ev.A) _ _ (Nat.beq N.length 0):Go.Ev.A)=_
   rw [show Nat.beq N.length 0=false by
    cases e:Nat.beq N.length 0 with
    | true=>have:=kac e;omega
    | false=>rfl]
   show fN (Nat.add 0 N.length) _=_
   rw [zE]
   have p:Nat.add 0 N.length=N.length:=kas _
   show (Bool.rec (motive:=fun _=>Go.Ev.A) (zM s a 0 0 (Nat.mul 0 sz) (fun old=>zfX old N.flatten fun l=>wj s el l (Nat.add 0 N.length) k)) _ (Nat.ble (Nat.add 0 N.length) 0):Go.Ev.A)=_
   rw [p,show Nat.ble N.length 0=false by
    cases e:Nat.ble N.length 0 with
    | true=>have:=kaJ e;omega
    | false=>rfl]
   show zM s a 0 0 (Nat.mul 0 sz) _=_
   rw [show Nat.mul 0 sz=0 from Nat.zero_mul sz]
   unfold zM
   rw [qb,Q]
   show wj s el N.flatten N.length k=_
   rw [zmY _ _ _ _ (by simpa using u),z]
def yw (l:List (Int × Int × Int)):List (List V):=l.map fun p=>[iv .i64 p.1,iv .i64 p.2.1,iv .i64 p.2.2]
noncomputable def KN3 (h:Nat):Nat→Ct
 | 34=>ctI (X:=V × List (List V)) (fun ⟨v,L⟩ a s=>a=[v]∧Rw s 3 v L∧L.length≤68719476736) (fun ⟨_,L⟩ s v U=>Ext s U∧Gq 75 3 s U v L)
 | f=>KN2 h f
theorem zrO (h:Nat):zo Tryz.prog (KN3 h) 34:=by
 refine zr (L:=noL) zt (K:=KN3 h) (X:=V × List (List V)) rfl ?_
 rintro ⟨x,L⟩ a s ⟨rfl,M,u⟩
 generalize Rk Tryz.prog _ _=r
 by_cases o:x=.nil 1
 ·subst o
  have p:∀ c:V→Go.Ev.A,zw ⟨2,[]⟩ true .eql (.nil 1) (.nil 1) c=c (.bool true):=fun c=>rfl
  obtain rfl:L=[]:=kap.1 M.len.symm
  exact ⟨.nil 1,s,by simp -implicitDefEqProofs [zjS,p],Ext.refl s,.inl (.inl ⟨rfl,rfl⟩)⟩
 ·have p:∀ c:V→Go.Ev.A,zw ⟨2,[]⟩ true .eql x (.nil 1) c=c (.bool false):=fun c=>by
   rcases M.sl with (rfl | ⟨_,rfl⟩) | ⟨_,_,_,_,⟨_,rfl,_⟩ | ⟨_,rfl⟩,_⟩
   ·exact absurd rfl o
   ·rfl
   ·rfl
   ·rfl
  have R:=yc s (.row [] 0 75 false 0 0 0)
  have O:Gq 75 3 s (zY s (.row [] 0 75 false 0 0 0)) (.sl s.nx 0 0 0 0) []:=.inr ⟨rfl,s.nx,rfl,kad _,by show s.nx.toNat<s.nx.succ.toNat;rw [K.toNat_succ];omega,qQ _ _⟩
  have zcR:∀ k:Go.Ev.K→Nat→S→Go.Ev.A,Go.Ev.newRow s 75 [] false k=k s.nx 0 (zY s (.row [] 0 75 false 0 0 0)):=fun k=>zU _ _ _ _ _
  have F:=M.ext R
  generalize zY s (.row [] 0 75 false 0 0 0)=s1 at *
  obtain ⟨v,W,a1,a2,a3,-⟩:=O.app R (by omega) F (by simpa using u)
  exact ⟨v,W,by simp -implicitDefEqProofs [zjS,p,zg1,Go.Ev.rep,zcR,a1],a2,a3⟩
variable {X Y:Type}
def ltS (O:X→T→S→Prop) (j:X→Go.Ev.A→Prop) (C:Y→T→S→Prop) (d:Y→Go.Ev.A→Prop):Lt:=⟨fun N s=>(∃ x,O x N s)∨∃ y,C y N s,fun N s a=>(∀ x,O x N s→j x a)∧∀ y,C y N s→d y a⟩
variable {c:Code} {fi:FI} {j:X→Go.Ev.A→Prop} {O:X→T→S→Prop}
theorem zCv {K:Nat→Ct} {L:Nat→Lt} {n:Nat} (o:zH c=n) {C:Y→T→S→Prop} {p:Y→Go.Ev.A→Prop} (e:L n=ltS O j C p) (u:∀ x y tm s,O x tm s→¬C y tm s) (B:T→S→Nat)
  (G:∀ x a,j x a→¬a.isBad) (body:∀ x tm s,O x tm s→(∀ y F U,B F U<B tm s→O y F U→j y ((Rk Tryz.prog K L).code fi c F U))→j x ((zj zf fi c).run (Rk Tryz.prog K L) tm s)) :
  ∀ x tm s,O x tm s→j x ((zj zf fi c).run (Rk Tryz.prog K L) tm s):=by
 intro x tm s M
 have:=(zgg (P:=Tryz.prog) zt (fun f a s v U=>(K f).pre a s→(K f).post a s v U) (fun _ c tm s a=>(L (zH c)).pre tm s→(L (zH c)).post tm s a) (fi:=fi) (c:=c) (fun tm s=>∃ x,O x tm s) B (fun tm s h E=>by
  have hb:∀ x,O x tm s→j x ((zj zf fi c).run (Rk Tryz.prog K L) tm s):=fun x M=>body x tm s M fun y F U I J=>by
   have:=E F U I ⟨y,J⟩
   rw [o,e] at this
   exact (this (.inl ⟨y,J⟩)).1 y J
  obtain ⟨x,M⟩:=h
  refine ⟨G x _ (hb x M),fun _=>?_⟩
  rw [o,e]
  exact ⟨hb,fun y d=>absurd d (u x y tm s M)⟩) tm s ⟨x,M⟩).2
 rw [o,e] at this
 exact (this (.inl ⟨x,M⟩)).1 x M
theorem zCl {K:Nat→Ct} {L:Nat→Lt} {n:Nat} (o:zH c=n) {C:Y→T→S→Prop} {p:Y→Go.Ev.A→Prop} (e:L n=ltS O j C p) (u:∀ x y tm s,O x tm s→¬C y tm s) (B:T→S→Nat)
  (G:∀ x a,p x a→¬a.isBad) (body:∀ x tm s,C x tm s→(∀ y F U,B F U<B tm s→C y F U→p y ((Rk Tryz.prog K L).code fi c F U))→p x ((zj zf fi c).run (Rk Tryz.prog K L) tm s)) :
  ∀ x tm s,C x tm s→p x ((zj zf fi c).run (Rk Tryz.prog K L) tm s):=by
 intro x tm s M
 have:=(zgg (P:=Tryz.prog) zt (fun f a s v U=>(K f).pre a s→(K f).post a s v U) (fun _ c tm s a=>(L (zH c)).pre tm s→(L (zH c)).post tm s a) (fi:=fi) (c:=c) (fun tm s=>∃ x,C x tm s) B (fun tm s h E=>by
  have hb:∀ x,C x tm s→p x ((zj zf fi c).run (Rk Tryz.prog K L) tm s):=fun x M=>body x tm s M fun y F U I J=>by
   have:=E F U I ⟨y,J⟩
   rw [o,e] at this
   exact (this (.inr ⟨y,J⟩)).2 y J
  obtain ⟨x,M⟩:=h
  refine ⟨G x _ (hb x M),fun _=>?_⟩
  rw [o,e]
  exact ⟨fun y d=>absurd M (u y x tm s d),hb⟩) tm s ⟨x,M⟩).2
 rw [o,e] at this
 exact (this (.inr ⟨x,M⟩)).2 x M
def seg (x:List α) (a b:Nat):List α:=(x.drop a).take (b - a)
theorem zqU (x:List α) (a:Nat):seg x a a=[]:=by simp [seg]
theorem zoE {x:List α} {a b:Nat} (h:a≤b) (hb:b<x.length) (d:α):seg x a (b+1)=seg x a b++[x.getD b d]:=by
 unfold seg
 rw [show b+1 - a=(b - a)+1 by omega,List.take_add_one,List.getElem?_drop,show a+(b - a)=b by omega,kab hb]
 simp [kab hb]
theorem wT (x:List α) (a b:Nat):(seg x a b).length≤x.length:=by simp [seg];omega
def pd0:PaD:=⟨.mk 0 0 0 [] 0 0 [],false,[],[]⟩
def qH {α:Type} (x:List α) (nw:Int→α) (ps:List PaD):Nat→List (Int × Int × Int)→List α
 | a,[]=>x.drop a
 | a,d::l=>seg x a d.1.toNat++((ps.getD d.2.2.toNat pd0).bf.map nw++((if (ps.getD d.2.2.toNat pd0).cp then seg x d.1.toNat d.2.1.toNat else [])++((ps.getD d.2.2.toNat pd0).af.map nw++qH x nw ps d.2.1.toNat l)))
theorem zq9 {α β:Type} (f:α→β) (x:List α) (nw:Int→α) (ps:List PaD):∀ (l:List (Int × Int × Int)) (a:Nat),qH (x.map f) (fun z=>f (nw z)) ps a l=(qH x nw ps a l).map f
 | [],a=>by simp [qH]
 | d::l,a=>by
  rw [qH,qH,zq9 f x nw ps l]
  have C:∀ a b,seg (x.map f) a b=(seg x a b).map f:=fun a b=>by simp [seg,List.map_drop,List.map_take]
  simp only [C,kaN,List.map_map]
  congr 2
  congr 1
  split<;>simp
def yS (np n:Nat):Int→List (Int × Int × Int)→Bool
 | _,[]=>true
 | a,d::l=>decide ((a≤d.1∧d.1<d.2.1∧d.2.1≤n)∧0≤d.2.2∧d.2.2<np) && yS np n d.2.1 l
structure VcX where
 q:AcD
 b:S
 vb:Go.Ev.K
 rb:Go.Ev.K
 sb:Go.Ev.K
 pb:Go.Ev.K
 spv:V
 m:Nat
 i:Nat
 lo:Nat
 hi:Nat
 pt:Int
 s0:S
 L0:List (List V)
 a0:Nat
 wv:V
 w:List Int
 C:List V
 p:PaD
def VcX.reg (c:VcX) (tm:T):Prop:=gp 4 tm=.ptr c.vb 0 0∧gp 5 tm=.ptr c.rb 0 0∧gp 10 tm=.ptr c.sb 0 0∧gp 16 tm=c.spv∧gp 17 tm=iv .i64 (c.m:Int)∧gp 18 tm=iv .i64 (c.i:Int)∧gp 240 tm=.bad
def VcX.base (c:VcX):Prop:=NB c.q.a c.s0 c.vb [c.q.f1,c.q.f2] 2 63∧(∃ C,C.getD 0 .bad=iv .i64 (c.lo:Int)∧C.getD 1 .bad=iv .i64 (c.hi:Int)∧NB c.q.a c.s0 c.sb C 3 75)∧AcC c.q c.b c.s0∧(c.L0.length+c.q.x.length+c.w.length≤60000000000∧c.q.x.length≤9000000000)
def VcX.pre20 (c:VcX) (tm:T) (s:S):Prop:=c.base∧FrA c.q.a c.s0 s∧c.reg tm∧c.lo≤c.q.x.length∧∃ a:Nat,(c.a0≤a∧a≤c.lo)∧gp 8 tm=iv .i64 (a:Int)∧yu c.q c.b s (c.L0++seg c.q.x c.a0 a)
def VcX.post20 (c:VcX) (x:Go.Ev.A):Prop:=∃ N s,x=.ext 2 N s∧FrA c.q.a c.s0 s∧c.reg N∧gp 8 N=iv .i64 (c.lo:Int)∧yu c.q c.b s (c.L0++seg c.q.x c.a0 c.lo)
def VcX.pre58 (c:VcX) (tm:T) (s:S):Prop:=c.base∧FrA c.q.a c.s0 s∧(c.reg tm∧gp 11 tm=.ptr c.pb 0 0∧NB c.q.a c.s0 c.pb c.C 10 42∧c.C.getD 7 .bad=.bool c.p.cp)∧c.hi≤c.q.x.length∧∃ a:Nat,(c.lo≤a∧a≤c.hi)∧gp 8 tm=iv .i64 (a:Int)∧yu c.q c.b s (c.L0++if c.p.cp then seg c.q.x c.lo a else [])
def VcX.post58 (c:VcX) (x:Go.Ev.A):Prop:=∃ N s,x=.ext 6 N s∧FrA c.q.a c.s0 s∧(c.reg N∧gp 11 N=.ptr c.pb 0 0)∧gp 8 N=iv .i64 (c.hi:Int)∧yu c.q c.b s (c.L0++if c.p.cp then seg c.q.x c.lo c.hi else [])
def VcX.pre43 (c:VcX) (tm:T) (s:S):Prop:=(c.base∧c.lo<c.hi)∧FrA c.q.a c.s0 s∧(c.reg tm∧gp 11 tm=.ptr c.pb 0 0)∧Wd c.b c.wv c.w∧(gp 8 tm=iv .i64 (c.lo:Int)∧gp 22 tm=c.wv∧gp 23 tm=iv .i64 (c.w.length:Int))∧∃ j:Nat,j≤c.w.length∧gp 24 tm=iv .i64 (j:Int)∧yu c.q c.b s (c.L0++(c.w.take j).map c.q.nw)
def VcX.post43 (c:VcX) (x:Go.Ev.A):Prop:=∃ N s,x=.ext 4 N s∧FrA c.q.a c.s0 s∧(c.reg N∧gp 11 N=.ptr c.pb 0 0)∧gp 8 N=iv .i64 (c.lo:Int)∧yu c.q c.b s (c.L0++c.w.map c.q.nw)
def VcX.pre76 (c:VcX) (tm:T) (s:S):Prop:=(c.base∧c.lo<c.hi)∧FrA c.q.a c.s0 s∧(c.reg tm∧gp 11 tm=.ptr c.pb 0 0)∧Wd c.b c.wv c.w∧(gp 8 tm=iv .i64 (c.hi:Int)∧gp 28 tm=c.wv∧gp 29 tm=iv .i64 (c.w.length:Int))∧∃ j:Nat,j≤c.w.length∧gp 30 tm=iv .i64 (j:Int)∧yu c.q c.b s (c.L0++(c.w.take j).map c.q.nw)
def VcX.post76 (c:VcX) (x:Go.Ev.A):Prop:=∃ N s,x=.ext 8 N s∧FrA c.q.a c.s0 s∧(c.reg N∧gp 11 N=.ptr c.pb 0 0)∧gp 8 N=iv .i64 (c.hi:Int)∧yu c.q c.b s (c.L0++c.w.map c.q.nw)
theorem zAj {b:Go.Ev.K} {v w o p:Nat} (h:V.ptr a v o=V.ptr b w p):a=b:=by injection h
theorem ztf (x y:VcX) (tm:T) (s:S) (h:x.pre43 tm s) (g:y.pre76 tm s):False:=by
 obtain ⟨⟨⟨-,⟨C,I,-,J⟩,-⟩,-⟩,Q,⟨K,-⟩,-,d,-⟩:=h
 obtain ⟨⟨⟨-,⟨D,v,R,U⟩,-⟩,O⟩,i,⟨E,-⟩,-,F,-⟩:=g
 have e:=zAj (K.2.2.1.symm.trans E.2.2.1)
 have H:=(J.fr Q).1.1
 have G:=(U.fr i).1.1
 rw [e] at H
 rw [H] at G
 injection G with G
 subst G
 have M:(x.lo:Int)=y.lo:=znU (I.symm.trans v)
 have N:(x.lo:Int)=y.hi:=znU (d.1.symm.trans F.1)
 omega
def RwN (a:Go.Ev.K) (s:S) (sz:Nat) (v:V) (L:List (List V)):Prop:=Rw s sz v L∧∀ c,qi v=some c→c.toNat<s.nx.toNat∧¬own a s c
theorem Sl.keep (h:Sl s sz v) (e:s.nx.toNat≤U.nx.toNat) (F:∀ c,qi v=some c→Tr.get B.none c U.h=Tr.get B.none c s.h):Sl U sz v∧∀ j,qg U v j=qg s v j:=by
 rcases h with E | ⟨a,w,o,len,E,O,l,n,el,D,W,f1,f2,I,J⟩
 ·refine ⟨.inl E,fun j=>?_⟩
  rcases E with rfl | ⟨_,rfl⟩<;>rfl
 ·have hb:qi v=some a:=by rcases E with ⟨_,rfl,_⟩ | ⟨_,rfl⟩<;>rfl
  refine ⟨.inr ⟨a,w,o,len,E,kan O e,l,n,el,D,W,f1,f2,(F a hb).trans I,J⟩,fun j=>?_⟩
  rcases E with ⟨_,rfl,_⟩ | ⟨_,rfl⟩<;>simp only [qg,F a hb]
theorem RwN.fr (h:RwN a s sz v L) (f:FrA a s U):RwN a U sz v L:=by
 obtain ⟨I,J⟩:=Sl.keep h.1.sl f.nx fun c X=>f.get c (h.2 c X).1 (h.2 c X).2
 exact ⟨⟨I,h.1.len,h.1.sz_,h.1.nb,fun i j hi G=>by rw [J];exact h.1.at_ i j hi G⟩,fun c X=>⟨kan (h.2 c X).1 f.nx,fun C=>(f.own_ c C).elim (h.2 c X).2 fun g=>by have:=(h.2 c X).1;omega⟩⟩
structure VsX where
 q:AcD
 b:S
 C:List V
 r:RuD
 v:V
 sp:List (Int × Int × Int)
def VsX.out (c:VsX):List (List V):=qH c.q.x c.q.nw c.r.ps 0 c.sp
def VsX.lim (c:VsX):Prop:=c.out.length≤1000000∧c.q.x.length≤1000∧c.sp.length≤1000∧(∀ p∈c.r.ps,p.bf.length≤40∧p.af.length≤40)∧c.r.ps.length≤9223372036854775807
structure TfD where
 rule:Int
 bf:List Int
 af:List Int
 sp:List (Int × Int × Int)
structure ToX where
 C:List V
 r:RuD
 v:V
 w:List Int
 vs:V
 sp:List (Int × Int × Int)
def ToX.out (c:ToX):List Int:=qH c.w id c.r.ps 0 c.sp
def ToX.lim (c:ToX):Prop:=c.w.length≤300∧c.sp.length≤300∧(∀ p∈c.r.ps,p.bf.length≤40∧p.af.length≤40)∧c.r.ps.length≤9223372036854775807
def StR (s:S) (D:List V) (t:TfD):Prop:=∃ bv f B,D=[iv .i64 t.rule,bv,f,B]∧(Wd s bv t.bf∧Fx bv)∧Wd s f t.af∧Rw s 3 B (yw t.sp)
def zbu (r:RuD) (t:TfD):Bool:=yS r.ps.length t.bf.length 0 t.sp && decide (qH t.bf id r.ps 0 t.sp=t.af)
noncomputable def KN4 (h:Nat):Nat→Ct
 | 24=>ctI (X:=VsX) (fun c a s=>a=[.ls 0 [c.q.f1,c.q.f2],.ls 0 c.C,iv .i64 (c.q.x.length:Int),c.v]∧(yu c.q c.b s []∧AcC c.q c.b s)∧RuR h c.b c.C c.r∧Rw c.b 3 c.v (yw c.sp)∧yS c.r.ps.length c.q.x.length 0 c.sp=true∧c.lim) (fun c s _ U=>FrA c.q.a s U∧yu c.q c.b U c.out)
 | 32=>ctI (X:=ToX) (fun c a s=>a=[.ls 0 c.C,c.v,c.vs]∧RuR h s c.C c.r∧Wd s c.v c.w∧Rw s 3 c.vs (yw c.sp)∧yS c.r.ps.length c.w.length 0 c.sp=true∧c.lim) (fun c s v U=>Ext s U∧Wd U v c.out)
 | 21=>ctI (X:=List V × RuD × List V × TfD) (fun ⟨C,r,D,t⟩ a s=>a=[.ls 0 C,.ls 0 D]∧RuR h s C r∧StR s D t∧t.bf.length≤300∧t.sp.length≤300∧(∀ p∈r.ps,p.bf.length≤40∧p.af.length≤40)∧r.ps.length≤9223372036854775807) (fun ⟨_,r,_,t⟩ s v U=>Ext s U∧v=.bool (zbu r t))
 | f=>KN3 h f
def VsX.base (h:Nat) (c:VsX) (vb rb:Go.Ev.K) (spv:V) (s1:S):Prop:=(NB c.q.a s1 vb [c.q.f1,c.q.f2] 2 63∧NB c.q.a s1 rb c.C 16 38)∧RuR h c.b c.C c.r∧AcC c.q c.b s1∧RwN c.q.a s1 3 spv (yw (c.sp++[((c.q.x.length:Int),(c.q.x.length:Int),(-1:Int))]))∧c.lim
structure VlX where
 c:VsX
 vb:Go.Ev.K
 rb:Go.Ev.K
 spv:V
 s1:S
def VlX.pre (h:Nat) (c:VlX) (tm:T) (s:S):Prop:=c.c.base h c.vb c.rb c.spv c.s1∧FrA c.c.q.a c.s1 s∧(gp 4 tm=.ptr c.vb 0 0∧gp 5 tm=.ptr c.rb 0 0∧gp 16 tm=c.spv∧gp 17 tm=iv .i64 ((c.c.sp.length+1:Nat):Int)∧gp 240 tm=.bad)∧∃ (i a:Nat) (L:List (List V)),(i≤c.c.sp.length∧a≤c.c.q.x.length)∧gp 18 tm=iv .i64 (i:Int)∧gp 8 tm=iv .i64 (a:Int)∧yS c.c.r.ps.length c.c.q.x.length (a:Int) (c.c.sp.drop i)=true∧L++qH c.c.q.x c.c.q.nw c.c.r.ps a (c.c.sp.drop i)=c.c.out∧yu c.c.q c.c.b s L
def VlX.post (c:VlX) (x:Go.Ev.A):Prop:=∃ N s,x=.ret N s∧FrA c.c.q.a c.s1 s∧gp 240 N=.bad∧yu c.c.q c.c.b s c.c.out
noncomputable def zfk (h:Nat):Nat→Lt
 | 21=>ltI VcX.pre20 VcX.post20
 | 22=>ltS VcX.pre43 VcX.post43 VcX.pre76 VcX.post76
 | 27=>ltI VcX.pre58 VcX.post58
 | _=>ltI (VlX.pre h) VlX.post
theorem yu.cast {A:List (List V)} (h:yu q b s L) (e:L=A):yu q b s A:=e▸h
theorem zBq (B:yu q b s L) (Q:AcC q b s) (f:L.length+1≤68719476736) (hi:i<q.x.length):∃ v U,(Rk Tryz.prog (KN4 h) Lp).call 51 [.ls 0 [q.f1,q.f2],iv .i64 0,iv .i64 (i:Int)] s=.ret v U∧FrA q.a s U∧yu q b U (L++[q.x.getD i []]):=by
 obtain ⟨v,U,e,p⟩:=zk (zh (L:=Lp) (show zo Tryz.prog (KN4 h) 51 from zs5 h)) (X:=AcX × Bool) rfl (⟨q,b,L,i,0⟩,false) _ s ⟨rfl,⟨B,Q,f⟩,fun _=>hi⟩
 exact ⟨v,U,e,p⟩
theorem zBp (B:yu q b s L) (Q:AcC q b s) (f:L.length+1≤68719476736):∃ v U,(Rk Tryz.prog (KN4 h) Lp).call 51 [.ls 0 [q.f1,q.f2],iv .i64 1,iv .i64 z] s=.ret v U∧FrA q.a s U∧yu q b U (L++[q.nw z]):=by
 obtain ⟨v,U,e,p⟩:=zk (zh (L:=Lp) (show zo Tryz.prog (KN4 h) 51 from zs5 h)) (X:=AcX × Bool) rfl (⟨q,b,L,0,z⟩,true) _ s ⟨rfl,⟨B,Q,f⟩,fun h=>by cases h⟩
 exact ⟨v,U,e,p⟩
theorem zCC:∀ (c:VcX) tm s,c.pre20 tm s→c.post20 (wL.run (Rk Tryz.prog (KN4 h) (zfk h)) tm s):=by
 have Z:=fun q b s L i=>zBq (h:=h) (Lp:=zfk h) (q:=q) (b:=b) (s:=s) (L:=L) (i:=i)
 refine zL (L:=zfk h) zt zsd rfl (fun tm _=>9223372036854775808 - (toI (gp 8 tm)).toNat) (fun x a ⟨_,_,h,_⟩=>by rw [h];exact fun h=>h) ?_
 rintro c tm s ⟨y,g,N,o,a,U,R,f⟩ J
 show VcX.post20 _ (wL.run _ tm _)
 obtain ⟨B,⟨SC,M,c1,e⟩,Q,u⟩:=id y
 obtain ⟨E,K,D,I,G,X,C⟩:=id N
 have t:=wT c.q.x c.a0 a
 have Z:=Z c.q c.b s _ a f (Q.fr g) (by rw [kae];omega)
 generalize Rk Tryz.prog _ _=r at J Z ⊢
 have f0:∀ k:V→S→Go.Ev.A,zd false 1 (.ptr c.sb 0 0) s k=k (iv .i64 (c.lo:Int)) s:=fun k=>by rw [(e.fr g).1.fld 0 (by omega),M]
 by_cases O:a<c.lo
 ·obtain ⟨v,W,T,w,d⟩:=Z (by omega)
  have fv:∀ k:V→S→Go.Ev.A,zd true 2 (.ptr c.vb 0 0) s k=k (.ls 0 [c.q.f1,c.q.f2]) s:=(B.fr g).1.all
  have n:IntKind.i64.wrap ((a:Int)+1)=((a+1:Nat):Int):=w64
  have next:∀ F,c.reg F→gp 8 F=iv .i64 ((a+1:Nat):Int)→VcX.post20 c (r.code yx zeN F W):=fun F k l =>
   J c F W (by rw [l,R,zp,zp];omega) ⟨y,g.trans w,k,o,a+1,by omega,l,d.cast (by rw [zoE U.1 (by omega) [],kaG])⟩
  simp -implicitDefEqProofs [zjC,R,E,D,f0,O,fv,T,n]
  apply next
  ·exact ⟨by simp [E],by simp [K],by simp [D],by simp [I],by simp [G],by simp [X],by simp [C]⟩
  ·simp
 ·obtain rfl:a=c.lo:=by omega
  simp -implicitDefEqProofs [zjC,R,D,f0]
  exact ⟨_,s,rfl,g,⟨by simp [E],by simp [K],by simp [D],by simp [I],by simp [G],by simp [X],by simp [C]⟩,by simp [R],f⟩
theorem zBT:∀ (c:VcX) tm s,c.pre58 tm s→c.post58 (wH.run (Rk Tryz.prog (KN4 h) (zfk h)) tm s):=by
 have Z:=fun q b s L i=>zBq (h:=h) (Lp:=zfk h) (q:=q) (b:=b) (s:=s) (L:=L) (i:=i)
 refine zL (L:=zfk h) zt zrR rfl (fun tm _=>9223372036854775808 - (toI (gp 8 tm)).toNat) (fun x a ⟨_,_,h,_⟩=>by rw [h];exact fun h=>h) ?_
 rintro c tm s ⟨y,g,⟨N,z,Y,j⟩,o,a,U,R,f⟩ J
 show VcX.post58 _ (wH.run _ tm _)
 obtain ⟨B,⟨SC,M,c1,e⟩,Q,u⟩:=id y
 obtain ⟨E,K,D,I,G,X,C⟩:=id N
 have t:=wT c.q.x c.lo a
 have Z:=Z c.q c.b s _ a f (Q.fr g) (by rw [kae];split<;>simp<;>omega)
 generalize Rk Tryz.prog _ _=r at J Z ⊢
 have f1:∀ k:V→S→Go.Ev.A,zd false 1 (.ptr c.sb 0 1) s k=k (iv .i64 (c.hi:Int)) s:=fun k=>by rw [(e.fr g).1.fld 1 (by omega),c1]
 have f7:∀ k:V→S→Go.Ev.A,zd false 1 (.ptr c.pb 0 7) s k=k (.bool c.p.cp) s:=fun k=>by rw [(Y.fr g).1.fld 7 (by omega),j]
 by_cases O:a<c.hi
 ·have n:IntKind.i64.wrap ((a:Int)+1)=((a+1:Nat):Int):=w64
  cases m:c.p.cp with
  | true =>
   rw [m] at f7 f Z
   obtain ⟨v,W,T,w,d⟩:=Z (by omega)
   have fv:∀ k:V→S→Go.Ev.A,zd true 2 (.ptr c.vb 0 0) s k=k (.ls 0 [c.q.f1,c.q.f2]) s:=(B.fr g).1.all
   have next:∀ F,c.reg F∧gp 11 F=.ptr c.pb 0 0→gp 8 F=iv .i64 ((a+1:Nat):Int)→VcX.post58 c (r.code yx zcx F W):=fun F k l =>
    J c F W (by rw [l,R,zp,zp];omega) ⟨y,g.trans w,⟨k.1,k.2,Y,j⟩,o,a+1,by omega,l,d.cast (by rw [m];simp only [if_true];rw [zoE U.1 (by omega) [],kaG])⟩
   simp -implicitDefEqProofs [zfH,R,E,D,z,f1,O,f7,fv,T,n]
   apply next
   ·exact ⟨⟨by simp [E],by simp [K],by simp [D],by simp [I],by simp [G],by simp [X],by simp [C]⟩,by simp [z]⟩
   ·simp
  | false =>
   rw [m] at f7 f
   have next:∀ F,c.reg F∧gp 11 F=.ptr c.pb 0 0→gp 8 F=iv .i64 ((a+1:Nat):Int)→VcX.post58 c (r.code yx zcx F s):=fun F k l =>
    J c F s (by rw [l,R,zp,zp];omega) ⟨y,g,⟨k.1,k.2,Y,j⟩,o,a+1,by omega,l,f.cast (by rw [m];rfl)⟩
   simp -implicitDefEqProofs [zfH,R,E,D,z,f1,O,f7,n]
   apply next
   ·exact ⟨⟨by simp [E],by simp [K],by simp [D],by simp [I],by simp [G],by simp [X],by simp [C]⟩,by simp [z]⟩
   ·simp
 ·obtain rfl:a=c.hi:=by omega
  simp -implicitDefEqProofs [zfH,R,D,f1]
  exact ⟨_,s,rfl,g,⟨⟨by simp [E],by simp [K],by simp [D],by simp [I],by simp [G],by simp [X],by simp [C]⟩,by simp [z]⟩,by simp [R],f⟩
theorem zB8:∀ (c:VcX) tm s,c.pre43 tm s→c.post43 (wI.run (Rk Tryz.prog (KN4 h) (zfk h)) tm s):=by
 have Z:=fun q b s L z=>zBp (h:=h) (Lp:=zfk h) (q:=q) (b:=b) (s:=s) (L:=L) (z:=z)
 refine zCv (L:=zfk h) zsq rfl (fun x y tm s h g=>ztf x y tm s h g) (fun tm _=>(toI (gp 23 tm)).toNat - (toI (gp 24 tm)).toNat) (fun x a ⟨_,_,h,_⟩=>by rw [h];exact fun h=>h) ?_
 rintro c tm s ⟨⟨R,ah⟩,t,⟨N,X⟩,m,⟨B,aa,e⟩,j,G,p,f⟩ J
 show VcX.post43 _ (wI.run _ tm _)
 obtain ⟨i,⟨SC,M,c1,ai⟩,Q,u⟩:=id R
 obtain ⟨E,K,D,ad,o,ae,C⟩:=id N
 have Z:=fun z=>Z c.q c.b s _ z f (Q.fr t) (by rw [kae];simp;omega)
 generalize Rk Tryz.prog _ _=r at J Z ⊢
 by_cases O:j<c.w.length
 ·obtain ⟨q,U,I⟩:=(m.ext f.ext).at_ O
  obtain ⟨v,W,T,F1,d⟩:=Z c.w[j]
  have fv:∀ k:V→S→Go.Ev.A,zd true 2 (.ptr c.vb 0 0) s k=k (.ls 0 [c.q.f1,c.q.f2]) s:=(i.fr t).1.all
  have n:IntKind.i64.wrap ((j:Int)+1)=((j+1:Nat):Int):=w64
  have next:∀ F,(c.reg F∧gp 11 F=.ptr c.pb 0 0)→(gp 8 F=iv .i64 (c.lo:Int)∧gp 22 F=c.wv∧gp 23 F=iv .i64 (c.w.length:Int))→gp 24 F=iv .i64 ((j+1:Nat):Int)→VcX.post43 c (r.code yx zeT F W):=fun F k Y l =>
   J c F W (by rw [l,Y.2.2,e,p,zp,zp,zp];omega) ⟨⟨R,ah⟩,t.trans F1,k,m,Y,j+1,O,l,d.cast (by rw [List.take_add_one,kab O,kaN,kaG];rfl)⟩
  simp -implicitDefEqProofs [zjh,aa,e,p,E,O,U,I,fv,T,n]
  apply next
  ·exact ⟨⟨by simp [E],by simp [K],by simp [D],by simp [ad],by simp [o],by simp [ae],by simp [C]⟩,by simp [X]⟩
  ·simp [B,aa,e]
  ·simp
 ·obtain rfl:j=c.w.length:=by omega
  rw [List.take_length] at f
  simp -implicitDefEqProofs [zjh,e,p]
  exact ⟨_,s,rfl,t,⟨⟨by simp [E],by simp [K],by simp [D],by simp [ad],by simp [o],by simp [ae],by simp [C]⟩,by simp [X]⟩,by simp [B],f⟩
theorem zCn:∀ (c:VcX) tm s,c.pre76 tm s→c.post76 (wJ.run (Rk Tryz.prog (KN4 h) (zfk h)) tm s):=by
 have Z:=fun q b s L z=>zBp (h:=h) (Lp:=zfk h) (q:=q) (b:=b) (s:=s) (L:=L) (z:=z)
 refine zCl (L:=zfk h) zro rfl (fun x y tm s h g=>ztf x y tm s h g) (fun tm _=>(toI (gp 29 tm)).toNat - (toI (gp 30 tm)).toNat) (fun x a ⟨_,_,h,_⟩=>by rw [h];exact fun h=>h) ?_
 rintro c tm s ⟨⟨R,ah⟩,t,⟨N,X⟩,m,⟨B,aa,e⟩,j,G,p,f⟩ J
 show VcX.post76 _ (wJ.run _ tm _)
 obtain ⟨i,⟨SC,M,c1,ai⟩,Q,u⟩:=id R
 obtain ⟨E,K,D,ad,o,ae,C⟩:=id N
 have Z:=fun z=>Z c.q c.b s _ z f (Q.fr t) (by rw [kae];simp;omega)
 generalize Rk Tryz.prog _ _=r at J Z ⊢
 by_cases O:j<c.w.length
 ·obtain ⟨q,U,I⟩:=(m.ext f.ext).at_ O
  obtain ⟨v,W,T,F1,d⟩:=Z c.w[j]
  have fv:∀ k:V→S→Go.Ev.A,zd true 2 (.ptr c.vb 0 0) s k=k (.ls 0 [c.q.f1,c.q.f2]) s:=(i.fr t).1.all
  have n:IntKind.i64.wrap ((j:Int)+1)=((j+1:Nat):Int):=w64
  have next:∀ F,(c.reg F∧gp 11 F=.ptr c.pb 0 0)→(gp 8 F=iv .i64 (c.hi:Int)∧gp 28 F=c.wv∧gp 29 F=iv .i64 (c.w.length:Int))→gp 30 F=iv .i64 ((j+1:Nat):Int)→VcX.post76 c (r.code yx zeQ F W):=fun F k Y l =>
   J c F W (by rw [l,Y.2.2,e,p,zp,zp,zp];omega) ⟨⟨R,ah⟩,t.trans F1,k,m,Y,j+1,O,l,d.cast (by rw [List.take_add_one,kab O,kaN,kaG];rfl)⟩
  simp -implicitDefEqProofs [zjx,aa,e,p,E,O,U,I,fv,T,n]
  apply next
  ·exact ⟨⟨by simp [E],by simp [K],by simp [D],by simp [ad],by simp [o],by simp [ae],by simp [C]⟩,by simp [X]⟩
  ·simp [B,aa,e]
  ·simp
 ·obtain rfl:j=c.w.length:=by omega
  rw [List.take_length] at f
  simp -implicitDefEqProofs [zjx,e,p]
  exact ⟨_,s,rfl,t,⟨⟨by simp [E],by simp [K],by simp [D],by simp [ad],by simp [o],by simp [ae],by simp [C]⟩,by simp [X]⟩,by simp [B],f⟩
theorem zff {np n:Nat} {a:Int} {d:Int × Int × Int} {l:List (Int × Int × Int)} (h:yS np n a (d::l)=true):((a≤d.1∧d.1<d.2.1∧d.2.1≤n)∧0≤d.2.2∧d.2.2<np)∧yS np n d.2.1 l=true:=by
 rw [yS,kaf] at h
 exact ⟨of_decide_eq_true h.1,h.2⟩
theorem znR (l:List (Int × Int × Int)) (hi:i<(yw l).length) (N:i<l.length):(yw l)[i]=[iv .i64 l[i].1,iv .i64 l[i].2.1,iv .i64 l[i].2.2]:=by simp [yw]
theorem zcU (x y z:Int):∀ v∈[iv .i64 x,iv .i64 y,iv .i64 z],v≠.bad:=by
 intro v E
 simp only [kaj,List.not_mem_nil,or_false] at E
 rcases E with rfl | rfl | rfl<;>exact qG _ _
variable {tm:T}
theorem zD4 {r:R} {A:Go.Ev.A} (O:wL.run r tm s=A) (h:∀ (c:VcX) tm s,c.pre20 tm s→c.post20 (wL.run r tm s)) (c:VcX) (Z:c.pre20 tm s):c.post20 A:=O▸h c tm s Z
theorem zEc {r:R} {A:Go.Ev.A} (O:wI.run r tm s=A) (h:∀ (c:VcX) tm s,c.pre43 tm s→c.post43 (wI.run r tm s)) (c:VcX) (Z:c.pre43 tm s):c.post43 A:=O▸h c tm s Z
theorem zDM {r:R} {A:Go.Ev.A} (O:wH.run r tm s=A) (h:∀ (c:VcX) tm s,c.pre58 tm s→c.post58 (wH.run r tm s)) (c:VcX) (Z:c.pre58 tm s):c.post58 A:=O▸h c tm s Z
theorem zDR {r:R} {A:Go.Ev.A} (O:wJ.run r tm s=A) (h:∀ (c:VcX) tm s,c.pre76 tm s→c.post76 (wJ.run r tm s)) (c:VcX) (Z:c.pre76 tm s):c.post76 A:=O▸h c tm s Z
theorem zzm:∀ (c:VlX) tm s,c.pre h tm s→c.post (zcI.run (Rk Tryz.prog (KN4 h) (zfk h)) tm s):=by
 have aL:=zCC (h:=h)
 have aM:=zBT (h:=h)
 have aN:=zB8 (h:=h)
 have aO:=zCn (h:=h)
 refine zL (L:=zfk h) zt zvK rfl (fun tm _=>(toI (gp 17 tm)).toNat - (toI (gp 18 tm)).toNat) (fun x a ⟨_,_,h,_⟩=>by rw [h];exact fun h=>h) ?_
 rintro ⟨⟨q,b,C,R,v,sp⟩,vb,rb,spv,s1⟩ tm s ⟨y,az,⟨o,g5,aA,aw,aP⟩,i,a,L,⟨hi,U⟩,aB,g8,G,al,f⟩ J
 show VlX.post _ (zcI.run _ tm _)
 generalize Rk Tryz.prog _ _=r at J aL aM aN aO ⊢
 obtain ⟨⟨ar,aQ⟩,hR,hC,aR,I,M,bl,au,bm⟩:=id y
 simp only at ar aQ hR hC aR I M bl au bm az o g5 aA aw hi U G al f
 have bn:L.length≤1000000:=by
  have:=congrArg List.length al
  rw [kae] at this
  omega
 have aS:i<(sp++[((q.x.length:Int),(q.x.length:Int),(-1:Int))]).length:=by simp;omega
 have aT:i<(yw (sp++[((q.x.length:Int),(q.x.length:Int),(-1:Int))])).length:=by simpa [yw] using aS
 obtain ⟨p,B,z⟩:=(aR.fr az).1.load aT
 rw [znR _ aT aS] at z
 obtain ⟨d,u⟩:∃ d,(sp++[((q.x.length:Int),(q.x.length:Int),(-1:Int))])[i]=d:=⟨_,rfl⟩
 rw [u] at z
 obtain ⟨lo,ad,pt,T,D,N,aU,aV⟩:∃ (lo ad:Nat) (pt:Int),d.1=lo∧d.2.1=ad∧d.2.2=pt∧(a≤lo∧lo≤ad)∧ad≤q.x.length:=by
  by_cases O:i<sp.length
  ·have ao:d=sp[i]:=by rw [←u,List.getElem_append_left O]
   rw [List.drop_eq_getElem_cons O,←ao] at G
   obtain ⟨⟨⟨K,Q,k3⟩,k4⟩,-⟩:=zff G
   exact ⟨d.1.toNat,d.2.1.toNat,d.2.2,by omega,by omega,rfl,⟨by omega,by omega⟩,by omega⟩
  ·have ao:d=((q.x.length:Int),(q.x.length:Int),(-1:Int)):=by
    rw [←u,List.getElem_append_right (by omega)];simp
   subst ao
   exact ⟨q.x.length,q.x.length,-1,rfl,rfl,rfl,⟨U,kad _⟩,kad _⟩
 rw [T,D,N] at z
 obtain ⟨s0,W,bb,w,bo,t,st⟩:=zbE s (C:=[iv .i64 (lo:Int),iv .i64 (ad:Int),iv .i64 pt]) (Z:=[iv .i64 0,iv .i64 0,iv .i64 0]) (n:=3) (el:=75) rfl rfl (zcU _ _ _)
 have aC:NB q.a W s.nx [iv .i64 (lo:Int),iv .i64 (ad:Int),iv .i64 pt] 3 75:=bo▸NB.new f rfl (zcU _ _ _)
 obtain ⟨bp,F2⟩:=f.mono w
 have aD:=az.trans F2
 have aE:((i:Int)<(sp.length:Int)+1)=True:=eq_true (by omega)
 generalize g:zcI.run r tm s=F0
 simp -implicitDefEqProofs [zuq,aA,aw,aB,aE,B,z,t,st] at g
 generalize E:wL.run r _ W=A1 at g
 obtain ⟨bN,m,rfl,F3,⟨r4,r5,ae,ai,ah,aj,aa⟩,r8,aq⟩:=zD4 E aL ⟨q,b,vb,rb,s.nx,s.nx,spv,sp.length+1,i,lo,ad,pt,W,L,a,.bad,[],[],pd0⟩ ⟨⟨ar.fr aD,⟨_,rfl,rfl,aC⟩,hC.fr aD,by simp;omega,by simp only;omega⟩,FrA.refl _ _,⟨by simp [o],by simp [g5],by simp,by simp [aA],by simp [aw],by simp [aB],by simp [aP]⟩,by simp only;omega,a,⟨kad _,aU.1⟩,by simp [g8],bp.cast (by rw [zqU,List.append_nil])⟩
 simp only at r4 r5 ae ai ah aj r8 F3 aq
 have aF:=aD.trans F3
 have aW:∀ k:V→S→Go.Ev.A,zd false 1 (.ptr s.nx 0 2) m k=k (iv .i64 pt) m:=(aC.fr F3).1.fld 2 (by omega)
 have bO:=wT q.x a lo
 by_cases O:i<sp.length
 rotate_left
 ·have ao:d=((q.x.length:Int),(q.x.length:Int),(-1:Int)):=by
   rw [←u,List.getElem_append_right (by omega)];simp
  subst ao
  obtain rfl:pt=-1:=N.symm
  obtain rfl:lo=q.x.length:=by simp only at T;omega
  simp -implicitDefEqProofs [ae,aW] at g
  rw [←g]
  refine ⟨_,m,rfl,aF,by simp [aa],aq.cast ?_⟩
  rw [←al,List.drop_of_length_le (by omega),qH]
  congr 1
  unfold seg
  rw [List.take_of_length_le (by simp)]
 ·have ao:d=sp[i]:=by rw [←u,List.getElem_append_left O]
  rw [List.drop_eq_getElem_cons O,←ao] at G al
  obtain ⟨⟨⟨K,Q,k3⟩,k4,k5⟩,ay⟩:=zff G
  obtain ⟨k,rfl⟩:∃ k:Nat,pt=(k:Int):=⟨pt.toNat,by omega⟩
  have F:k<R.ps.length:=by omega
  have br:((k:Int)<0)=False:=eq_false (by omega)
  have bt:R.ps.getD d.2.2.toNat pd0=R.ps[k]:=by rw [N];simp [kab F]
  obtain ⟨pv,el,er,bu,⟨aG,bw,-⟩,bz,-,-⟩:=hR
  have ak:=bz k F
  have R3:=(aQ.fr aF).1
  have f1:∀ k:V→S→Go.Ev.A,zd false 1 (.ptr rb 0 1) m k=k pv m:=fun k=>by rw [R3.fld 1 (by omega),bu];rfl
  obtain ⟨qq,bA,aX⟩:=jE (aG.ext aq.ext).1 bw F (by rw [zV aG aq.ext];exact ak.cells.2)
  rw [zV aG aq.ext] at aX
  obtain ⟨t0,l,bP,E4,bB,bC,bD⟩:=zbE m (Z:=[iv .i64 0,iv .i64 0,iv .i64 0,.str [],iv .i64 0,iv .i64 0,.nil 1,.bool false,.nil 1,.nil 1]) (el:=42) ak.cells.1 rfl ak.cells.2
  have ax:NB q.a l m.nx (rwC 10 b pv k) 10 42:=bB▸NB.new aq ak.cells.1 ak.cells.2
  obtain ⟨e,Bv,Av,aY,-,aZ,ba⟩:=ak
  obtain ⟨bE,F4⟩:=aq.mono E4
  have bF:e.length=7:=by
   have:=ax.1.2.1
   rw [aY] at this
   simpa using this
  have X:∀ j,(rwC 10 b pv k).getD (7+j) .bad=[V.bool R.ps[k].cp,Bv,Av].getD j .bad:=fun j=>by
   rw [aY,kaa,kaw (by omega),bF,Nat.add_sub_cancel_left,←kaa]
  have aH:=aF.trans F4
  have f8:∀ k:V→S→Go.Ev.A,zd false 1 (.ptr m.nx 0 8) l k=k Bv l:=fun k'=>by rw [ax.1.fld 8 (by omega),X 1];rfl
  have bc:=aZ.lenS
  have bd:=ba.lenS
  obtain ⟨bK,bL⟩:=au _ (kai F)
  generalize bM:R.ps[k]=pd at *
  have g7:(rwC 10 b pv k).getD 7 .bad=.bool pd.cp:=X 0
  have g9:(rwC 10 b pv k).getD 9 .bad=Av:=X 2
  simp -implicitDefEqProofs [ae,aW,br,r5,f1,bA,aX,bC,bD,f8,bc] at g
  generalize E:wI.run r _ l=A1 at g
  have av:=aC.fr F3
  obtain ⟨bQ,s5,rfl,F5,⟨⟨r4,r5,ae,ai,ah,aj,aa⟩,an⟩,r8,bg⟩:=zEc E aN ⟨q,b,vb,rb,s.nx,m.nx,spv,sp.length+1,i,lo,ad,k,l,L++seg q.x a lo,a,Bv,pd.bf,rwC 10 b pv k,pd⟩ ⟨⟨⟨ar.fr aH,⟨_,rfl,rfl,av.fr F4⟩,hC.fr aH,by simp only [kae];omega,by simp only;omega⟩,by simp only;omega⟩,FrA.refl _ _,⟨⟨by simp [r4],by simp [r5],by simp [ae],by simp [ai],by simp [ah],by simp [aj],by simp [aa]⟩,by simp⟩,aZ,⟨by simp [r8],by simp,by simp⟩,0,Nat.zero_le _,by simp,bE.cast (by simp)⟩
  simp only at r4 r5 ae ai ah aj an r8 F5 bg
  have aJ:=aH.trans F5
  simp -implicitDefEqProofs  at g
  generalize E:wH.run r _ s5=A1 at g
  obtain ⟨bR,s6,rfl,F6,⟨⟨r4,r5,ae,ai,ah,aj,aa⟩,an⟩,r8,bh⟩:=zDM E aM ⟨q,b,vb,rb,s.nx,m.nx,spv,sp.length+1,i,lo,ad,k,s5,(L++seg q.x a lo)++pd.bf.map q.nw,a,Bv,pd.bf,rwC 10 b pv k,pd⟩ ⟨⟨ar.fr aJ,⟨_,rfl,rfl,(av.fr F4).fr F5⟩,hC.fr aJ,by simp only [kae,kaH];omega,by simp only;omega⟩,FrA.refl _ _,⟨⟨r4,r5,ae,ai,ah,aj,aa⟩,an,ax.fr F5,g7⟩,aV,lo,⟨kad _,aU.2⟩,r8,bg.cast (by rw [zqU];split<;>simp)⟩
  simp only at r4 r5 ae ai ah aj an r8 F6 bh
  have aK:=aJ.trans F6
  have f9:∀ k:V→S→Go.Ev.A,zd false 1 (.ptr m.nx 0 9) s6 k=k Av s6:=fun k'=>by rw [((ax.fr F5).fr F6).1.fld 9 (by omega),g9]
  have bG:=wT q.x lo ad
  have bS:(if pd.cp=true then seg q.x lo ad else []).length≤q.x.length:=by
   split
   ·exact bG
   ·simp
  simp -implicitDefEqProofs [an,f9,bd] at g
  generalize E:wJ.run r _ s6=A1 at g
  obtain ⟨bj,s7,rfl,F7,⟨⟨r4,r5,ae,ai,ah,aj,aa⟩,an⟩,r8,bk⟩:=zDR E aO ⟨q,b,vb,rb,s.nx,m.nx,spv,sp.length+1,i,lo,ad,k,s6,((L++seg q.x a lo)++pd.bf.map q.nw)++(if pd.cp then seg q.x lo ad else []),a,Av,pd.af,rwC 10 b pv k,pd⟩ ⟨⟨⟨ar.fr aK,⟨_,rfl,rfl,((av.fr F4).fr F5).fr F6⟩,hC.fr aK,by simp only [kae,kaH];omega,by simp only;omega⟩,by simp only;omega⟩,FrA.refl _ _,⟨⟨by simp [r4],by simp [r5],by simp [ae],by simp [ai],by simp [ah],by simp [aj],by simp [aa]⟩,by simp [an]⟩,ba,⟨by simp [r8],by simp,by simp⟩,0,Nat.zero_le _,by simp,bh.cast (by simp)⟩
  simp only at r4 r5 ae ai ah aj an r8 F7 bk
  have bH:=aK.trans F7
  have Y:IntKind.i64.wrap ((i:Int)+1)=((i+1:Nat):Int):=w64
  simp -implicitDefEqProofs [aj,Y] at g
  rw [←g]
  refine J ⟨⟨q,b,C,R,v,sp⟩,vb,rb,spv,s1⟩ _ s7 ?_ ⟨y,bH,⟨by simp [r4],by simp [r5],by simp [ai],by simp [ah],by simp [aa]⟩,i+1,ad,_,⟨O,aV⟩,by simp,by simp [r8],by show yS _ _ _ _=true;rw [D] at ay;exact ay,?_,bk⟩
  ·have bI:gp 17 (Go.Ev.sp 18 (iv .i64 ((i:Int)+1)) bj)=iv .i64 ((sp.length+1:Nat):Int):=by simp [ah]
   have bJ:gp 18 (Go.Ev.sp 18 (iv .i64 ((i:Int)+1)) bj)=iv .i64 ((i+1:Nat):Int):=by simp
   rw [bI,bJ,aw,aB,zp,zp,zp]
   omega
  ·rw [←al]
   show _=L++qH q.x q.nw R.ps a (d::_)
   rw [qH,bt,T,D]
   simp only [kaG,Int.toNat_natCast]
theorem zdE {α:Type} (x:List α) (nw:Int→α) {ps:List PaD} (Z:∀ p∈ps,p.bf.length≤40∧p.af.length≤40):∀ (l:List (Int × Int × Int)) (a:Nat),(qH x nw ps a l).length≤x.length+l.length*(2*x.length+80)
 | [],a=>by simp [qH]
 | d::l,a=>by
  have X:=zdE x nw Z l d.2.1.toNat
  have A:(ps.getD d.2.2.toNat pd0).bf.length≤40∧(ps.getD d.2.2.toNat pd0).af.length≤40:=by
   rw [kaa]
   by_cases h:d.2.2.toNat<ps.length
   ·rw [kab h];exact Z _ (kai h)
   ·rw [kal (by omega)];exact ⟨by simp [pd0],by simp [pd0]⟩
  have I:=wT x a d.1.toNat
  have J:(if (ps.getD d.2.2.toNat pd0).cp=true then seg x d.1.toNat d.2.1.toNat else []).length≤x.length:=by
   split
   ·exact wT _ _ _
   ·simp
  rw [qH]
  simp only [kae,kaH,kay]
  rw [Nat.add_mul]
  omega
theorem yu.own_ext (h:yu q b s L) (e:Ext s U) {c:Go.Ev.K} (C:own q.a U c):b.nx.toNat≤c.toNat∧c.toNat<s.nx.toNat:=by
 obtain ⟨w,h⟩:=h
 rcases zhN (h.bx.ext e).1 C with rfl | hb
 ·exact ⟨h.lo,h.bx.2.2.2⟩
 ·exact h.gz.blk hb
theorem zwz (s:S) {n:Nat} (f:C.length=n) (X:∀ x∈C,x≠.bad):Rw (zY s (.row C n el false 0 0 0)) n (.sl s.nx 0 0 1 1) [C]:=by
 refine ⟨.inr ⟨s.nx,0,0,1,.inl ⟨1,rfl,kad _⟩,?_,C,n,el,false,0,0,0,qQ _ _,f,ql.2 (.inr ⟨rfl,by omega⟩)⟩,rfl,fun x M=>by rw [kak.1 M];exact f,fun x M=>by rw [kak.1 M];exact X,fun i j hi G=>?_⟩
 ·show s.nx.toNat<s.nx.succ.toNat
  rw [K.toNat_succ];omega
 ·obtain rfl:i=0:=by simpa using hi
  simp [qg,qQ,yR]
theorem Gq.ext (h:Gq el sz b s v L) (e:Ext s U):Gq el sz b U v L:=by
 rcases h with h | ⟨rfl,a,rfl,I,J,Q⟩
 ·exact .inl (h.ext e)
 ·exact .inr ⟨rfl,a,rfl,I,kan J e.nx,(e.get a J).trans Q⟩
theorem zuo (l:List (Int × Int × Int)):(∀ x∈yw l,x.length=3)∧∀ x∈yw l,∀ y∈x,y≠.bad:=by
 refine ⟨fun x M=>?_,fun x M=>?_⟩
 ·obtain ⟨d,_,rfl⟩:=kau.1 M;rfl
 ·obtain ⟨d,_,rfl⟩:=kau.1 M;exact zcU _ _ _
theorem zo0 (h:Nat):zo Tryz.prog (KN4 h) 24:=by
 have e:=zzm (h:=h)
 have ae:=zk (zh (L:=zfk h) (show zo Tryz.prog (KN4 h) 34 from zrO h)) (X:=V × List (List V)) rfl
 refine zr (L:=zfk h) zt (K:=KN4 h) (X:=VsX) rfl ?_
 rintro ⟨q,b,C,R,v,sp⟩ a s ⟨rfl,⟨f,d⟩,i,E,T,D⟩
 simp only at f d i E T
 generalize Rk Tryz.prog _ _=r at e ae ⊢
 obtain ⟨al,aa⟩:=d.cell
 have ah:=ji i.cells.1
 obtain ⟨Z,j,S⟩:=qT s (el:=63) (c:=[q.f1,q.f2]) (n:=2) rfl aa
 have n1:NB q.a _ s.nx [q.f1,q.f2] 2 63:=NB.new f rfl aa
 generalize zY s (.row [q.f1,q.f2] 2 63 false 0 0 0)=s1 at *
 obtain ⟨ai,F1⟩:=f.mono j
 obtain ⟨p,w,F⟩:=qT s1 (el:=38) i.cells.1 i.cells.2
 have n2:NB q.a _ s1.nx C 16 38:=NB.new ai i.cells.1 i.cells.2
 generalize zY s1 (.row C 16 38 false 0 0 0)=W at *
 obtain ⟨ad,F2⟩:=ai.mono w
 obtain ⟨y,m,l,J,Y⟩:=ae (v,yw sp) _ W ⟨rfl,E.ext ad.ext,by simp [yw];have:=D.2.2.1;simp only at this;omega⟩
 obtain ⟨b4,E4,an⟩:=qT m (el:=75) (c:=[iv .i64 (q.x.length:Int),iv .i64 (q.x.length:Int),iv .i64 (-1)]) (n:=3) rfl (zcU _ _ _)
 have aj:=zwz m (el:=75) (C:=[iv .i64 (q.x.length:Int),iv .i64 (q.x.length:Int),iv .i64 (-1)]) (n:=3) rfl (zcU _ _ _)
 generalize zY m (.row [iv .i64 (q.x.length:Int),iv .i64 (q.x.length:Int),iv .i64 (-1)] 3 75 false 0 0 0)=I at *
 obtain ⟨z,k,M,E5,-,hz⟩:=(Y.ext E4).app (J.trans E4) (by omega) aj (by simp [yw];have:=D.2.2.1;simp only at this;omega)
 have hz:=hz (by simp)
 have Q:yw sp++[[iv .i64 (q.x.length:Int),iv .i64 (q.x.length:Int),iv .i64 (-1)]]=yw (sp++[((q.x.length:Int),(q.x.length:Int),(-1:Int))]):=by simp [yw]
 rw [Q] at hz
 obtain ⟨ao,F5⟩:=ad.mono E5
 have ak:RwN q.a k 3 z (yw (sp++[((q.x.length:Int),(q.x.length:Int),(-1:Int))])):=⟨Gz.rw hz (zuo _).1 (zuo _).2,fun c g=>⟨(hz.blk g).2,fun U=>by have:=(hz.blk g).1;have:=(ad.own_ext E5 U).2;omega⟩⟩
 have o:∀ c:V→Go.Ev.A,zm z c=c (iv .i64 ((sp.length+1:Nat):Int)):=fun c=>by rw [ak.1.lenS];simp [yw]
 have ng:∀ c:List V→Go.Ev.A,zg 1 (.neg .i64 0) c=c [iv .i64 (-1)]:=fun _=>rfl
 have aq:∀ x:V,upd [x] 0 [iv .i64 0,iv .i64 0,iv .i64 0]=[x,iv .i64 0,iv .i64 0]:=fun _=>rfl
 have up1:∀ x y:V,upd [y] 1 [x,iv .i64 0,iv .i64 0]=[x,y,iv .i64 0]:=fun _ _=>rfl
 have ar:∀ x y z:V,upd [z] 2 [x,y,iv .i64 0]=[x,y,z]:=fun _ _ _=>rfl
 have up:∀ B u x2:V,upd [B,u,x2] 0 (Go.Ev.rep [iv .i64 0,iv .i64 0,iv .i64 0] 1)=[B,u,x2]:=fun _ _ _=>rfl
 have au:∀ (B u x2:V) (c:List V→Go.Ev.A),zg 3 (.ls 0 [B,u,x2]) c=c [B,u,x2]:=fun B u x2 c=>yg 3 _ rfl c
 generalize t:(fnC zf 24).run r _ _=F0
 simp -implicitDefEqProofs [jc,al,S,ah,F,l,ng,aq,up1,ar,up,au,an,M,o] at t
 generalize O:zcI.run r _ k=A1 at t
 obtain ⟨N,s6,rfl,F6,G,av⟩:=O▸e ⟨⟨q,b,C,R,v,sp⟩,s.nx,s1.nx,z,k⟩ _ k ⟨⟨⟨(n1.fr F2).fr F5,n2.fr F5⟩,i,((d.fr F1).fr F2).fr F5,ak,D⟩,FrA.refl _ _,⟨by simp,by simp,by simp,by simp,by simp⟩,0,0,[],⟨Nat.zero_le _,Nat.zero_le _⟩,by simp,by simp,T,rfl,ao⟩
 simp -implicitDefEqProofs [G] at t
 exact ⟨_,s6,t.symm,((F1.trans F2).trans F5).trans F6,av⟩
theorem zzD (h:Nat):zo Tryz.prog (KN4 h) 32:=by
 have hV:=zk (zh (L:=noL) (zo0 h)) (X:=VsX) rfl
 refine zr (L:=noL) zt (K:=KN4 h) (X:=ToX) rfl ?_
 rintro ⟨C,R,v,w,vs,sp⟩ a s ⟨rfl,i,m,E,T,ar,aj,aa,ak⟩
 simp only at i m E T ar aj aa ak
 generalize Rk Tryz.prog _ _=r at hV ⊢
 have al:=ji i.cells.1
 obtain ⟨D,j,G⟩:=qT s (el:=38) i.cells.1 i.cells.2
 generalize zY s (.row C 16 38 false 0 0 0)=s1 at *
 have au:∀ c:List V→Go.Ev.A,zg 1 v c=c [v]:=fun c=>by
  rcases m.1.1 with (rfl | ⟨_,rfl⟩) | ⟨_,_,_,_,⟨_,rfl,_⟩ | ⟨_,rfl⟩,_⟩<;>rfl
 obtain ⟨p,q,F⟩:=qT s1 (el:=40) (c:=[v]) (n:=1) rfl (fun y Y=>by rw [kak.1 Y];exact m.1.ne)
 generalize zY s1 (.row [v] 1 40 false 0 0 0)=W at *
 obtain ⟨b3,b,av⟩:=qT W (el:=40) (c:=[.nil 1]) (n:=1) rfl (fun y Y=>by rw [kak.1 Y];exact fun h=>by cases h)
 generalize zY W (.row [.nil 1] 1 40 false 0 0 0)=I at *
 obtain ⟨f1,ad⟩:∃ f1,f1=V.fn (.func 58) [] [.ptr W.nx 0 0,.ptr s1.nx 0 0]:=⟨_,rfl⟩
 obtain ⟨f2,ae⟩:∃ f2,f2=V.fn (.func 59) [] [.ptr W.nx 0 0]:=⟨_,rfl⟩
 have an:∀ x∈[f1,f2],x≠V.bad:=fun x M=>by
  simp only [kaj,List.not_mem_nil,or_false] at M
  rcases M with rfl | rfl
  ·rw [ad];exact fun h=>by cases h
  ·rw [ae];exact fun h=>by cases h
 obtain ⟨t0,l,b4,t,-,aw,ax⟩:=zbE I (C:=[f1,f2]) (Z:=[.nil 3,.nil 3]) (n:=2) (el:=63) rfl rfl an
 have ah:=b.trans t
 have f:yu ⟨f1,f2,W.nx,40,3,1,yA w,fun z=>[iv .i64 z]⟩ W l []:=⟨.nil 1,ah,b3.ext t,kad _,.inl ⟨rfl,rfl⟩,(fun x M=>by cases M),fun x M=>by cases M⟩
 have ao:Bx l s1.nx [v] 1 40:=p.ext ah
 have Q:AcC ⟨f1,f2,W.nx,40,3,1,yA w,fun z=>[iv .i64 z]⟩ W l:=.inl ⟨s1.nx,v,40,ad,ae,⟨rfl,rfl⟩,⟨ao,fun U=>by have:=(f.own_ U).1;have:=p.2.2.2;omega⟩,⟨w,rfl,(m.ext j).ext q⟩,rfl⟩
 have e:=j.trans q
 have ai:(yA w).length=w.length:=by simp [yA]
 have B:qH (yA w) (fun z=>[iv .i64 z]) R.ps 0 sp=yA (qH w id R.ps 0 sp):=by
  rw [yA,yA,←zq9 (fun z=>[iv .i64 z]) w id R.ps sp 0];rfl
 have O:=zdE w id aa sp 0
 have hbound:(qH w id R.ps 0 sp).length≤1000000:=by
  have:sp.length*(2*w.length+80)≤300*(2*300+80):=Nat.mul_le_mul aj (by omega)
  omega
 obtain ⟨u,N,J,F5,ay⟩:=hV ⟨⟨f1,f2,W.nx,40,3,1,yA w,fun z=>[iv .i64 z]⟩,W,C,R,vs,sp⟩ _ l ⟨rfl,⟨f,Q⟩,i.ext e,E.ext e,by rw [ai];exact T,by show (qH (yA w) _ R.ps 0 sp).length≤_;rw [B,yA,kaH];exact hbound,by rw [ai];omega,by simp only;omega,aa,ak⟩
 rw [ai] at J
 obtain ⟨y,Y⟩:=ay
 have fy:∀ k:V→S→Go.Ev.A,zd false 1 (.ptr W.nx 0 0) N k=k y N:=fun k=>Y.bx.fld 0 (by omega) k
 have az:Wd N y (qH w id R.ps 0 sp):=by
  refine Rw.wd ?_ (by omega)
  have:=Gz.rw Y.gz Y.sz_ Y.nb
  rw [←B]
  exact this
 have aA:∀ k:V→S→Go.Ev.A,zd true 2 (.ptr I.nx 0 0) l k=k (.ls 0 [f1,f2]) l:=b4.all
 have aq:∀ k:V→S→Go.Ev.A,zd true 16 (.ptr s.nx 0 0) l k=k (.ls 0 C) l:=(D.ext (q.trans ah)).all
 have aB:∀ k:V→S→Go.Ev.A,zd false 1 (.ptr s1.nx 0 0) l k=k v l:=ao.fld 0 (by omega)
 have o:=m.lenS
 have aC:∀ x:V,upd [x] 0 [.nil 3,.nil 3]=[x,.nil 3]:=fun _=>rfl
 have up1:∀ x y:V,upd [y] 1 [x,.nil 3]=[x,y]:=fun _ _=>rfl
 have c1:∀ c:List V→Go.Ev.A,zg 1 (V.fn (.func 58) [] [.ptr W.nx 0 0,.ptr s1.nx 0 0]) c=c [f1]:=fun c=>by rw [ad];rfl
 have c2:∀ c:List V→Go.Ev.A,zg 1 (V.fn (.func 59) [] [.ptr W.nx 0 0]) c=c [f2]:=fun c=>by rw [ae];rfl
 generalize g:(fnC zf 32).run r _ _=d
 simp -implicitDefEqProofs [zA6,al,G,au,F,av,c1,c2,aC,up1,aw,ax,aA,aq,aB,o,J,fy] at g
 exact ⟨_,N,g.symm,e.trans Y.ext,az⟩
theorem zt2 (h:Sl s sz v):yT v v=true:=by
 rcases h with (rfl | ⟨c,rfl⟩) | ⟨a,w,o,len,⟨cap,rfl,_⟩ | ⟨e,rfl⟩,_⟩
 ·rfl
 ·exact zyD c 1
 ·show zB (K.beq a a) (zB (Nat.beq _ _) (zB (Nat.beq _ _) (zB (Nat.beq _ _) (Nat.beq _ _))))=true
  simp only [zaK,kaF];rfl
 ·show zB (K.beq a a) (zB (Nat.beq _ _) (zB (Nat.beq _ _) (zB (Nat.beq _ _) (Nat.beq _ _))))=true
  simp only [zaK,kaF];rfl
variable {D:List V} {t:TfD}
theorem StR.ext (h:StR s D t) (e:Ext s U):StR U D t:=by
 obtain ⟨b,a,v,I,⟨J,Q⟩,K,d⟩:=h
 exact ⟨b,a,v,I,⟨J.ext e,Q⟩,K.ext e,d.ext e⟩
theorem Rw.ne (h:Rw s sz v L):v≠.bad:=zwD h.sl
theorem StR.cells (h:StR s D t):D.length=4∧∀ x∈D,x≠.bad:=by
 obtain ⟨b,a,v,rfl,⟨J,-⟩,K,d⟩:=h
 refine ⟨rfl,fun x M=>?_⟩
 simp only [kaj,List.not_mem_nil,or_false] at M
 rcases M with rfl | rfl | rfl | rfl
 ·exact qG _ _
 ·exact J.1.ne
 ·exact K.1.ne
 ·exact d.ne
theorem zq2 (h:C.length=4) (c:List V→Go.Ev.A):zg 4 (.ls 0 C) c=c C:=yg 4 C h c
structure TBx (s:S) (a:Go.Ev.K) (t:TfD):Prop where
 f0:∀ k:V→S→Go.Ev.A,zd false 1 (.ptr a 0 0) s k=k (iv .i64 t.rule) s
 f1:∃ v,(∀ k:V→S→Go.Ev.A,zd false 1 (.ptr a 0 1) s k=k v s)∧Wd s v t.bf∧Fx v
 f2:∃ v,(∀ k:V→S→Go.Ev.A,zd false 1 (.ptr a 0 2) s k=k v s)∧Wd s v t.af
 f3:∃ v,(∀ k:V→S→Go.Ev.A,zd false 1 (.ptr a 0 3) s k=k v s)∧Rw s 3 v (yw t.sp)
theorem Bx.tb (b:Bx s a D 4 el) (h:StR s D t):TBx s a t:=by
 obtain ⟨bv,f,B,rfl,J,O,d⟩:=h
 exact ⟨b.fld 0 (by omega),⟨bv,b.fld 1 (by omega),J⟩,⟨f,b.fld 2 (by omega),O⟩,⟨B,b.fld 3 (by omega),d⟩⟩
structure FtX where
 C:List V
 R:RuD
 D:List V
 t:TfD
 rb:Go.Ev.K
 tb:Go.Ev.K
 vs:V
 b:S
def FtX.base (h:Nat) (c:FtX):Prop:=(Bx c.b c.rb c.C 16 38∧RuR h c.b c.C c.R)∧(Bx c.b c.tb c.D 4 45∧StR c.b c.D c.t)∧Rw c.b 3 c.vs (yw c.t.sp)∧c.t.sp.length≤300
def FtX.np (c:FtX):Nat:=c.R.ps.length
def FtX.n (c:FtX):Nat:=c.t.bf.length
def FtX.pre (h:Nat) (c:FtX) (tm:T) (s:S):Prop:=c.base h∧Ext c.b s∧(gp 2 tm=.ptr c.rb 0 0∧gp 3 tm=.ptr c.tb 0 0∧gp 8 tm=c.vs∧gp 9 tm=iv .i64 (c.t.sp.length:Int)∧gp 240 tm=.bad)∧∃ (i:Nat) (z:Int),i≤c.t.sp.length∧gp 10 tm=iv .i64 (i:Int)∧gp 5 tm=iv .i64 z∧yS c.np c.n z (c.t.sp.drop i)=yS c.np c.n 0 c.t.sp
def FtX.post (c:FtX) (x:Go.Ev.A):Prop:=(∃ N s,x=.ext 0 N s∧Ext c.b s∧(gp 2 N=.ptr c.rb 0 0∧gp 3 N=.ptr c.tb 0 0∧gp 240 N=.bad)∧yS c.np c.n 0 c.t.sp=true)∨∃ N s,x=.ret N s∧Ext c.b s∧gp 240 N=.bad∧gp 4 N=.bool false∧yS c.np c.n 0 c.t.sp=false
theorem zCf:∀ (c:FtX) tm s,c.pre h tm s→c.post (zea.run (Rk Tryz.prog (KN4 h) fun _=>ltI (FtX.pre h) FtX.post) tm s):=by
 refine zL (L:=fun _=>ltI (FtX.pre h) FtX.post) zt zvX rfl (fun tm _=>(toI (gp 9 tm)).toNat - (toI (gp 10 tm)).toNat) (fun x a h=>by rcases h with ⟨_,_,rfl,_⟩ | ⟨_,_,rfl,_⟩<;>exact fun h=>h) ?_
 rintro ⟨C,R,D,t,rb,tb,vs,b⟩ tm s ⟨y,Y,⟨J,Q,B,X,N⟩,i,z,hi,e,g,u⟩ T
 show FtX.post _ (zea.run _ tm _)
 generalize Rk Tryz.prog _ _=r at T ⊢
 obtain ⟨⟨ad,hR⟩,⟨ae,hT⟩,ah,ai⟩:=id y
 simp only [FtX.np,FtX.n] at ad hR ae hT ah ai Y J Q B X hi u
 by_cases O:i<t.sp.length
 ·have aj:i<(yw t.sp).length:=by simpa [yw] using O
  obtain ⟨q,U,I⟩:=(ah.ext Y).load aj
  rw [znR _ aj O] at I
  rw [List.drop_eq_getElem_cons O] at u
  generalize t.sp[i]=d at I u
  obtain ⟨lo,G,pt⟩:=d
  simp only at I
  obtain ⟨s0,W,bb,w,-,l,st⟩:=zbE s (C:=[iv .i64 lo,iv .i64 G,iv .i64 pt]) (Z:=[iv .i64 0,iv .i64 0,iv .i64 0]) (n:=3) (el:=75) rfl rfl (zcU _ _ _)
  have E:=Y.trans w
  have f0:∀ k:V→S→Go.Ev.A,zd false 1 (.ptr s.nx 0 0) W k=k (iv .i64 lo) W:=bb.fld 0 (by omega)
  have f1:∀ k:V→S→Go.Ev.A,zd false 1 (.ptr s.nx 0 1) W k=k (iv .i64 G) W:=bb.fld 1 (by omega)
  have f2:∀ k:V→S→Go.Ev.A,zd false 1 (.ptr s.nx 0 2) W k=k (iv .i64 pt) W:=bb.fld 2 (by omega)
  obtain ⟨bv,t1,ao,-⟩:=((ae.ext E).tb (hT.ext E)).f1
  have aa:=ao.lenS
  obtain ⟨pv,r1,⟨aq,ar,-⟩,-⟩:=((ad.ext E).ru (hR.ext E)).f1
  have ak:∀ c:V→Go.Ev.A,zm pv c=c (iv .i64 (R.ps.length:Int)):=fun c=>by rw [aq.len,ar]
  have bad:∀ x,¬((z≤lo∧lo<G∧G≤t.bf.length)∧0≤pt∧pt<R.ps.length)→(∃ F,x=.ret F W∧gp 240 F=.bad∧gp 4 F=.bool false)→FtX.post ⟨C,R,D,t,rb,tb,vs,b⟩ x:=fun x o ⟨F,M,K,v⟩=>.inr ⟨F,W,M,E,K,v,by show yS R.ps.length t.bf.length 0 t.sp=false;rw [←u,yS,decide_eq_false o,Bool.false_and]⟩
  by_cases j:lo<z
  ·refine bad _ (fun h=>by omega) ?_
   simp -implicitDefEqProofs [wz,zad,B,X,e,g,O,U,I,l,st,f0,j,N]
  by_cases p:G≤lo
  ·refine bad _ (fun h=>by omega) ?_
   simp -implicitDefEqProofs [wz,zad,B,X,e,g,O,U,I,l,st,f0,j,f1,p,N]
  by_cases m:(t.bf.length:Int)<G
  ·refine bad _ (fun h=>by omega) ?_
   simp -implicitDefEqProofs [wz,zad,B,X,e,g,O,U,I,l,st,f0,j,f1,p,Q,t1,aa,m,N]
  by_cases q4:pt<0
  ·refine bad _ (fun h=>by omega) ?_
   simp -implicitDefEqProofs [wz,zad,B,X,e,g,O,U,I,l,st,f0,j,f1,p,Q,t1,aa,m,f2,q4,N]
  by_cases q5:(R.ps.length:Int)≤pt
  ·refine bad _ (fun h=>by omega) ?_
   simp -implicitDefEqProofs [wz,zad,B,X,e,g,O,U,I,l,st,f0,j,f1,p,Q,t1,aa,m,f2,q4,J,r1,ak,q5,N]
  have f:IntKind.i64.wrap ((i:Int)+1)=((i+1:Nat):Int):=w64
  have al:(z≤lo∧lo<G∧G≤(t.bf.length:Int))∧0≤pt∧pt<(R.ps.length:Int):=⟨⟨by omega,by omega,by omega⟩,by omega,by omega⟩
  have next:∀ F,(gp 2 F=.ptr rb 0 0∧gp 3 F=.ptr tb 0 0∧gp 8 F=vs∧gp 9 F=iv .i64 (t.sp.length:Int)∧gp 240 F=.bad)→gp 10 F=iv .i64 ((i+1:Nat):Int)→gp 5 F=iv .i64 G→FtX.post ⟨C,R,D,t,rb,tb,vs,b⟩ (r.code zgP zgk F W):=fun F k an k5 =>
   T ⟨C,R,D,t,rb,tb,vs,b⟩ F W (by rw [an,k.2.2.2.1,X,e,zp,zp,zp];omega) ⟨y,E,k,i+1,G,O,an,k5,by show yS R.ps.length t.bf.length G _=yS R.ps.length t.bf.length 0 t.sp;rw [←u,yS,decide_eq_true al,Bool.true_and]⟩
  simp -implicitDefEqProofs [wz,zad,B,X,e,g,O,U,I,l,st,f0,j,f1,p,Q,t1,aa,m,f2,q4,J,r1,ak,q5,f]
  apply next<;>simp [J,Q,B,X,N]
 ·obtain rfl:i=t.sp.length:=by omega
  rw [List.drop_of_length_le (kad _)] at u
  simp -implicitDefEqProofs [wz,zad,X,e]
  exact .inl ⟨_,s,rfl,Y,by simp [J,Q,N],u.symm⟩
theorem zyh (h:Nat):zo Tryz.prog (KN4 h) 21:=by
 have E:=zCf (h:=h)
 have hO:=zk (zh (L:=fun _=>ltI (FtX.pre h) FtX.post) (zzD h)) (X:=ToX) rfl
 have B:=zk (zh (L:=fun _=>ltI (FtX.pre h) FtX.post) (show zo Tryz.prog (KN4 h) 20 from zqC h)) (X:=V × V × List Int × List Int) rfl
 refine zr (L:=fun _=>ltI (FtX.pre h) FtX.post) zt (K:=KN4 h) (X:=List V × RuD × List V × TfD) rfl ?_
 rintro ⟨C,R,D,t⟩ a s ⟨rfl,O,hT,ak,ae,al,an⟩
 generalize Rk Tryz.prog _ _=r at E hO B ⊢
 have ah:=ji O.cells.1
 have ao:=zq2 hT.cells.1
 obtain ⟨Z,j,M⟩:=qT s (el:=38) O.cells.1 O.cells.2
 generalize zY s (.row C 16 38 false 0 0 0)=s1 at *
 obtain ⟨p,q,F⟩:=qT s1 (el:=45) hT.cells.1 hT.cells.2
 generalize zY s1 (.row D 4 45 false 0 0 0)=W at *
 have aa:=j.trans q
 have T2:=p.tb (hT.ext aa)
 obtain ⟨vs,t3,ai⟩:=T2.f3
 have o:∀ c:V→Go.Ev.A,zm vs c=c (iv .i64 (t.sp.length:Int)):=fun c=>by rw [ai.lenS];simp [yw]
 generalize g:(fnC zf 21).run r _ _=F0
 simp -implicitDefEqProofs [zad,ah,M,ao,F,t3,o] at g
 generalize f:zea.run r _ W=A1 at g
 rcases f▸E ⟨C,R,D,t,s.nx,s1.nx,vs,W⟩ _ W ⟨⟨⟨Z.ext q,O.ext aa⟩,⟨p,hT.ext aa⟩,ai,ae⟩,Ext.refl W,⟨by simp,by simp,by simp,by simp,by simp⟩,0,0,Nat.zero_le _,by simp,by simp,rfl⟩ with ⟨N,m,rfl,b,⟨Q,d,G⟩,T⟩ | ⟨N,m,rfl,b,G,u,T⟩
 ·simp only [FtX.np,FtX.n] at Q d T
  have T3:=(p.ext b).tb (hT.ext (aa.trans b))
  obtain ⟨bv,z,aq,-⟩:=T3.f1
  obtain ⟨av,U,aj⟩:=T3.f2
  obtain ⟨sv,i,ar⟩:=T3.f3
  have gA:∀ k:V→S→Go.Ev.A,zd true 16 (.ptr s.nx 0 0) m k=k (.ls 0 C) m:=(Z.ext (q.trans b)).all
  obtain ⟨y,l,w,E4,Y⟩:=hO ⟨C,R,bv,t.bf,sv,t.sp⟩ _ m ⟨rfl,O.ext (aa.trans b),aq,ar,T,ak,ae,al,an⟩
  simp only at w
  have ad:∀ k:V→S→Go.Ev.A,zd false 1 (.ptr s1.nx 0 2) l k=k av l:=by
   obtain ⟨au,ad,-⟩:=((p.ext (b.trans E4)).tb (hT.ext (aa.trans (b.trans E4)))).f2
   have e:av=au:=by
    have I:=(p.ext b).fld 2 (by omega) (fun v s=>.fin v s)
    have J:=(p.ext (b.trans E4)).fld 2 (by omega) (fun v s=>.fin v s)
    rw [U] at I
    rw [ad] at J
    injection I with I
    injection J with J
    rw [I,J]
   rw [e];exact ad
  have aw:=zt2 aj.1.1
  obtain ⟨_,l,x,rfl,rfl⟩:=B (y,av,_,_) _ l ⟨rfl,Y,aj.ext E4⟩
  simp -implicitDefEqProofs [Q,d,G,gA,z,U,i,w,ad,aw,x] at g
  refine ⟨_,l,g.symm,(aa.trans b).trans E4,?_⟩
  show V.bool _=V.bool (zbu R t)
  rw [zbu,T,Bool.true_and]
  rfl
 ·simp -implicitDefEqProofs [G,u] at g
  refine ⟨_,m,g.symm,aa.trans b,?_⟩
  show V.bool _=V.bool (zbu R t)
  rw [zbu,show yS R.ps.length t.bf.length 0 t.sp=false from T]
  rfl
def rd0:RuD:=⟨0,[],.mk 0 0 0 [] 0 0 [],.mk 0 0 0 [] 0 0 []⟩
def zcH (rs:List RuD) (z:Int):RuD:=rs.getD z.toNat rd0
def lnk:Option (List Int)→List Int→Bool | none,_=>true | some p,w=>decide (p=w)
def stB (rs:List RuD) (p:Option (List Int)) (t:TfD):Bool:=wOk 200 500 t.bf && (wOk 200 500 t.af && (decide (0≤t.rule∧t.rule<rs.length) && (lnk p t.bf && zbu (zcH rs t.rule) t)))
def zaz (rs:List RuD):Option (List Int)→List TfD→Bool
 | _,[]=>true
 | p,t::l=>stB rs p t && zaz rs (some t.af) l
def okT (rs:List RuD) (ts:List TfD):Bool:=decide (rs.length≤100∧ts.length≤100) && (rs.all zca && zaz rs none ts)
def ww (n:Nat):List (List V):=(List.range n).map fun k:Nat=>[iv .i64 (-1),iv .i64 (k:Int)]
def zcS (rs:List RuD):List (List V)→List TfD→List (List V)
 | l,[]=>l
 | l,t::r=>zcS rs (qH l (fun _=>[iv .i64 t.rule,iv .i64 (-1)]) (zcH rs t.rule).ps 0 t.sp) r
def zao (rs:List RuD) (ts:List TfD):List (List V):=match ts with | []=>[] | t::r=>zcS rs (ww t.bf.length) (t::r)
theorem zac {α β:Type} {x:List α} {y:List β} (h:x.length=y.length) (nw:Int→α) (A:Int→β) (ps:List PaD):∀ (l:List (Int × Int × Int)) (a:Nat),(qH x nw ps a l).length=(qH y A ps a l).length
 | [],a=>by simp [qH,h]
 | d::l,a=>by
  have C:∀ a b,(seg x a b).length=(seg y a b).length:=fun a b=>by simp [seg,h]
  rw [qH,qH]
  simp only [kae,kaH,zac h nw A ps l,C]
  congr 2
  congr 1
  split
  ·exact C _ _
  ·rfl
def qo (ts:List TfD) (i:Nat):Option (List Int):=match i with | 0=>none | i+1=>(ts[i]?).map (·.af)
variable {rs:List RuD} {ts:List TfD}
theorem zf3 (h:i<ts.length):zaz rs (qo ts i) (ts.drop i)=(stB rs (qo ts i) ts[i] && zaz rs (qo ts (i+1)) (ts.drop (i+1))):=by
 rw [List.drop_eq_getElem_cons h,zaz]
 congr 2
 simp [qo,kab h]
theorem zxx (h:zaz rs none ts=true):∀ i (hi:i<ts.length),zaz rs (qo ts i) (ts.drop i)=true∧stB rs (qo ts i) ts[i]=true:=by
 have key:∀ i,i≤ts.length→zaz rs (qo ts i) (ts.drop i)=true:=by
  intro i
  induction i with
  | zero=>intro _;simpa [qo] using h
  | succ i X =>
   intro hi
   have:=X (by omega)
   rw [zf3 (by omega),kaf] at this
   exact this.2
 intro i hi
 have:=key i (by omega)
 refine ⟨this,?_⟩
 rw [zf3 hi,kaf] at this
 exact this.1
def zej (s:S) (u:V) (ts:List TfD):Prop:=(Sl s 4 u∧qm u=ts.length∧ts.length≤9223372036854775807)∧∀ i (hi:i<ts.length),StR s (rwC 4 s u i) ts[i]
theorem zej.ext (h:zej s u ts) (e:Ext s U):zej U u ts:=by
 obtain ⟨⟨J,Q⟩,K⟩:=h
 exact ⟨⟨(J.ext e).1,Q⟩,fun i hi=>by rw [zV J e];exact (K i hi).ext e⟩
def psB (r:RuD):Prop:=(∀ p∈r.ps,p.bf.length≤40∧p.af.length≤40)∧r.ps.length≤9223372036854775807
theorem zti (h:zca r=true):psB r:=by
 simp only [zca,kaf,decide_eq_true_eq] at h
 obtain ⟨⟨-,-,I⟩,-,-,J⟩:=h
 refine ⟨fun p Z=>?_,by omega⟩
 have:=kao.1 J p Z
 simp only [zdx,wOk,kaf,decide_eq_true_eq] at this
 exact ⟨this.2.1.1,this.2.2.1.1⟩
def tsB (ts:List TfD):Prop:=ts.length≤300∧∀ t∈ts,t.bf.length≤300∧t.af.length≤300∧t.sp.length≤300
noncomputable def KN5 (h:Nat):Nat→Ct
 | 7=>ctI (X:=V × V × List RuD × List TfD) (fun ⟨v,u,rs,ts⟩ a s=>a=[v,u]∧zbY h s v rs∧yd s∧(∀ r∈rs,RuS r)∧zej s u ts∧tsB ts) (fun ⟨_,_,rs,ts⟩ s v U=>Ext s U∧∃ y,v=.ls 1 [y,iv .i64 (if okT rs ts then 0 else 1)]∧Rw U 2 y (if okT rs ts then zao rs ts else [])∧FxE 55 U y)
 | f=>KN4 h f
structure OtX where
 v:V
 u:V
 rs:List RuD
 ts:List TfD
 lb:Go.Ev.K
 b0:S
 b:S
def OtX.base (h:Nat) (c:OtX):Prop:=(zbY h c.b c.v c.rs∧∀ r∈c.rs,psB r)∧(zej c.b c.u c.ts∧tsB c.ts)∧(Ext c.b0 c.b∧c.b0.nx.toNat≤c.lb.toNat∧Bx c.b c.lb [.nil 1] 1 27)
def OtX.pre (h:Nat) (c:OtX) (tm:T) (s:S):Prop:=c.base h∧Ext c.b s∧(gp 0 tm=c.v∧gp 1 tm=c.u∧gp 4 tm=.ptr c.lb 0 0∧gp 14 tm=c.u∧gp 15 tm=iv .i64 (c.ts.length:Int)∧gp 240 tm=.bad)∧∃ i:Nat,i≤c.ts.length∧gp 16 tm=iv .i64 (i:Int)∧zaz c.rs none c.ts=zaz c.rs (qo c.ts i) (c.ts.drop i)
def OtX.post (c:OtX) (x:Go.Ev.A):Prop:=(∃ N s,x=.ext 0 N s∧Ext c.b s∧(gp 0 N=c.v∧gp 1 N=c.u∧gp 4 N=.ptr c.lb 0 0∧gp 240 N=.bad)∧zaz c.rs none c.ts=true)∨∃ N s,x=.ret N s∧Ext c.b0 s∧(gp 4 N=.ptr c.lb 0 0∧gp 5 N=iv .i64 1∧gp 240 N=.bad)∧Bx s c.lb [.nil 1] 1 27∧zaz c.rs none c.ts=false
theorem zCK {L:Nat→Lt} (hL:L 78=ltI (OtX.pre h) OtX.post):∀ (c:OtX) tm s,c.pre h tm s→c.post (zdJ.run (Rk Tryz.prog (KN5 h) L) tm s):=by
 have hW:=zk (zh (L:=L) (show zo Tryz.prog (KN5 h) 19 from zyx h)) (X:=V × List Int × Int) rfl
 have hQ:=zk (zh (L:=L) (show zo Tryz.prog (KN5 h) 20 from zqC h)) (X:=V × V × List Int × List Int) rfl
 have aH:=zk (zh (L:=L) (show zo Tryz.prog (KN5 h) 21 from zyh h)) (X:=List V × RuD × List V × TfD) rfl
 refine zL (L:=L) zt zu8 hL (fun tm _=>(toI (gp 15 tm)).toNat - (toI (gp 16 tm)).toNat) (fun x a h=>by rcases h with ⟨_,_,rfl,_⟩ | ⟨_,_,rfl,_⟩<;>exact fun h=>h) ?_
 rintro ⟨v,u,rs,ts,lb,b0,b⟩ tm s ⟨z,w,⟨h0,I,K,ae,aa,N⟩,i,hi,ah,E⟩ IH
 show OtX.post _ (zdJ.run _ tm _)
 generalize Rk Tryz.prog _ _=r at IH hW hQ aH ⊢
 obtain ⟨⟨⟨⟨an,ay,aV⟩,aJ⟩,az⟩,⟨⟨⟨aj,aK,aW⟩,aA⟩,aX,aL⟩,aM,aN,aB⟩:=id z
 simp only at an ay aV aJ az aj aK aW aA aX aL aM aN aB w h0 I K ae aa hi E
 by_cases O:i<ts.length
 ·have Y:=(aA i O).ext w
  obtain ⟨aY,bj,aZ⟩:=aL _ (kai O)
  obtain ⟨q,J,ai⟩:=jE (aj.ext w).1 aK O (by rw [zV aj w];exact Y.cells.2)
  rw [zV aj w] at ai
  obtain ⟨s0,s1,bb,E1,-,nr,st⟩:=zbE s (Z:=[iv .i64 0,.nil 1,.nil 1,.nil 1]) (n:=4) (el:=45) Y.cells.1 rfl Y.cells.2
  have T1:=bb.tb (Y.ext E1)
  obtain ⟨bv,f1,ba,-⟩:=T1.f1
  obtain ⟨_,W,T,E2,rfl⟩:=hW (bv,_,500) _ s1 ⟨rfl,ba⟩
  have T2:=(bb.ext E2).tb (Y.ext (E1.trans E2))
  obtain ⟨av,f2,bc⟩:=T2.f2
  obtain ⟨_,s3,D,E3,rfl⟩:=hW (av,_,500) _ W ⟨rfl,bc⟩
  have aC:=E1.trans (E2.trans E3)
  have b3:=bb.ext (E2.trans E3)
  have T3:=b3.tb (Y.ext aC)
  have f0:=T3.f0
  obtain ⟨bd,aD,aO,-⟩:=T3.f1
  have fA:∀ k:V→S→Go.Ev.A,zd true 4 (.ptr s.nx 0 0) s3 k=k (.ls 0 (rwC 4 b u i)) s3:=b3.all
  have ak:∀ c:V→Go.Ev.A,zm v c=c (iv .i64 (rs.length:Int)):=fun c=>by rw [an.len,ay]
  have ad:=w.trans aC
  have store:∀ U,Ext b U→∀ k:V→S→Go.Ev.A,zA 1 (.ptr lb 0 0) (.nil 1) U k=k Go.Ev.undef (yI U lb (.row [.nil 1] 1 27 false 0 0 0)):=fun U e k=>js (aB.ext e).1 0 (.nil 1) (fun _=>rfl) (by omega) k
  have bad:∀ x U,Ext b U→stB rs (qo ts i) ts[i]=false→(∃ F,x=.ret F (yI U lb (.row [.nil 1] 1 27 false 0 0 0))∧gp 4 F=.ptr lb 0 0∧gp 5 F=iv .i64 1∧gp 240 F=.bad)→OtX.post ⟨v,u,rs,ts,lb,b0,b⟩ x:=fun x U e hb ⟨F,M,k⟩=>.inr ⟨F,_,M,ju (aM.trans e) aN,k,⟨by rw [z9,if_pos rfl],rfl,(fun y d=>by rw [kak.1 d];exact fun h=>by cases h),(aB.ext e).2.2.2⟩,by show zaz rs none ts=false;rw [E,zf3 O,hb,Bool.false_and]⟩
  have w3:IntKind.i64.wrap ((i:Int)+1)=((i+1:Nat):Int):=w64
  have next:∀ U,Ext b U→stB rs (qo ts i) ts[i]=true→∀ F,(gp 0 F=v∧gp 1 F=u∧gp 4 F=.ptr lb 0 0∧gp 14 F=u∧gp 15 F=iv .i64 (ts.length:Int)∧gp 240 F=.bad)→gp 16 F=iv .i64 ((i+1:Nat):Int)→OtX.post ⟨v,u,rs,ts,lb,b0,b⟩ (r.code wN zg3 F U):=fun U e hb F k aP =>
   IH ⟨v,u,rs,ts,lb,b0,b⟩ F U (by rw [aP,k.2.2.2.2.1,aa,ah,zp,zp,zp];omega) ⟨z,e,k,i+1,O,aP,by show zaz rs none ts=_;rw [E,zf3 O,hb,Bool.true_and]⟩
  have aE:0<i→∃ p,qo ts i=some p∧∃ q o pv,(∀ k c,ze 4 u (iv k ((i - 1:Nat):Int)) c=c q)∧(∀ c,zb 2 q c=c o)∧(∀ k:V→S→Go.Ev.A,zd false 1 o s3 k=k pv s3)∧Wd s3 pv p:=fun h0=>by
   obtain ⟨j,rfl⟩:∃ j,i=j+1:=⟨i - 1,by omega⟩
   have G:j<ts.length:=by omega
   refine ⟨ts[j].af,by simp [qo,kab G],?_⟩
   obtain ⟨q,R,hP⟩:=(aj.ext ad).1.idx (i:=(j:Int)) (by omega) (by omega)
   obtain ⟨o,C,bg⟩:=hP.field 2 (by omega)
   obtain ⟨bk,aQ,bl,g,-,aR,-⟩:=aA j G
   refine ⟨q,o,aQ,R,C,fun k=>?_,aR.ext ad⟩
   have ao:qg s3 u (j*4+2)=aQ:=by
    rw [(aj.ext ad).2]
    have:=congrArg (fun l:List V=>l.getD 2 .bad) g
    simpa [rwC] using this
   rw [bg.load1 (by omega) (by simp only [Int.toNat_natCast,Nat.add_zero];rw [ao];exact aR.1.ne) k]
   simp only [Int.toNat_natCast,Nat.add_zero];rw [ao]
  generalize hT:ts[i]=t at *
  unfold stB at bad next
  cases c1:wOk 200 500 t.bf with
  | false =>
   rw [c1] at T
   have aF:=store W (w.trans (E1.trans E2))
   refine bad _ W (w.trans (E1.trans E2)) (by rw [c1];rfl) ?_
   simp -implicitDefEqProofs [yQ,qM,ae,aa,ah,O,J,ai,nr,st,f1,T,K,aF,N]
  | true =>
  rw [c1] at T
  cases c2:wOk 200 500 t.af with
  | false =>
   rw [c2] at D
   have aF:=store s3 ad
   refine bad _ s3 ad (by rw [c2,Bool.false_and,Bool.and_false]) ?_
   simp -implicitDefEqProofs [yQ,qM,ae,aa,ah,O,J,ai,nr,st,f1,T,f2,D,K,aF,N]
  | true =>
  rw [c2] at D
  have aG:=store s3 ad
  by_cases m:t.rule<0
  ·refine bad _ s3 ad (by rw [decide_eq_false (fun h=>by omega)];simp) ?_
   simp -implicitDefEqProofs [yQ,qM,ae,aa,ah,O,J,ai,nr,st,f1,T,f2,D,f0,m,K,aG,N]
  by_cases o:(rs.length:Int)≤t.rule
  ·refine bad _ s3 ad (by rw [decide_eq_false (fun h=>by omega)];simp) ?_
   simp -implicitDefEqProofs [yQ,qM,ae,aa,ah,O,J,ai,nr,st,f1,T,f2,D,f0,m,h0,ak,o,K,aG,N]
  obtain ⟨k,Q⟩:∃ k:Nat,t.rule=(k:Int):=⟨t.rule.toNat,by omega⟩
  have aq:k<rs.length:=by omega
  have aS:=(aJ k aq).ext ad
  obtain ⟨rq,aw,ar⟩:=jE (an.ext ad).1 ay aq (by rw [zV an ad];exact aS.cells.2)
  rw [zV an ad] at ar
  have aT:zcH rs t.rule=rs[k]:=by simp [zcH,Q,kab aq]
  obtain ⟨_,s4,e4,E4,rfl⟩:=aH (rwC 16 b v k,rs[k],rwC 4 b u i,t) _ s3 ⟨rfl,aS,Y.ext aC,aY,aZ,(az _ (kai aq)).1,(az _ (kai aq)).2⟩
  have au:=ad.trans E4
  have aU:=store s4 au
  rw [←aT] at e4
  rw [Q] at f0 m o
  have ax:decide (0≤t.rule∧t.rule<(rs.length:Int))=true:=decide_eq_true ⟨by omega,by omega⟩
  by_cases al:0<i
  ·obtain ⟨p,B,qq,bm,pv,R,C,g3,bh⟩:=aE al
   obtain ⟨_,s3,e3,rfl,rfl⟩:=hQ (pv,bd,_,_) _ s3 ⟨rfl,bh,aO⟩
   have w1:IntKind.i64.wrap ((i:Int) - 1)=((i - 1:Nat):Int):=w64
   by_cases c3:p=t.bf
   ·have f:lnk (qo ts i) t.bf=true:=by rw [B];exact decide_eq_true c3
    cases c4:zbu (zcH rs t.rule) t with
    | false =>
     rw [c4] at e4
     refine bad _ s4 au (by rw [c4];simp) ?_
     simp -implicitDefEqProofs [yQ,qM,ae,aa,ah,O,J,ai,nr,st,f1,T,f2,D,f0,m,h0,ak,o,al,w1,I,R,C,g3,aD,e3,c3,aw,ar,fA,e4,K,aU,N]
    | true =>
     rw [c4] at e4
     have next:=next s4 au (by rw [c1,c2,ax,f,c4];rfl)
     simp -implicitDefEqProofs [yQ,qM,ae,aa,ah,O,J,ai,nr,st,f1,T,f2,D,f0,m,h0,ak,o,al,w1,I,R,C,g3,aD,e3,c3,aw,ar,fA,e4,w3]
     apply next<;>simp [h0,I,K,ae,aa,N]
   ·have f:lnk (qo ts i) t.bf=false:=by rw [B];exact decide_eq_false c3
    refine bad _ s3 ad (by rw [f];simp) ?_
    simp -implicitDefEqProofs [yQ,qM,ae,aa,ah,O,J,ai,nr,st,f1,T,f2,D,f0,m,h0,ak,o,al,w1,I,R,C,g3,aD,e3,c3,K,aG,N]
  ·have f:lnk (qo ts i) t.bf=true:=by
    obtain rfl:i=0:=by omega
    rfl
   have q0:((0:Int)<(i:Int))=False:=eq_false (by omega)
   cases c4:zbu (zcH rs t.rule) t with
   | false =>
    rw [c4] at e4
    refine bad _ s4 au (by rw [c4];simp) ?_
    simp -implicitDefEqProofs [yQ,qM,ae,aa,ah,O,J,ai,nr,st,f1,T,f2,D,f0,m,h0,ak,o,al,aw,ar,fA,e4,K,aU,N]
   | true =>
    rw [c4] at e4
    have next:=next s4 au (by rw [c1,c2,ax,f,c4];rfl)
    simp -implicitDefEqProofs [yQ,qM,ae,aa,ah,O,J,ai,nr,st,f1,T,f2,D,f0,m,h0,ak,o,al,aw,ar,fA,e4,w3]
    apply next<;>simp [h0,I,K,ae,aa,N]
 ·obtain rfl:i=ts.length:=by omega
  rw [List.drop_of_length_le (kad _),zaz] at E
  simp -implicitDefEqProofs [yQ,qM,aa,ah]
  exact .inl ⟨_,s,rfl,w,by simp [h0,I,K,N],E⟩
structure I5X where
 q:AcD
 b0:S
 s0:S
 n:Nat
 v:V
 u:V
 tb:Go.Ev.K
 m:Nat
 i:Nat
def I5X.reg (c:I5X) (tm:T):Prop:=gp 0 tm=c.v∧gp 1 tm=c.u∧gp 4 tm=.ptr c.q.a 0 0∧gp 9 tm=.ptr c.tb 0 0∧gp 19 tm=c.u∧gp 20 tm=iv .i64 (c.m:Int)∧gp 21 tm=iv .i64 (c.i:Int)∧gp 240 tm=.bad
def I5X.pre (c:I5X) (tm:T) (s:S):Prop:=(c.q.el=55∧c.q.sz=2∧c.n≤300)∧FrA c.q.a c.s0 s∧c.reg tm∧gp 24 tm=iv .i64 (c.n:Int)∧∃ j:Nat,j≤c.n∧gp 25 tm=iv .i64 (j:Int)∧yu c.q c.b0 s (ww j)
def I5X.post (c:I5X) (x:Go.Ev.A):Prop:=∃ N s,x=.ext 4 N s∧FrA c.q.a c.s0 s∧c.reg N∧yu c.q c.b0 s (ww c.n)
theorem zCc {L:Nat→Lt} (e:L 24=ltI I5X.pre I5X.post):∀ (c:I5X) tm s,c.pre tm s→c.post (zdL.run (Rk Tryz.prog (KN5 h) L) tm s):=by
 refine zL (L:=L) zt zvj e (fun tm _=>(toI (gp 24 tm)).toNat - (toI (gp 25 tm)).toNat) (fun x a ⟨_,_,h,_⟩=>by rw [h];exact fun h=>h) ?_
 rintro c tm s ⟨⟨b,hsz,o⟩,g,N,p,j,G,aa,w,f⟩ J
 show I5X.post _ (zdL.run _ tm _)
 generalize Rk Tryz.prog _ _=r at J ⊢
 obtain ⟨v,R,E,q,Q,U,ad,C⟩:=id N
 have ah:(ww j).length=j:=by simp [ww]
 by_cases O:j<c.n
 ·obtain ⟨Z,W,m,T,D,l,i,z⟩:=f.step (x:=[iv .i64 (-1),iv .i64 (j:Int)]) (by omega) (by rw [hsz];rfl) (fun y Y=>by
   simp only [kaj,List.not_mem_nil,or_false] at Y
   rcases Y with rfl | rfl<;>exact qG _ _) (by omega)
  rw [b,hsz] at D
  have t:∀ (k:Go.Ev.K→Nat→S→Go.Ev.A),Go.Ev.newRow s 55 [iv .i64 (-1),iv .i64 (j:Int)] false k=k s.nx 2 (zY s (.row [iv .i64 (-1),iv .i64 (j:Int)] 2 55 false 0 0 0)):=fun k=>zU s 55 _ false k
  have d:∀ x:V,upd [x] 0 [iv .i64 0,iv .i64 0]=[x,iv .i64 0]:=fun _=>rfl
  have up1:∀ x y:V,upd [y] 1 [x,iv .i64 0]=[x,y]:=fun _ _=>rfl
  have up:∀ B u:V,upd [B,u] 0 (Go.Ev.rep [iv .i64 0,iv .i64 0] 1)=[B,u]:=fun _ _=>rfl
  have I:∀ (B u:V) (c:List V→Go.Ev.A),zg 2 (.ls 0 [B,u]) c=c [B,u]:=fun B u c=>yg 2 _ rfl c
  have ng:∀ c:List V→Go.Ev.A,zg 1 (.neg .i64 0) c=c [iv .i64 (-1)]:=fun _=>rfl
  have M:IntKind.i64.wrap ((j:Int)+1)=((j+1:Nat):Int):=w64
  have next:∀ F,c.reg F→gp 24 F=iv .i64 (c.n:Int)→gp 25 F=iv .i64 ((j+1:Nat):Int)→I5X.post c (r.code wN zgA F m):=fun F k X ae =>
   J c F m (by rw [X,ae,p,aa,zp,zp,zp];omega) ⟨⟨b,hsz,o⟩,g.trans z,k,X,j+1,O,ae,i.cast (by simp [ww,List.range_succ])⟩
  simp -implicitDefEqProofs [zlZ,p,aa,O,E,T,ng,d,up1,up,I,t,D,l,M]
  apply next
  ·exact ⟨by simp [v],by simp [R],by simp [E],by simp [q],by simp [Q],by simp [U],by simp [ad],by simp [C]⟩
  ·simp [p]
  ·simp
 ·obtain rfl:j=c.n:=by omega
  simp -implicitDefEqProofs [zlZ,p,aa]
  exact ⟨_,s,rfl,g,⟨by simp [v],by simp [R],by simp [E],by simp [q],by simp [Q],by simp [U],by simp [ad],by simp [C]⟩,w,f⟩
theorem zpm {r:R} (i:∀ (c:VsX) (a:List V) (s:S),(a=[.ls 0 [c.q.f1,c.q.f2],.ls 0 c.C,iv .i64 (c.q.x.length:Int),c.v]∧(yu c.q c.b s []∧AcC c.q c.b s)∧RuR h c.b c.C c.r∧Rw c.b 3 c.v (yw c.sp)∧yS c.r.ps.length c.q.x.length 0 c.sp=true∧c.lim)→∃ v U,r.call 24 a s=.ret v U∧FrA c.q.a s U∧yu c.q c.b U c.out)
  {b0 W:S} {lb tb:Go.Ev.K} {lv:V} {Lo:List (List V)} {bv av sv:V} {k:Nat} (w:Ext b0 W) (aE:b0.nx.toNat≤lb.toNat) (ai:Bx W lb [lv] 1 27) (aF:Rw W 2 lv Lo)
  (o:Bx W tb [iv .i64 t.rule,bv,av,sv] 4 45) (T:Wd W bv t.bf) (aG:Rw W 3 sv (yw t.sp)) (J:zbY h W v rs) (ae:t.rule=(k:Int)) (F:k<rs.length) (I:∀ r∈rs,psB r) (O:Lo.length=t.bf.length) (D:zbu (zcH rs t.rule) t=true) (hsz:t.bf.length≤300∧t.sp.length≤300) :
  ∃ (f1 f2:V) (m aj l:S) (d:V) (C:List V) (u5:V) (N:S) (w':V) (s6:S),
   (f1=V.fn (.func 22) [] [.ptr W.nx 0 0,.ptr lb 0 0]∧f2=V.fn (.func 23) [] [.ptr W.nx 0 0,.ptr tb 0 0]) ∧
   (∀ k:Go.Ev.K→Nat→S→Go.Ev.A,Go.Ev.newRow W 27 [.nil 1] false k=k W.nx 1 m)∧(∀ k:Go.Ev.K→Nat→S→Go.Ev.A,Go.Ev.newRow m 63 [.nil 3,.nil 3] false k=k m.nx 2 aj)∧(∀ k:V→S→Go.Ev.A,zA 2 (.ptr m.nx 0 0) (.ls 0 [f1,f2]) aj k=k Go.Ev.undef l) ∧
   (∀ k:V→S→Go.Ev.A,zd true 2 (.ptr m.nx 0 0) l k=k (.ls 0 [f1,f2]) l)∧(∀ f:V→S→Go.Ev.A,zd false 1 (.ptr tb 0 0) l f=f (iv .i64 (k:Int)) l) ∧
   (∀ (j:IntKind) (c:V→Go.Ev.A),ze 16 v (iv j (k:Int)) c=c d)∧(∀ f:V→S→Go.Ev.A,zd true 16 d l f=f (.ls 0 C) l)∧(∀ f:V→S→Go.Ev.A,zd false 1 (.ptr tb 0 1) l f=f bv l)∧(∀ f:V→S→Go.Ev.A,zd false 1 (.ptr tb 0 3) l f=f sv l) ∧
   r.call 24 [.ls 0 [f1,f2],.ls 0 C,iv .i64 (t.bf.length:Int),sv] l=.ret u5 N∧(∀ f:V→S→Go.Ev.A,zd false 1 (.ptr W.nx 0 0) N f=f w' N)∧(∀ f:V→S→Go.Ev.A,zA 1 (.ptr lb 0 0) w' N f=f Go.Ev.undef s6) ∧
   Ext b0 s6∧Bx s6 lb [w'] 1 27∧Rw s6 2 w' (qH Lo (fun _=>[iv .i64 t.rule,iv .i64 (-1)]) (zcH rs t.rule).ps 0 t.sp)∧FxE 55 s6 w':=by
 obtain ⟨⟨an,aH,aR⟩,aJ⟩:=J
 have au:zcH rs t.rule=rs[k]:=by simp [zcH,ae,kab F]
 rw [au] at D ⊢
 have aw:=aJ k F
 obtain ⟨ax,aK⟩:=I _ (kai F)
 generalize rs[k]=R at *
 simp only [zbu,kaf] at D
 obtain ⟨b3,u,aL⟩:=qT W (el:=27) (c:=[.nil 1]) (n:=1) rfl (fun y Y=>by rw [kak.1 Y];exact fun h=>by cases h)
 generalize zY W (.row [.nil 1] 1 27 false 0 0 0)=m at *
 obtain ⟨f1,ao⟩:∃ f1,f1=V.fn (.func 22) [] [.ptr W.nx 0 0,.ptr lb 0 0]:=⟨_,rfl⟩
 obtain ⟨f2,aq⟩:∃ f2,f2=V.fn (.func 23) [] [.ptr W.nx 0 0,.ptr tb 0 0]:=⟨_,rfl⟩
 have ay:∀ x∈[f1,f2],x≠V.bad:=fun x M=>by
  simp only [kaj,List.not_mem_nil,or_false] at M
  rcases M with rfl | rfl
  ·rw [ao];exact fun h=>by cases h
  ·rw [aq];exact fun h=>by cases h
 obtain ⟨aj,l,b4,G,-,aM,aN⟩:=zbE m (C:=[f1,f2]) (Z:=[.nil 3,.nil 3]) (n:=2) (el:=63) rfl rfl ay
 have ad:=u.trans G
 obtain ⟨q,E⟩:∃ q:AcD,q=⟨f1,f2,W.nx,27,55,2,Lo,fun _=>[iv .i64 t.rule,iv .i64 (-1)]⟩:=⟨_,rfl⟩
 have p:yu q W l []:=by
  subst E
  exact ⟨.nil 1,ad,b3.ext G,kad _,.inl ⟨rfl,rfl⟩,(fun x M=>by cases M),fun x M=>by cases M⟩
 have g:∀ c:Go.Ev.K,c.toNat<W.nx.toNat→¬own q.a l c:=fun c X B=>by have:=(p.own_ B).1;omega
 have az:=ai.ext ad
 have aa:=o.ext ad
 have Q:AcC q W l:=by
  refine .inr ⟨lb,lv,27,tb,_,4,45,t.rule,?_,?_,?_,⟨az,g _ ai.2.2.2⟩,?_,⟨aa,g _ o.2.2.2⟩,⟨rfl,by omega⟩,?_⟩
  ·rw [E];exact ao
  ·rw [E];exact aq
  ·rw [E];exact ⟨rfl,rfl⟩
  ·rw [E];exact aF
  ·rw [E]
 have M:q.x=Lo:=by rw [E]
 have aO:=zdE Lo q.nw ax t.sp 0
 have hbound:(qH Lo q.nw R.ps 0 t.sp).length≤1000000:=by
  have:t.sp.length*(2*Lo.length+80)≤300*(2*300+80):=Nat.mul_le_mul hsz.2 (by omega)
  omega
 obtain ⟨u5,N,z,F5,w',Y⟩:=i ⟨q,W,rwC 16 W v k,R,sv,t.sp⟩ _ l ⟨rfl,⟨p,Q⟩,aw,aG,by simp only;rw [M,O];exact D.1,by show (qH q.x q.nw R.ps 0 t.sp).length≤_;rw [M];exact hbound,by simp only;rw [M];omega,by simp only;omega,ax,aK⟩
 simp only at z F5
 rw [show q.f1=f1 by rw [E],show q.f2=f2 by rw [E],M,O] at z
 have aS:q.a=W.nx:=by rw [E]
 have L:VsX.out ⟨q,W,rwC 16 W v k,R,sv,t.sp⟩=qH Lo (fun _=>[iv .i64 t.rule,iv .i64 (-1)]) R.ps 0 t.sp:=by rw [VsX.out,E]
 rw [L] at Y
 obtain ⟨d,aP,aA⟩:=jE (an.ext ad).1 aH F (by rw [zV an ad];exact aw.cells.2)
 rw [zV an ad] at aA
 have aB:=Y.bx
 have ah:=Y.gz
 have aC:=Y.sz_
 have aQ:=Y.nb
 have ar:=Y.ext
 simp only [E] at aB ah aC ar
 have ak:Bx N lb [lv] 1 27:=ai.ext ar
 have aD:∀ c,qi w'=some c→c≠lb:=fun c X e=>by
  have:=(ah.blk X).1
  have:=ai.2.2.2
  rw [e] at *
  omega
 have al:Gz 55 2 W (yI N lb (.row [w'] 1 27 false 0 0 0)) w' (qH Lo (fun _=>[iv .i64 t.rule,iv .i64 (-1)]) R.ps 0 t.sp):=ah.keep (kad _) fun c X=>by rw [z9,if_neg (aD c X)]
 refine ⟨f1,f2,m,aj,l,d,_,u5,N,w',yI N lb (.row [w'] 1 27 false 0 0 0),⟨ao,aq⟩,aL,aM,aN,b4.all,fun f=>?_,aP,aA,aa.fld 1 (by omega),aa.fld 3 (by omega),z,aB.fld 0 (by omega),fun f=>js ak.1 0 w' (Gz.cell1 ah) (by omega) f,ju (w.trans ar) aE,⟨by rw [z9,if_pos rfl],rfl,fun y Y=>by rw [kak.1 Y];exact Gz.nbad ah,ak.2.2.2⟩,Gz.rw al aC aQ,Gz.fxE al⟩
 rw [aa.fld 0 (by omega),←ae];rfl
structure O2X where
 v:V
 u:V
 rs:List RuD
 ts:List TfD
 lb:Go.Ev.K
 b0:S
def O2X.base (h:Nat) (c:O2X):Prop:=(zbY h c.b0 c.v c.rs∧∀ r∈c.rs,psB r)∧(zej c.b0 c.u c.ts∧tsB c.ts)∧c.b0.nx.toNat≤c.lb.toNat∧zaz c.rs none c.ts=true
def O2X.pre (h:Nat) (c:O2X) (tm:T) (s:S):Prop:=c.base h∧Ext c.b0 s∧(gp 0 tm=c.v∧gp 1 tm=c.u∧gp 4 tm=.ptr c.lb 0 0∧gp 19 tm=c.u∧gp 20 tm=iv .i64 (c.ts.length:Int)∧gp 240 tm=.bad)∧∃ (i:Nat) (lv:V) (Lo:List (List V)),i≤c.ts.length∧gp 21 tm=iv .i64 (i:Int)∧Bx s c.lb [lv] 1 27∧Rw s 2 lv Lo∧FxE 55 s lv∧((i=0∧Lo=[]∧lv=.nil 1)∨(0<i∧(∀ p,qo c.ts i=some p→Lo.length=p.length)∧zcS c.rs Lo (c.ts.drop i)=zao c.rs c.ts))
def O2X.post (c:O2X) (x:Go.Ev.A):Prop:=∃ N s lv,x=.ext 2 N s∧Ext c.b0 s∧(gp 4 N=.ptr c.lb 0 0∧gp 240 N=.bad)∧Bx s c.lb [lv] 1 27∧Rw s 2 lv (zao c.rs c.ts)∧FxE 55 s lv
theorem ze1 {p:Option (List Int)} (h:stB rs p t=true):(0≤t.rule∧t.rule<rs.length)∧lnk p t.bf=true∧zbu (zcH rs t.rule) t=true:=by
 simp only [stB,kaf,decide_eq_true_eq] at h
 exact ⟨h.2.2.1,h.2.2.2.1,h.2.2.2.2⟩
theorem zjW (h:zbu r t=true):qH t.bf id r.ps 0 t.sp=t.af:=by
 simp only [zbu,kaf,decide_eq_true_eq] at h
 exact h.2
noncomputable def zsz (h:Nat):Nat→Lt
 | 78=>ltI (OtX.pre h) OtX.post
 | 24=>ltI I5X.pre I5X.post
 | _=>ltI (O2X.pre h) O2X.post
theorem zCF:∀ (c:O2X) tm s,c.pre h tm s→c.post (zbm.run (Rk Tryz.prog (KN5 h) (zsz h)) tm s):=by
 have bn:=zCc (h:=h) (L:=zsz h) rfl
 have aO:=zk (zh (L:=zsz h) (show zo Tryz.prog (KN5 h) 24 from zo0 h)) (X:=VsX) rfl
 refine zL (L:=zsz h) zt zuX rfl (fun tm _=>(toI (gp 20 tm)).toNat - (toI (gp 21 tm)).toNat) (fun x a ⟨_,_,_,h,_⟩=>by rw [h];exact fun h=>h) ?_
 rintro ⟨v,u,rs,ts,lb,b0⟩ tm s ⟨o,w,⟨h0,I,K,ak,ad,N⟩,i,lv,Lo,hi,aj,aD,aP,bB,aE⟩ T
 show O2X.post _ (zbm.run _ tm _)
 generalize Rk Tryz.prog _ _=r at T bn aO ⊢
 obtain ⟨⟨al,aQ⟩,⟨⟨⟨aF,bo,bC⟩,bp⟩,bD,br⟩,aG,aL⟩:=id o
 simp only at al aQ aF bo bC bp bD br aG aL w h0 I K ak ad hi aD aE
 by_cases O:i<ts.length
 ·obtain ⟨-,bt⟩:=zxx aL i O
  obtain ⟨⟨bJ,bK⟩,aM,an⟩:=ze1 bt
  have ao:=zjW an
  obtain ⟨aq,bI,aN⟩:=br _ (kai O)
  obtain ⟨k,Q⟩:∃ k:Nat,ts[i].rule=(k:Int):=⟨ts[i].rule.toNat,by omega⟩
  have bu:k<rs.length:=by omega
  have Y:=bp i O
  have aR:=Y.cells
  obtain ⟨q,E,aH⟩:=jE (aF.ext w).1 bo O (by rw [zV aF w];exact aR.2)
  rw [zV aF w] at aH
  obtain ⟨bv,av,sv,hD,⟨aJ,-⟩,-,bw⟩:=Y
  rw [hD] at aH aR
  obtain ⟨s0,s1,bb,z,-,J,st⟩:=zbE s (C:=[iv .i64 ts[i].rule,bv,av,sv]) (Z:=[iv .i64 0,.nil 1,.nil 1,.nil 1]) (n:=4) (el:=45) rfl rfl aR.2
  have aS:=w.trans z
  have ah:=aD.ext z
  have w3:IntKind.i64.wrap ((i:Int)+1)=((i+1:Nat):Int):=w64
  have bz:∀ x:V,upd [x] 0 [.nil 3,.nil 3]=[x,.nil 3]:=fun _=>rfl
  have up1:∀ x y:V,upd [y] 1 [x,.nil 3]=[x,y]:=fun _ _=>rfl
  have ar:∀ L2,zcS rs L2 (ts.drop i)=zao rs ts→zcS rs (qH L2 (fun _=>[iv .i64 ts[i].rule,iv .i64 (-1)]) (zcH rs ts[i].rule).ps 0 ts[i].sp) (ts.drop (i+1))=zao rs ts:=fun L2 hg=>by
   rw [List.drop_eq_getElem_cons O,zcS] at hg
   exact hg
  by_cases aK:i=0
  ·have aT:((i:Int)=0)=True:=eq_true (by omega)
   have bE:(i=0)=True:=eq_true aK
   have ae:zcS rs (ww ts[i].bf.length) (ts.drop i)=zao rs ts:=by
    subst aK
    cases ts with
    | nil=>cases O
    | cons t l=>rfl
   obtain ⟨rfl,rfl⟩:Lo=[]∧lv=.nil 1:=by
    rcases aE with ⟨-,h⟩ | ⟨h,-⟩
    ·exact h
    ·omega
   have fb:∀ k:V→S→Go.Ev.A,zd false 1 (.ptr s.nx 0 1) s1 k=k bv s1:=bb.fld 1 (by omega)
   have ai:=aJ.lenS
   generalize g:zbm.run r tm s=F0
   simp -implicitDefEqProofs [zhF,ak,ad,aj,O,E,aH,J,st,bE,fb,ai] at g
   generalize D:zdL.run r _ s1=A1 at g
   obtain ⟨bL,W,rfl,F2,⟨g0,R,b,g9,aU,aV,bA,au⟩,w2,aw⟩:=D▸bn ⟨⟨.bad,.bad,lb,27,55,2,[],fun _=>[]⟩,b0,s1,ts[i].bf.length,v,u,s.nx,ts.length,i⟩ _ s1 ⟨⟨rfl,rfl,aq⟩,FrA.refl _ _,⟨by simp [h0],by simp [I],by simp [K],by simp,by simp [ak],by simp [ad],by simp [aj],by simp [N]⟩,by simp,0,Nat.zero_le _,by simp,.nil 1,aS,ah,aG,.inl ⟨rfl,rfl⟩,(fun x M=>by cases M),fun x M=>by cases M⟩
   simp only at g0 R b g9 aU aV bA au F2
   have f:Ext b0 W:=aw.ext
   have ax:Bx W lb [w2] 1 27:=aw.bx
   have ay:Rw W 2 w2 (ww ts[i].bf.length):=Gz.rw aw.gz aw.sz_ aw.nb
   have az:Bx W s.nx [iv .i64 ts[i].rule,bv,av,sv] 4 45:=by
    refine (NB.fr (a:=lb) ⟨bb,fun U=>?_⟩ F2).1
    rcases zhN ah.1 U with e | e
    ·have:=aD.2.2.2;rw [←e] at this;omega
    ·cases e
   have aa:(ww ts[i].bf.length).length=ts[i].bf.length:=by simp [ww]
   have aW:=al
   obtain ⟨f1,f2,m,bF,s4,d,C,u5,s5,w',s6,⟨aX,aY⟩,aZ,ba,bc,bd,fr0,bg,bh,aA,aB,e5,fw,bj,E6,bk,bl,bm⟩:=zpm (h:=h) (r:=r) aO f aG ax ay az (aJ.ext f) (bw.ext f) (aW.ext f) Q bu aQ aa an ⟨aq,aN⟩
   have c1:∀ c:List V→Go.Ev.A,zg 1 (V.fn (.func 22) [] [.ptr W.nx 0 0,.ptr lb 0 0]) c=c [f1]:=fun c=>by rw [aX];rfl
   have c2:∀ c:List V→Go.Ev.A,zg 1 (V.fn (.func 23) [] [.ptr W.nx 0 0,.ptr s.nx 0 0]) c=c [f2]:=fun c=>by rw [aY];rfl
   have fin:∀ F,(gp 0 F=v∧gp 1 F=u∧gp 4 F=.ptr lb 0 0∧gp 19 F=u∧gp 20 F=iv .i64 (ts.length:Int)∧gp 240 F=.bad)→gp 21 F=iv .i64 ((i+1:Nat):Int)→O2X.post ⟨v,u,rs,ts,lb,b0⟩ (r.code wN zex F s6):=fun F k aC =>
    T ⟨v,u,rs,ts,lb,b0⟩ F s6 (by rw [aC,k.2.2.2.2.1,ad,aj,zp,zp,zp];omega) ⟨o,E6,k,i+1,w',_,O,aC,bk,bl,bm,.inr ⟨Nat.succ_pos _,fun p B=>by
     have:p=ts[i].af:=by simpa [qo,kab O] using B.symm
     rw [this,←ao,zac aa _ id],ar _ ae⟩⟩
   simp -implicitDefEqProofs [g0,b,g9,bA,aZ,ba,c1,c2,bz,up1,bc,bd,fr0,bg,bh,aA,ai,aB,e5,fw,bj,w3] at g
   rw [←g]
   apply fin<;>simp [g0,R,b,aU,aV,au]
  ·have aT:((i:Int)=0)=False:=eq_false (by omega)
   obtain ⟨-,bG,ae⟩:0<i∧(∀ p,qo ts i=some p→Lo.length=p.length)∧zcS rs Lo (ts.drop i)=zao rs ts:=by
    rcases aE with ⟨h,-⟩ | h
    ·exact absurd h aK
    ·exact h
   have aa:Lo.length=ts[i].bf.length:=by
    obtain ⟨j,rfl⟩:∃ j,i=j+1:=⟨i - 1,by omega⟩
    have G:j<ts.length:=by omega
    have B:qo ts (j+1)=some ts[j].af:=by simp [qo,kab G]
    rw [B] at aM
    rw [bG _ B,of_decide_eq_true aM]
   have ai:=aJ.lenS
   obtain ⟨W,bH⟩:∃ W,W=s1:=⟨_,rfl⟩
   rw [←bH] at bb z aS ah st
   have f:=aS
   have ax:=ah
   have ay:=aP.ext z
   have az:=bb
   have aW:=al
   obtain ⟨f1,f2,m,bF,s4,d,C,u5,s5,w',s6,⟨aX,aY⟩,aZ,ba,bc,bd,fr0,bg,bh,aA,aB,e5,fw,bj,E6,bk,bl,bm⟩:=zpm (h:=h) (r:=r) aO f aG ax ay az (aJ.ext f) (bw.ext f) (aW.ext f) Q bu aQ aa an ⟨aq,aN⟩
   have c1:∀ c:List V→Go.Ev.A,zg 1 (V.fn (.func 22) [] [.ptr W.nx 0 0,.ptr lb 0 0]) c=c [f1]:=fun c=>by rw [aX];rfl
   have c2:∀ c:List V→Go.Ev.A,zg 1 (V.fn (.func 23) [] [.ptr W.nx 0 0,.ptr s.nx 0 0]) c=c [f2]:=fun c=>by rw [aY];rfl
   have fin:∀ F,(gp 0 F=v∧gp 1 F=u∧gp 4 F=.ptr lb 0 0∧gp 19 F=u∧gp 20 F=iv .i64 (ts.length:Int)∧gp 240 F=.bad)→gp 21 F=iv .i64 ((i+1:Nat):Int)→O2X.post ⟨v,u,rs,ts,lb,b0⟩ (r.code wN zex F s6):=fun F k aC =>
    T ⟨v,u,rs,ts,lb,b0⟩ F s6 (by rw [aC,k.2.2.2.2.1,ad,aj,zp,zp,zp];omega) ⟨o,E6,k,i+1,w',_,O,aC,bk,bl,bm,.inr ⟨Nat.succ_pos _,fun p B=>by
     have:p=ts[i].af:=by simpa [qo,kab O] using B.symm
     rw [this,←ao,zac aa _ id],ar _ ae⟩⟩
   generalize g:zbm.run r tm s=F0
   simp -implicitDefEqProofs [zhF,h0,K,ak,ad,aj,O,E,aH,J,st,aK,aZ,ba,c1,c2,bz,up1,bc,bd,fr0,bg,bh,aA,ai,aB,e5,fw,bj,w3] at g
   rw [←g]
   apply fin<;>simp [h0,I,K,ak,ad,N]
 ·obtain rfl:i=ts.length:=by omega
  simp -implicitDefEqProofs [zhF,ad,aj]
  refine ⟨_,s,lv,rfl,w,by simp [K,N],aD,?_,bB⟩
  show Rw s 2 lv (zao rs ts)
  rcases aE with ⟨h,rfl,-⟩ | ⟨-,-,h⟩
  ·obtain rfl:ts=[]:=kap.1 h
   exact aP
  ·rw [←h,List.drop_of_length_le (kad _),zcS];exact aP
theorem zzX (h:Nat):zo Tryz.prog (KN5 h) 7:=by
 have aw:=zCK (h:=h) (L:=zsz h) rfl
 have ax:=zCF (h:=h)
 have ay:=zk (zh (L:=zsz h) (show zo Tryz.prog (KN5 h) 16 from zoP h)) (X:=V × List RuD) rfl
 refine zr (L:=zsz h) zt (K:=KN5 h) (X:=V × V × List RuD × List TfD) rfl ?_
 rintro ⟨v,u,rs,ts⟩ a s ⟨rfl,ai,Z,aE,an,az⟩
 generalize Rk Tryz.prog _ _=r at aw ax ay ⊢
 show ∃ (F:V) (U:S),_∧Ext s U∧∃ y,F=V.ls 1 [y,iv .i64 (if okT rs ts then 0 else 1)]∧Rw U 2 y (if okT rs ts then zao rs ts else [])∧FxE 55 U y
 obtain ⟨b,w,R⟩:=qT s (el:=27) (c:=[.nil 1]) (n:=1) rfl (fun y Y=>by rw [kak.1 Y];exact fun h=>by cases h)
 generalize zY s (.row [.nil 1] 1 27 false 0 0 0)=s1 at *
 have ad:∀ c:V→Go.Ev.A,zm v c=c (iv .i64 (rs.length:Int)):=fun c=>by rw [ai.1.1.len,ai.1.2.1]
 have ae:∀ c:V→Go.Ev.A,zm u c=c (iv .i64 (ts.length:Int)):=fun c=>by rw [an.1.1.len,an.1.2.1]
 have store:∀ U,Ext s1 U→∀ k:V→S→Go.Ev.A,zA 1 (.ptr s.nx 0 0) (.nil 1) U k=k Go.Ev.undef (yI U s.nx (.row [.nil 1] 1 27 false 0 0 0)):=fun U e k=>js (b.ext e).1 0 (.nil 1) (fun _=>rfl) (by omega) k
 have ar:∀ U (k:V→S→Go.Ev.A),zd false 1 (.ptr s.nx 0 0) (yI U s.nx (.row [.nil 1] 1 27 false 0 0 0)) k=k (.nil 1) (yI U s.nx (.row [.nil 1] 1 27 false 0 0 0)):=fun U k=>jy (l:=[.nil 1]) (n:=1) (el:=27) (by rw [z9,if_pos rfl]) 0 rfl (by omega) (fun h=>by cases h) k
 have aa:∀ U,Rw U 2 (.nil 1) []:=fun U=>⟨.inl (.inl rfl),rfl,(fun x M=>by cases M),(fun x M=>by cases M),fun i j hi=>by cases hi⟩
 have bad:∀ F U,okT rs ts=false→(fnC zf 7).run r [v,u] s=.ret F U→Ext s U→F=.ls 1 [.nil 1,iv .i64 1]→∃ (F:V) (U:S),(fnC zf 7).run r [v,u] s=.ret F U∧Ext s U∧∃ y,F=V.ls 1 [y,iv .i64 (if okT rs ts then 0 else 1)]∧Rw U 2 y (if okT rs ts then zao rs ts else [])∧FxE 55 U y:=fun F U C Q e E=>⟨F,U,Q,e,.nil 1,by rw [E,C];rfl,by rw [C];exact aa U,.inl trivial⟩
 have aA:=store s1 (Ext.refl _)
 by_cases m:100<rs.length
 ·refine bad _ (yI s1 s.nx (.row [.nil 1] 1 27 false 0 0 0)) (by rw [okT,decide_eq_false (fun h=>by omega)];rfl) ?_ (ju w (kad _)) rfl
  have ah:(100<(rs.length:Int))=True:=eq_true (by omega)
  simp -implicitDefEqProofs [qM,R,ad,ah,aA,ar]
 by_cases d:100<ts.length
 ·refine bad _ (yI s1 s.nx (.row [.nil 1] 1 27 false 0 0 0)) (by rw [okT,decide_eq_false (fun h=>by omega)];rfl) ?_ (ju w (kad _)) rfl
  have ah:(100<(rs.length:Int))=False:=eq_false (by omega)
  have ao:(100<(ts.length:Int))=True:=eq_true (by omega)
  simp -implicitDefEqProofs [qM,R,ad,ah,ae,ao,aA,ar]
 have ah:(100<(rs.length:Int))=False:=eq_false (by omega)
 have ao:(100<(ts.length:Int))=False:=eq_false (by omega)
 obtain ⟨_,W,D,q,rfl⟩:=ay (v,rs) _ s1 ⟨rfl,ai.ext w,Z.ext w,aE⟩
 have aj:=w.trans q
 have aB:decide (rs.length≤100∧ts.length≤100)=true:=decide_eq_true ⟨by omega,by omega⟩
 have o:rs.all zca=!(rs.any fun r=>!zca r):=by simp [List.all_eq_not_any_not]
 cases g:rs.any fun r=>!zca r with
 | true =>
  rw [g] at D
  have aF:=store W q
  refine bad _ (yI W s.nx (.row [.nil 1] 1 27 false 0 0 0)) (by rw [okT,o,g];simp) ?_ (ju aj (kad _)) rfl
  simp -implicitDefEqProofs [qM,R,ad,ah,ae,ao,D,aF,ar]
 | false =>
  rw [g] at D
  have ak:rs.all zca=true:=by rw [o,g];rfl
  have aC:∀ r∈rs,psB r:=fun r Q=>zti (kao.1 ak r Q)
  generalize t:(fnC zf 7).run r _ _=F0
  simp -implicitDefEqProofs [qM,R,ad,ah,ae,ao,D] at t
  generalize f:zdJ.run r _ W=A1 at t
  rcases f▸aw ⟨v,u,rs,ts,s.nx,s,W⟩ _ W ⟨⟨⟨ai.ext aj,aC⟩,⟨an.ext aj,az⟩,aj,kad _,b.ext q⟩,Ext.refl W,⟨by simp,by simp,by simp,by simp,by simp,by simp⟩,0,Nat.zero_le _,by simp,rfl⟩ with ⟨N,I,rfl,J,⟨k0,z,p,G⟩,T⟩ | ⟨N,I,rfl,J,⟨p,k5,G⟩,aD,T⟩
  ·simp only at k0 z p T J
   have aG:=aj.trans J
   simp -implicitDefEqProofs [z,ae] at t
   generalize f:zbm.run r _ I=A1 at t
   obtain ⟨N,O,lv,rfl,E4,⟨p,G⟩,al,au,aH⟩:=f▸ax ⟨v,u,rs,ts,s.nx,s⟩ _ I ⟨⟨⟨ai,aC⟩,⟨an,az⟩,kad _,T⟩,aG,⟨by simp [k0],by simp [z],by simp [p],by simp,by simp,by simp [G]⟩,0,.nil 1,[],Nat.zero_le _,by simp,b.ext (q.trans J),aa _,.inl trivial,.inl ⟨rfl,rfl,rfl⟩⟩
   simp only at p al au E4
   have aJ:∀ k:V→S→Go.Ev.A,zd false 1 (.ptr s.nx 0 0) O k=k lv O:=al.fld 0 (by omega)
   have cc:∀ c:List V→Go.Ev.A,zg 1 lv c=c [lv]:=fun c=>by
    rcases au.sl with (rfl | ⟨_,rfl⟩) | ⟨_,_,_,_,⟨_,rfl,_⟩ | ⟨_,rfl⟩,_⟩<;>rfl
   have aK:∀ k:V→S→Go.Ev.A,zA 1 (.ptr s.nx 0 0) lv O k=k Go.Ev.undef (yI O s.nx (.row [lv] 1 27 false 0 0 0)):=fun k=>js al.1 0 lv cc (by omega) k
   have av:∀ c,Tr.get B.none c (yI O s.nx (.row [lv] 1 27 false 0 0 0)).h=Tr.get B.none c O.h:=fun c=>by
    rw [z9]
    by_cases e:c=s.nx
    ·rw [if_pos e,e];exact al.1.symm
    ·rw [if_neg e]
   have E5:Ext O (yI O s.nx (.row [lv] 1 27 false 0 0 0)):=⟨kad _,fun c _=>av c⟩
   have aL:∀ k:V→S→Go.Ev.A,zd false 1 (.ptr s.nx 0 0) (yI O s.nx (.row [lv] 1 27 false 0 0 0)) k=k lv (yI O s.nx (.row [lv] 1 27 false 0 0 0)):=(al.ext E5).fld 0 (by omega)
   have aq:okT rs ts=true:=by rw [okT,aB,ak,T];rfl
   simp -implicitDefEqProofs [p,G,aJ,aK,aL] at t
   exact ⟨_,_,t.symm,E4.trans E5,lv,by rw [aq];rfl,by rw [aq];exact au.ext E5,aH.ext E5⟩
  ·simp only at p aD T J
   have aM:∀ k:V→S→Go.Ev.A,zd false 1 (.ptr s.nx 0 0) I k=k (.nil 1) I:=aD.fld 0 (by omega)
   simp -implicitDefEqProofs [p,k5,G,aM] at t
   have C:okT rs ts=false:=by rw [okT,T];simp
   exact ⟨_,I,t.symm,J,.nil 1,by rw [C];rfl,by rw [C];exact aa I,.inl trivial⟩
theorem Rw.fld (h:Rw s sz v L) (hi:i<L.length):∃ q,(∀ k c,ze sz v (iv k (i:Int)) c=c q)∧(∀ k:V→S→Go.Ev.A,zd true sz q s k=k (.ls 0 L[i]) s)∧∀ j,j<sz→∃ p,(∀ c,zb j q c=c p)∧∀ k:V→S→Go.Ev.A,zd false 1 p s k=k (L[i].getD j .bad) s:=by
 obtain ⟨q,I,F⟩:=h.sl.idx (i:=(i:Int)) (by omega) (by rw [h.len];omega)
 rw [Int.toNat_natCast] at F
 obtain ⟨y,E,Y⟩:=h.load hi
 have B:y=q:=by
  have e:=(E .i64 (fun v=>.fin v s)).symm.trans (I .i64 (fun v=>.fin v s))
  injection e
 subst B
 refine ⟨y,I,Y,fun j G=>?_⟩
 obtain ⟨p,f1,a⟩:=F.field j (by omega)
 have C:=h.sz_ _ (kai hi)
 have X:qg s v (i*sz+j)=L[i].getD j .bad:=by
  rw [h.at_ i j hi G]
  simp [kab hi]
 have Z:L[i].getD j .bad≠.bad:=by
  rw [kaa,kab (by rw [C];exact G)]
  exact h.nb _ (kai hi) _ (kai _)
 refine ⟨p,f1,fun k=>?_⟩
 rw [a.load1 (by omega) (by rw [Nat.add_zero,X];exact Z) k,Nat.add_zero,X]
theorem zcp {sp:List (Int × Int × Int)} (h:Rw s 3 v (yw sp)) (hi:i<sp.length):∃ q C j d,(∀ k c,ze 3 v (iv k (i:Int)) c=c q)∧(∀ k:V→S→Go.Ev.A,zd true 3 q s k=k (.ls 0 [iv .i64 sp[i].1,iv .i64 sp[i].2.1,iv .i64 sp[i].2.2]) s) ∧
  ((∀ c,zb 0 q c=c C)∧∀ k:V→S→Go.Ev.A,zd false 1 C s k=k (iv .i64 sp[i].1) s)∧((∀ c,zb 1 q c=c j)∧∀ k:V→S→Go.Ev.A,zd false 1 j s k=k (iv .i64 sp[i].2.1) s)∧((∀ c,zb 2 q c=c d)∧∀ k:V→S→Go.Ev.A,zd false 1 d s k=k (iv .i64 sp[i].2.2) s):=by
 have F:i<(yw sp).length:=by simpa [yw] using hi
 obtain ⟨q,I,J,Q⟩:=h.fld F
 rw [znR _ F hi] at J Q
 obtain ⟨C,a0,b0⟩:=Q 0 (by omega)
 obtain ⟨j,a1,Z⟩:=Q 1 (by omega)
 obtain ⟨d,a2,p⟩:=Q 2 (by omega)
 exact ⟨q,C,j,d,I,J,⟨a0,b0⟩,⟨a1,Z⟩,⟨a2,p⟩⟩
def Kb (s U:S):Prop:=∀ k C n e,Bx s k C n e→Bx U k C n e
theorem Gz.app_b {N:List (List V)} (h:Gz el sz b s v L) (w:Ext b s) (hz:0<sz) (Y:Rw s sz y N) (u:L.length+N.length≤68719476736):∃ F U,(∀ k:V→S→Go.Ev.A,zN el sz v y s k=k F U)∧Gz el sz b U F (L++N)∧Ext b U∧Kb s U:=by
 obtain ⟨F,U,T,M,o,i,-⟩:=h.append w.nx hz N Y.sz_ u
 refine ⟨F,U,fun k=>?_,M,za2 w o (D:=fun c=>qi v=some c) i (fun c X=>(h.blk X).1),fun k C n e hb=>⟨(i k hb.2.2.2 (Gz.ne_row h hb.1)).trans hb.1,hb.2.1,hb.2.2.1,kan hb.2.2.2 o⟩⟩
 show qA sz y s _=_
 rw [Y.src hz]
 exact T k
theorem zd4 (a b:List Int):yA a++yA b=yA (a++b):=by simp [yA]
theorem zli (w:List Int) (a b:Nat):((yA w).drop a).take (b - a)=yA (seg w a b):=by simp [yA,seg,List.map_drop,List.map_take]
noncomputable def KN6 (h:Nat):Nat→Ct
 | 54=>ctI (X:=List V × RuD × Nat × V × List (Int × Int × Int)) (fun ⟨C,r,n,vs,sp⟩ a s=>a=[.ls 0 C,iv .i64 (n:Int),vs]∧RuR h s C r∧Rw s 3 vs (yw sp)∧sp.length≤300) (fun ⟨_,r,n,_,sp⟩ s v U=>Ext s U∧v=.bool (yS r.ps.length n 0 sp))
 | 55=>ctI (X:=ToX) (fun c a s=>a=[.ls 0 c.C,c.v,c.vs]∧RuR h s c.C c.r∧(Wd s c.v c.w∧Fx c.v)∧Rw s 3 c.vs (yw c.sp)∧yS c.r.ps.length c.w.length 0 c.sp=true∧c.lim) (fun c s v U=>Ext s U∧Wd U v c.out)
 | f=>KN5 h f
structure SnX where
 C:List V
 R:RuD
 n:Nat
 vs:V
 sp:List (Int × Int × Int)
 rb:Go.Ev.K
 b:S
def SnX.base (h:Nat) (c:SnX):Prop:=(Bx c.b c.rb c.C 16 38∧RuR h c.b c.C c.R)∧Rw c.b 3 c.vs (yw c.sp)∧c.sp.length≤300
def SnX.ok (c:SnX) (z:Int) (l:List (Int × Int × Int)):Bool:=yS c.R.ps.length c.n z l
def SnX.pre (h:Nat) (c:SnX) (tm:T) (s:S):Prop:=c.base h∧s=c.b∧(gp 3 tm=.ptr c.rb 0 0∧gp 1 tm=iv .i64 (c.n:Int)∧gp 2 tm=c.vs∧gp 240 tm=.bad)∧∃ (i:Nat) (z:Int),i≤c.sp.length∧gp 8 tm=iv .i64 (i:Int)∧gp 7 tm=iv .i64 z∧c.ok z (c.sp.drop i)=c.ok 0 c.sp
def SnX.post (c:SnX) (x:Go.Ev.A):Prop:=(∃ N,x=.ext 0 N c.b∧gp 240 N=.bad∧c.ok 0 c.sp=true)∨∃ N,x=.ret N c.b∧gp 240 N=.bad∧gp 6 N=.bool false∧c.ok 0 c.sp=false
theorem zC6:∀ (c:SnX) tm s,c.pre h tm s→c.post (zam.run (Rk Tryz.prog (KN6 h) fun _=>ltI (SnX.pre h) SnX.post) tm s):=by
 refine zL (L:=fun _=>ltI (SnX.pre h) SnX.post) zt znD rfl (fun tm _=>9223372036854775808 - (toI (gp 8 tm)).toNat) (fun x a h=>by rcases h with ⟨_,rfl,_⟩ | ⟨_,rfl,_⟩<;>exact fun h=>h) ?_
 rintro ⟨C,R,n,vs,sp,rb,b⟩ tm s ⟨y,t,⟨Q,I,J,N⟩,i,z,hi,B,g,E⟩ T
 show SnX.post _ (zam.run _ tm _)
 generalize Rk Tryz.prog _ _=r at T ⊢
 obtain ⟨⟨ad,K⟩,aa,ae⟩:=id y
 simp only [SnX.ok] at t ad K aa ae Q I J hi E
 subst t
 have o:∀ c:V→Go.Ev.A,zm vs c=c (iv .i64 (sp.length:Int)):=fun c=>by rw [aa.lenS];simp [yw]
 by_cases O:i<sp.length
 ·obtain ⟨q,q0,aj,ak,U,-,⟨a0,b0⟩,⟨a1,Z⟩,⟨a2,W⟩⟩:=zcp aa O
  rw [List.drop_eq_getElem_cons O] at E
  generalize sp[i]=d at b0 Z W E
  obtain ⟨lo,G,pt⟩:=d
  have b0:∀ k:V→S→Go.Ev.A,zd false 1 q0 s k=k (iv .i64 lo) s:=b0
  have Z:∀ k:V→S→Go.Ev.A,zd false 1 aj s k=k (iv .i64 G) s:=Z
  have W:∀ k:V→S→Go.Ev.A,zd false 1 ak s k=k (iv .i64 pt) s:=W
  obtain ⟨pv,l,⟨al,an,-⟩,-⟩:=(ad.ru K).f1
  have ah:∀ c:V→Go.Ev.A,zm pv c=c (iv .i64 (R.ps.length:Int)):=fun c=>by rw [al.len,an]
  have bad:∀ x,¬((z≤lo∧lo<G∧G≤(n:Int))∧0≤pt∧pt<R.ps.length)→(∃ F,x=.ret F s∧gp 240 F=.bad∧gp 6 F=.bool false)→SnX.post ⟨C,R,n,vs,sp,rb,s⟩ x:=fun x e ⟨F,M,u,v⟩=>.inr ⟨F,M,u,v,by show yS R.ps.length n 0 sp=false;rw [←E,yS,decide_eq_false e,Bool.false_and]⟩
  by_cases j:lo<z
  ·refine bad _ (fun h=>by omega) ?_
   simp -implicitDefEqProofs [yJ,yB,J,B,o,O,U,a0,b0,g,j,N]
  by_cases p:G≤lo
  ·refine bad _ (fun h=>by omega) ?_
   simp -implicitDefEqProofs [yJ,yB,J,B,o,O,U,a0,b0,g,j,a1,Z,p,N]
  by_cases m:(n:Int)<G
  ·refine bad _ (fun h=>by omega) ?_
   simp -implicitDefEqProofs [yJ,yB,J,B,o,O,U,a0,b0,g,j,a1,Z,p,I,m,N]
  by_cases Y:pt<0
  ·refine bad _ (fun h=>by omega) ?_
   simp -implicitDefEqProofs [yJ,yB,J,B,o,O,U,a0,b0,g,j,a1,Z,p,I,m,a2,W,Y,N]
  by_cases w:(R.ps.length:Int)≤pt
  ·refine bad _ (fun h=>by omega) ?_
   simp -implicitDefEqProofs [yJ,yB,J,B,o,O,U,a0,b0,g,j,a1,Z,p,I,m,a2,W,Y,Q,l,ah,w,N]
  have f:IntKind.i64.wrap ((i:Int)+1)=((i+1:Nat):Int):=w64
  have ai:(z≤lo∧lo<G∧G≤(n:Int))∧0≤pt∧pt<(R.ps.length:Int):=⟨⟨by omega,by omega,by omega⟩,by omega,by omega⟩
  have next:∀ F,(gp 3 F=.ptr rb 0 0∧gp 1 F=iv .i64 (n:Int)∧gp 2 F=vs∧gp 240 F=.bad)→gp 8 F=iv .i64 ((i+1:Nat):Int)→gp 7 F=iv .i64 G→SnX.post ⟨C,R,n,vs,sp,rb,s⟩ (r.code zbr zbT F s):=fun F k X D =>
   T ⟨C,R,n,vs,sp,rb,s⟩ F s (by rw [X,B,zp,zp];omega) ⟨y,rfl,k,i+1,G,O,X,D,by show yS R.ps.length n G _=yS R.ps.length n 0 sp;rw [←E,yS,decide_eq_true ai,Bool.true_and]⟩
  simp -implicitDefEqProofs [yJ,yB,J,B,o,O,U,a0,b0,g,j,a1,Z,p,I,m,a2,W,Y,Q,l,ah,w,f]
  apply next<;>simp [I,J,Q,N]
 ·obtain rfl:i=sp.length:=by omega
  rw [List.drop_of_length_le (kad _)] at E
  simp -implicitDefEqProofs [yJ,yB,J,B,o]
  exact .inl ⟨_,rfl,by simp [N],E.symm⟩
theorem zpy (h:Nat):zo Tryz.prog (KN6 h) 54:=by
 have e:=zC6 (h:=h)
 refine zr (L:=fun _=>ltI (SnX.pre h) SnX.post) zt (K:=KN6 h) (X:=List V × RuD × Nat × V × List (Int × Int × Int)) rfl ?_
 rintro ⟨C,R,n,vs,sp⟩ a s ⟨rfl,Q,A,B⟩
 generalize Rk Tryz.prog _ _=r at e ⊢
 have k:=ji Q.cells.1
 obtain ⟨Z,j,S⟩:=qT s (el:=38) Q.cells.1 Q.cells.2
 generalize zY s (.row C 16 38 false 0 0 0)=s1 at *
 generalize g:(fnC zf 54).run r _ _=D
 simp -implicitDefEqProofs [yB,k,S] at g
 generalize f:zam.run r _ s1=U at g
 rcases f▸e ⟨C,R,n,vs,sp,s.nx,s1⟩ _ s1 ⟨⟨⟨Z,Q.ext j⟩,A.ext j,B⟩,rfl,⟨by simp,by simp,by simp,by simp⟩,0,0,Nat.zero_le _,by simp,by simp,rfl⟩ with ⟨N,rfl,G,T⟩ | ⟨N,rfl,G,d,T⟩
 ·simp -implicitDefEqProofs [G] at g
  exact ⟨_,s1,g.symm,j,by rw [show yS R.ps.length n 0 sp=true from T]⟩
 ·simp -implicitDefEqProofs [G,d] at g
  exact ⟨_,s1,g.symm,j,by rw [show yS R.ps.length n 0 sp=false from T]⟩
structure OuX where
 C:List V
 R:RuD
 v:V
 w:List Int
 vs:V
 sp:List (Int × Int × Int)
 rb:Go.Ev.K
 b:S
def OuX.out (c:OuX):List Int:=qH c.w id c.R.ps 0 c.sp
def OuX.base (h:Nat) (c:OuX):Prop:=(Bx c.b c.rb c.C 16 38∧RuR h c.b c.C c.R)∧(Wd c.b c.v c.w∧Fx c.v)∧Rw c.b 3 c.vs (yw c.sp)∧(c.sp.length≤300∧c.w.length≤300∧c.out.length≤1000000∧∀ p∈c.R.ps,p.bf.length≤40∧p.af.length≤40)
def OuX.pre (h:Nat) (c:OuX) (tm:T) (s:S):Prop:=c.base h∧Ext c.b s∧(gp 1 tm=c.v∧gp 2 tm=c.vs∧gp 3 tm=.ptr c.rb 0 0∧gp 240 tm=.bad)∧∃ (i a:Nat) (L:List Int),i≤c.sp.length∧a≤c.w.length∧gp 9 tm=iv .i64 (i:Int)∧gp 8 tm=iv .i64 (a:Int)∧Gz 3 1 c.b s (gp 7 tm) (yA L)∧yS c.R.ps.length c.w.length (a:Int) (c.sp.drop i)=true∧L++qH c.w id c.R.ps a (c.sp.drop i)=c.out
def OuX.post (c:OuX) (x:Go.Ev.A):Prop:=∃ N s,x=.ext 0 N s∧Ext c.b s∧(gp 1 N=c.v∧gp 240 N=.bad)∧∃ (a:Nat) (L:List Int),a≤c.w.length∧gp 8 N=iv .i64 (a:Int)∧Gz 3 1 c.b s (gp 7 N) (yA L)∧L++c.w.drop a=c.out
theorem zDq:∀ (c:OuX) tm s,c.pre h tm s→c.post (zcF.run (Rk Tryz.prog (KN6 h) fun _=>ltI (OuX.pre h) OuX.post) tm s):=by
 refine zL (L:=fun _=>ltI (OuX.pre h) OuX.post) zt zr3 rfl (fun tm _=>9223372036854775808 - (toI (gp 9 tm)).toNat) (fun x a ⟨_,_,h,_⟩=>by rw [h];exact fun h=>h) ?_
 rintro ⟨C,R,v,w,vs,sp,rb,b⟩ tm s ⟨y,Y,⟨I,J,Q,N⟩,i,a,L,hi,ha,h9,h8,hz,aq,ad⟩ g
 show OuX.post _ (zcF.run _ tm _)
 generalize Rk Tryz.prog _ _=r at g ⊢
 obtain ⟨⟨aH,hR⟩,⟨G,ar⟩,ah,aJ,au,aK,aL⟩:=id y
 simp only at aH hR G ar ah aJ au aK aL Y I J Q hi ha hz aq ad
 have o:∀ c:V→Go.Ev.A,zm vs c=c (iv .i64 (sp.length:Int)):=fun c=>by rw [ah.lenS];simp [yw]
 by_cases O:i<sp.length
 ·obtain ⟨q,q0,av,aX,E,-,⟨a0,b0⟩,⟨a1,b1⟩,⟨a2,b2⟩⟩:=zcp (ah.ext Y) O
  rw [List.drop_eq_getElem_cons O] at aq ad
  obtain ⟨⟨⟨K,k2,k3⟩,k4,k5⟩,ao⟩:=zff aq
  have bw:L.length≤1000000:=by
   have:=congrArg List.length ad
   rw [kae] at this
   omega
  generalize B:sp[i]=d at *
  obtain ⟨aw,ax,ay⟩:=d
  simp only at K k2 k3 k4 k5 ao
  have b0:∀ k:V→S→Go.Ev.A,zd false 1 q0 s k=k (iv .i64 aw) s:=b0
  have b1:∀ k:V→S→Go.Ev.A,zd false 1 av s k=k (iv .i64 ax) s:=b1
  have b2:∀ k:V→S→Go.Ev.A,zd false 1 aX s k=k (iv .i64 ay) s:=b2
  obtain ⟨lo,rfl⟩:∃ n:Nat,aw=(n:Int):=⟨aw.toNat,by omega⟩
  obtain ⟨aa,rfl⟩:∃ n:Nat,ax=(n:Int):=⟨ax.toNat,by omega⟩
  obtain ⟨k,rfl⟩:∃ n:Nat,ay=(n:Int):=⟨ay.toNat,by omega⟩
  have p:k<R.ps.length:=by omega
  obtain ⟨pv,el,er,aY,⟨az,aZ,-⟩,ba,-,-⟩:=hR
  have ae:=(ba k p)
  have f1:∀ k:V→S→Go.Ev.A,zd false 1 (.ptr rb 0 1) s k=k pv s:=fun k=>by rw [(aH.ext Y).fld 1 (by omega),aY];rfl
  obtain ⟨qq,aM,aA⟩:=jE (az.ext Y).1 aZ p (by rw [zV az Y];exact ae.cells.2)
  rw [zV az Y] at aA
  obtain ⟨t0,s1,bb,j,-,t,st⟩:=zbE s (Z:=[iv .i64 0,iv .i64 0,iv .i64 0,.str [],iv .i64 0,iv .i64 0,.nil 1,.bool false,.nil 1,.nil 1]) (el:=42) ae.cells.1 rfl ae.cells.2
  have bc:R.ps.getD (((lo:Int),(aa:Int),(k:Int)).2.2).toNat pd0=R.ps[k]:=by simp [kab p]
  obtain ⟨bp,br⟩:=aL _ (kai p)
  generalize R.ps[k]=pd at *
  have ai:=Y.trans j
  have aN:∀ k:V→S→Go.Ev.A,zd false 1 q0 s1 k=k (iv .i64 (lo:Int)) s1:=by
   obtain ⟨q_,aB,_,_,aC,-,⟨aD,aj⟩,-⟩:=zcp (ah.ext ai) O
   have T:q_=q:=by have e:=(aC .i64 (fun v=>.fin v s)).symm.trans (E .i64 (fun v=>.fin v s));injection e
   subst T
   have M:aB=q0:=by have e:=(aD (fun v=>.fin v s)).symm.trans (a0 (fun v=>.fin v s));injection e
   subst M
   rw [B] at aj;exact aj
  have bt:=wT w a lo
  obtain ⟨u1,z,aO⟩:=((G.ext ai).rw).slice (el:=3) (lo:=some (iv .i64 (a:Int))) (hi:=some (iv .i64 (lo:Int))) (a:=a) (b:=lo) (by omega) (.inl ar) (.inr ⟨_,rfl⟩) (.inr ⟨_,rfl⟩) (by omega) (by simp [yA];omega)
  rw [zli] at aO
  obtain ⟨D,W,M,aP,aQ,K2⟩:=Gz.app_b (hz.ext j) ai (by omega) aO (by simp [yA];omega)
  rw [zd4] at aP
  have P2:=(K2 _ _ _ _ bb).pa (ae.ext aQ)
  obtain ⟨Bv,f8,bd⟩:=P2.f8
  obtain ⟨v3,X,e3,aE,ak,K3⟩:=Gz.app_b aP aQ (by omega) bd.rw (by simp [yA];omega)
  rw [zd4] at aE
  have aF:=K3 _ _ _ _ (K2 _ _ _ _ bb)
  have P3:=aF.pa (ae.ext ak)
  have f7:=P3.f7
  have bu:=fun U (e:Ext b U)=>zcp (ah.ext e) O
  have fld:∀ U,Ext b U→(∀ k:V→S→Go.Ev.A,zd false 1 q0 U k=k (iv .i64 (lo:Int)) U)∧∀ k:V→S→Go.Ev.A,zd false 1 av U k=k (iv .i64 (aa:Int)) U:=fun U e=>by
   obtain ⟨q_,aB,bg,_,aC,-,⟨aD,aj⟩,⟨bh,aR⟩,-⟩:=zcp (ah.ext e) O
   have T:q_=q:=by have e:=(aC .i64 (fun v=>.fin v s)).symm.trans (E .i64 (fun v=>.fin v s));injection e
   subst T
   have M:aB=q0:=by have e:=(aD (fun v=>.fin v s)).symm.trans (a0 (fun v=>.fin v s));injection e
   have e3:bg=av:=by have e:=(bh (fun v=>.fin v s)).symm.trans (a1 (fun v=>.fin v s));injection e
   subst M e3
   rw [B] at aj aR;exact ⟨aj,aR⟩
  have bj:(L++seg w a lo++pd.bf).length≤2000000:=by simp only [kae];omega
  have bk:=wT w lo aa
  obtain ⟨l,s4,e4,al,an,bl⟩:∃ l s4,(if pd.cp then (∃ u,(∀ c:V→Go.Ev.A,qu 3 1 v (some (iv .i64 (lo:Int))) (some (iv .i64 (aa:Int))) none X c=c u)∧∀ k:V→S→Go.Ev.A,zN 3 1 v3 u X k=k l s4) else l=v3∧s4=X)∧Gz 3 1 b s4 l (yA (L++seg w a lo++pd.bf++if pd.cp then seg w lo aa else []))∧Ext b s4∧Bx s4 s.nx (rwC 10 b pv k) 10 42:=by
   cases aG:pd.cp with
   | false=>exact ⟨v3,X,⟨rfl,rfl⟩,by simpa using aE,ak,aF⟩
   | true =>
    obtain ⟨u2,f,aS⟩:=((G.ext ak).rw).slice (el:=3) (lo:=some (iv .i64 (lo:Int))) (hi:=some (iv .i64 (aa:Int))) (a:=lo) (b:=aa) (by omega) (.inl ar) (.inr ⟨_,rfl⟩) (.inr ⟨_,rfl⟩) (by omega) (by simp [yA];omega)
    rw [zli] at aS
    obtain ⟨l,s4,e4,al,an,K4⟩:=Gz.app_b aE ak (by omega) aS (by simp only [yA,kaH];omega)
    rw [zd4] at al
    exact ⟨l,s4,⟨u2,f,e4⟩,al,an,K4 _ _ _ _ aF⟩
  have P4:=bl.pa (ae.ext an)
  obtain ⟨Av,f9,bm⟩:=P4.f9
  have bz:(if pd.cp=true then seg w lo aa else []).length≤w.length:=by
   split
   ·exact bk
   ·simp
  obtain ⟨m,s5,e5,aT,aU,K5⟩:=Gz.app_b al an (by omega) bm.rw (by simp only [yA,kaH];rw [kae];omega)
  rw [zd4] at aT
  obtain ⟨aV,aW⟩:=fld s5 aU
  obtain ⟨bn,bo⟩:=fld X ak
  have w3:IntKind.i64.wrap ((i:Int)+1)=((i+1:Nat):Int):=w64
  have next:∀ F,(gp 1 F=v∧gp 2 F=vs∧gp 3 F=.ptr rb 0 0∧gp 240 F=.bad)→gp 9 F=iv .i64 ((i+1:Nat):Int)→gp 8 F=iv .i64 (aa:Int)→gp 7 F=m→OuX.post ⟨C,R,v,w,vs,sp,rb,b⟩ (r.code ziV zeZ F s5):=fun F kk k9 k8 k7 =>
   g ⟨C,R,v,w,vs,sp,rb,b⟩ F s5 (by rw [k9,h9,zp,zp];omega) ⟨y,aU,kk,i+1,aa,_,O,by show aa≤w.length;omega,k9,k8,k7▸aT,ao,by
    rw [←ad]
    show _=L++qH w id R.ps a (_::_)
    rw [qH,bc]
    simp only [kaG,List.map_id,Int.toNat_natCast]⟩
  cases aG:pd.cp with
  | false =>
   rw [aG] at f7 e4
   obtain ⟨rfl,rfl⟩:l=v3∧s4=X:=by simpa using e4
   simp -implicitDefEqProofs [zfG,I,J,Q,h8,h9,o,O,f1,E,a0,a1,a2,b2,aM,aA,t,st,aN,z,M,f8,e3,f7,f9,e5,aW,w3]
   apply next<;>simp [I,J,Q,N]
  | true =>
   rw [aG] at f7 e4
   obtain ⟨u2,f,e4⟩:=(by simpa using e4:∃ u,(∀ c:V→Go.Ev.A,qu 3 1 v (some (iv .i64 (lo:Int))) (some (iv .i64 (aa:Int))) none X c=c u)∧∀ k:V→S→Go.Ev.A,zN 3 1 v3 u X k=k l s4)
   simp -implicitDefEqProofs [zfG,I,J,Q,h8,h9,o,O,f1,E,a0,a1,a2,b2,aM,aA,t,st,aN,z,M,f8,e3,f7,bn,bo,f,e4,f9,e5,aW,w3]
   apply next<;>simp [I,J,Q,N]
 ·obtain rfl:i=sp.length:=by omega
  rw [List.drop_of_length_le (kad _),qH] at ad
  simp -implicitDefEqProofs [zfG,J,h9,o]
  exact ⟨_,s,rfl,Y,by simp [I,N],a,L,ha,by simp [h8],by simpa using hz,ad⟩
theorem zyu (h:Nat):zo Tryz.prog (KN6 h) 55:=by
 have e:=zDq (h:=h)
 refine zr (L:=fun _=>ltI (OuX.pre h) OuX.post) zt (K:=KN6 h) (X:=ToX) rfl ?_
 rintro ⟨C,R,v,w,vs,sp⟩ a s ⟨rfl,Q,⟨m,i⟩,E,T,aa,F,p,t⟩
 simp only at Q m i E T aa F p t
 generalize Rk Tryz.prog _ _=r at e ⊢
 have k:=ji Q.cells.1
 obtain ⟨Z,j,S⟩:=qT s (el:=38) Q.cells.1 Q.cells.2
 generalize zY s (.row C 16 38 false 0 0 0)=s1 at *
 have O:=zdE w id p sp 0
 have hbound:(qH w id R.ps 0 sp).length≤1000000:=by
  have:sp.length*(2*w.length+80)≤300*(2*300+80):=Nat.mul_le_mul F (by omega)
  omega
 generalize g:(fnC zf 55).run r _ _=D
 simp -implicitDefEqProofs [zgR,k,S] at g
 generalize f:zcF.run r _ s1=c at g
 obtain ⟨N,W,rfl,q,⟨n,G⟩,a,L,U,l,hz,B⟩:=f▸e ⟨C,R,v,w,vs,sp,s.nx,s1⟩ _ s1 ⟨⟨⟨Z,Q.ext j⟩,⟨m.ext j,i⟩,E.ext j,F,aa,hbound,p⟩,Ext.refl s1,⟨by simp,by simp,by simp,by simp⟩,0,0,[],Nat.zero_le _,Nat.zero_le _,by simp,by simp,.inl ⟨by simp,rfl⟩,T,rfl⟩
 simp only at n l U hz B q
 have ad:L.length≤1000000:=by
  have:=congrArg List.length B
  rw [kae] at this
  have J:(OuX.out ⟨C,R,v,w,vs,sp,s.nx,s1⟩).length≤1000000:=hbound
  omega
 obtain ⟨u,d,hu⟩:=((m.ext (j.trans q)).rw).slice (el:=3) (lo:=some (iv .i64 (a:Int))) (hi:=none) (a:=a) (b:=w.length) (by omega) (.inl i) (.inr ⟨_,rfl⟩) (.inl ⟨rfl,by simp [yA]⟩) U (by simp [yA])
 rw [zli,show seg w a w.length=w.drop a from List.take_of_length_le (by simp)] at hu
 obtain ⟨y,I,o,V,A,-⟩:=Gz.app_b hz q (by omega) hu (by simp [yA];omega)
 rw [zd4,B] at V
 simp -implicitDefEqProofs [n,l,G,d,o] at g
 refine ⟨_,I,g.symm,j.trans A,Rw.wd (Gz.rw V (fun x M=>?_) fun x M=>?_) (by have J:(ToX.out ⟨C,R,v,w,vs,sp⟩).length≤1000000:=hbound;omega)⟩
 ·obtain ⟨z,_,rfl⟩:=kau.1 M;rfl
 ·obtain ⟨z,_,rfl⟩:=kau.1 M
  intro y Y
  rw [kak.1 Y];exact qG _ _
def zan:Code→Nat
 | .seq a b=>zan a+zan b+1
 | .cond _ a b=>zan a+zan b+1
 | .block i a=>zan a+1+1000*i
 | .loop a=>zan a+1
 | .scope a=>zan a+1
 | .rangeFunc _ _ a b=>zan a+zan b+1
 | .region _ l _=>l.size+1
 | _=>1
noncomputable def Rk2 (K:Nat→Ct) (L:Nat→Lt):R :=
 Rq Tryz.prog (fun f a s v U=>(K f).pre a s→(K f).post a s v U) (fun _ c N s a=>(L (zan c)).pre N s→(L (zan c)).post N s a)
theorem zzY {K:Nat→Ct} {L:Nat→Lt} {f:Nat} {pre:X→List V→S→Prop} {post:X→S→V→S→Prop} (N:K f=ctI pre post)
  (h:∀ x a s,pre x a s→∃ v U,(fnC zf f).run (Rk2 K L) a s=.ret v U∧post x s v U):zo Tryz.prog K f:=by
 intro a s M
 rw [N] at M ⊢
 obtain ⟨x,M⟩:=M
 obtain ⟨v,U,e,I⟩:=h x a s M
 refine ⟨v,U,ziN zt (zwR zf _ _) e,fun y Y=>?_⟩
 obtain ⟨C,W,D,J⟩:=h y a s Y
 rw [e] at D
 cases D
 exact J
theorem zny {K:Nat→Ct} {L:Nat→Lt} {n:Nat} (o:zan c=n) {pre:X→T→S→Prop} {post:X→Go.Ev.A→Prop} (e:L n=ltI pre post) (B:T→S→Nat)
  (G:∀ x a,post x a→¬a.isBad) (body:∀ x tm s,pre x tm s→(∀ y F U,B F U<B tm s→pre y F U→post y ((Rk2 K L).code fi c F U))→post x ((zj zf fi c).run (Rk2 K L) tm s)) :
  ∀ x tm s,pre x tm s→post x ((zj zf fi c).run (Rk2 K L) tm s):=by
 intro x tm s M
 have:=(zgg (P:=Tryz.prog) zt (fun f a s v U=>(K f).pre a s→(K f).post a s v U) (fun _ c tm s a=>(L (zan c)).pre tm s→(L (zan c)).post tm s a) (fi:=fi) (c:=c) (fun tm s=>∃ x,pre x tm s) B (fun tm s h E=>by
  have hb:∀ x,pre x tm s→post x ((zj zf fi c).run (Rk2 K L) tm s):=fun x M=>body x tm s M fun y F U I J=>by
   have:=E F U I ⟨y,J⟩
   rw [o,e] at this
   exact this ⟨y,J⟩ y J
  obtain ⟨x,M⟩:=h
  refine ⟨G x _ (hb x M),fun _=>?_⟩
  rw [o,e]
  exact hb) tm s ⟨x,M⟩).2
 rw [o,e] at this
 exact this ⟨x,M⟩ x M
theorem zy7:zan zau=3026:=by kernel_rfl
theorem zxw:zan zaC=5026:=by kernel_rfl
theorem zyp:zan zaA=15130:=by kernel_rfl
theorem zlb {α:Type} {P:α→Prop} {x:List α} {nw:Int→α} {ps:List PaD} (M:∀ y∈x,P y) (o:∀ z,P (nw z)):∀ (l:List (Int × Int × Int)) (a:Nat),∀ y∈qH x nw ps a l,P y
 | [],a,y,Y=>M y (List.mem_of_mem_drop Y)
 | d::l,a,y,Y=>by
  have C:∀ a b,∀ y∈seg x a b,P y:=fun a b y Y=>M y (List.mem_of_mem_drop (List.mem_of_mem_take Y))
  rw [qH] at Y
  simp only [kaq,kau] at Y
  rcases Y with Y | ⟨z,_,rfl⟩ | Y | ⟨z,_,rfl⟩ | Y
  ·exact C _ _ y Y
  ·exact o z
  ·split at Y
   ·exact C _ _ y Y
   ·cases Y
  ·exact o z
  ·exact zlb M o l _ y Y
structure AfX where
 C:List V
 R:RuD
 D:List V
 t:TfD
 lv:V
 Lo:List (List V)
 rb:Go.Ev.K
 tb:Go.Ev.K
 b:S
def AfX.nw (c:AfX) (_z:Int):List V:=[iv .i64 c.t.rule,iv .i64 (-1)]
def AfX.out (c:AfX):List (List V):=qH c.Lo c.nw c.R.ps 0 c.t.sp
def AfX.base (h:Nat) (c:AfX):Prop:=(Bx c.b c.rb c.C 16 38∧RuR h c.b c.C c.R)∧(Bx c.b c.tb c.D 4 45∧StR c.b c.D c.t)∧(Rw c.b 2 c.lv c.Lo∧FxE 55 c.b c.lv)∧(c.Lo.length≤300∧c.t.sp.length≤300∧c.out.length≤1000000∧∀ p∈c.R.ps,p.bf.length≤40∧p.af.length≤40)
def AfX.reg (c:AfX) (tm:T):Prop:=gp 2 tm=c.lv∧gp 3 tm=.ptr c.rb 0 0∧gp 4 tm=.ptr c.tb 0 0∧gp 240 tm=.bad
def AfX.pre (h:Nat) (c:AfX) (tm:T) (s:S):Prop:=c.base h∧Ext c.b s∧c.reg tm∧∃ (i a:Nat) (L:List (List V)),i≤c.t.sp.length∧a≤c.Lo.length∧gp 9 tm=iv .i64 (i:Int)∧gp 8 tm=iv .i64 (a:Int)∧Gz 55 2 c.b s (gp 7 tm) L∧yS c.R.ps.length c.Lo.length (a:Int) (c.t.sp.drop i)=true∧L++qH c.Lo c.nw c.R.ps a (c.t.sp.drop i)=c.out
def AfX.post (c:AfX) (x:Go.Ev.A):Prop:=∃ N s,x=.ext 0 N s∧Ext c.b s∧c.reg N∧∃ (a:Nat) (L:List (List V)),a≤c.Lo.length∧gp 8 N=iv .i64 (a:Int)∧Gz 55 2 c.b s (gp 7 N) L∧L++c.Lo.drop a=c.out
structure AlX where
 c:AfX
 i:Nat
 a:Nat
 sb:Go.Ev.K
 pb:Go.Ev.K
 SC:List V
 PC:List V
 L0:List (List V)
 wv:V
 w:List Int
def AlX.mem (h:Nat) (c:AlX) (tm:T) (s:S):Prop:=c.c.base h∧Ext c.c.b s∧(c.c.reg tm∧gp 9 tm=iv .i64 (c.i:Int)∧gp 8 tm=iv .i64 (c.a:Int)∧gp 10 tm=.ptr c.sb 0 0∧gp 11 tm=.ptr c.pb 0 0)∧Bx s c.sb c.SC 3 75∧Bx s c.pb c.PC 10 42∧Wd c.c.b c.wv c.w∧c.L0.length≤2000000∧c.w.length≤40
def AlX.pre29 (h:Nat) (c:AlX) (tm:T) (s:S):Prop:=c.mem h tm s∧c.PC.getD 8 .bad=c.wv∧∃ j:Nat,j≤c.w.length∧gp 12 tm=iv .i64 (j:Int)∧Gz 55 2 c.c.b s (gp 7 tm) (c.L0++(c.w.take j).map c.c.nw)
def AlX.post29 (h:Nat) (c:AlX) (x:Go.Ev.A):Prop:=∃ N s,x=.ext 2 N s∧c.mem h N s∧Gz 55 2 c.c.b s (gp 7 N) (c.L0++c.w.map c.c.nw)
def AlX.pre50 (h:Nat) (c:AlX) (tm:T) (s:S):Prop:=c.mem h tm s∧c.PC.getD 9 .bad=c.wv∧∃ j:Nat,j≤c.w.length∧gp 13 tm=iv .i64 (j:Int)∧Gz 55 2 c.c.b s (gp 7 tm) (c.L0++(c.w.take j).map c.c.nw)
def AlX.post50 (h:Nat) (c:AlX) (x:Go.Ev.A):Prop:=∃ N s,x=.ext 4 N s∧c.mem h N s∧Gz 55 2 c.c.b s (gp 7 N) (c.L0++c.w.map c.c.nw)
noncomputable def KN7 (h:Nat):Nat→Ct
 | 28=>ctI (X:=List V × RuD × List V × TfD × V × List (List V)) (fun ⟨C,r,D,t,lv,Lo⟩ a s=>a=[.ls 0 C,.ls 0 D,lv]∧RuR h s C r∧StR s D t∧(Rw s 2 lv Lo∧FxE 55 s lv)∧Lo.length=t.bf.length∧yS r.ps.length t.bf.length 0 t.sp=true∧(t.bf.length≤300∧t.sp.length≤300)∧∀ p∈r.ps,p.bf.length≤40∧p.af.length≤40)
   (fun ⟨_,r,_,t,_,Lo⟩ s v U=>Ext s U∧Rw U 2 v (qH Lo (fun _=>[iv .i64 t.rule,iv .i64 (-1)]) r.ps 0 t.sp)∧FxE 55 U v)
 | f=>KN6 h f
noncomputable def LAf (h:Nat):Nat→Lt
 | 3026=>ltI (AlX.pre29 h) (AlX.post29 h)
 | 5026=>ltI (AlX.pre50 h) (AlX.post50 h)
 | _=>ltI (AfX.pre h) AfX.post
theorem zhy {x y:Int} (hz:Gz 55 2 b s v L) (Y:Ext b s) (f:L.length≤3000000):∃ F U,(∀ k:Go.Ev.K→Nat→S→Go.Ev.A,Go.Ev.newRow s 55 [iv .i64 x,iv .i64 y] false k=k s.nx 2 (zY s (.row [iv .i64 x,iv .i64 y] 2 55 false 0 0 0)))∧(∀ k:V→S→Go.Ev.A,zN 55 2 v (.sl s.nx 0 0 1 1) (zY s (.row [iv .i64 x,iv .i64 y] 2 55 false 0 0 0)) k=k F U)∧Gz 55 2 b U F (L++[[iv .i64 x,iv .i64 y]])∧Ext b U∧Kb s U:=by
 have Z:∀ z∈[iv .i64 x,iv .i64 y],z≠.bad:=fun z hz=>by
  simp only [kaj,List.not_mem_nil,or_false] at hz
  rcases hz with rfl | rfl<;>exact qG _ _
 obtain ⟨M,j,t⟩:=qT s (el:=55) (c:=[iv .i64 x,iv .i64 y]) (n:=2) rfl Z
 have E:=zwz s (el:=55) (C:=[iv .i64 x,iv .i64 y]) (n:=2) rfl Z
 generalize zY s (.row [iv .i64 x,iv .i64 y] 2 55 false 0 0 0)=s1 at *
 obtain ⟨F,U,T,D,N,i⟩:=Gz.app_b (hz.ext j) (Y.trans j) (by omega) E (by simp;omega)
 exact ⟨F,U,t,T,D,N,fun k C n e hb=>i k C n e (hb.ext j)⟩
theorem zxu:∀ (c:AlX) tm s,c.pre29 h tm s→c.post29 h (yF.run (Rk2 (KN7 h) (LAf h)) tm s):=by
 refine zny (L:=LAf h) zy7 rfl (fun tm _=>9223372036854775808 - (toI (gp 12 tm)).toNat) (fun x a ⟨_,_,h,_⟩=>by rw [h];exact fun h=>h) ?_
 rintro c tm s ⟨⟨R,Y,⟨⟨f,g,E,C⟩,q,g8,D,z⟩,M,K,m,b,aa⟩,p,j,G,X,hz⟩ J
 show AlX.post29 h _ (yF.run _ tm _)
 generalize Rk2 _ _=r at J ⊢
 obtain ⟨-,⟨Q,v⟩,-⟩:=id R
 have ff:∀ k:V→S→Go.Ev.A,zd false 1 (.ptr c.pb 0 8) s k=k c.wv s:=fun k=>by rw [K.fld 8 (by omega),p]
 have f0:=((Q.ext Y).tb (v.ext Y)).f0
 have o:=m.lenS
 by_cases O:j<c.w.length
 ·have ad:(c.L0++(c.w.take j).map c.c.nw).length≤3000000:=by simp only [kae,kaH,List.length_take];omega
  obtain ⟨Z,U,l,ap,T,W,N⟩:=zhy (x:=c.c.t.rule) (y:=-1) hz Y ad
  have d:∀ x:V,upd [x] 0 [iv .i64 0,iv .i64 0]=[x,iv .i64 0]:=fun _=>rfl
  have up1:∀ x y:V,upd [y] 1 [x,iv .i64 0]=[x,y]:=fun _ _=>rfl
  have up:∀ B u:V,upd [B,u] 0 (Go.Ev.rep [iv .i64 0,iv .i64 0] 1)=[B,u]:=fun _ _=>rfl
  have I:∀ (B u:V) (c:List V→Go.Ev.A),zg 2 (.ls 0 [B,u]) c=c [B,u]:=fun B u c=>yg 2 _ rfl c
  have ng:∀ c:List V→Go.Ev.A,zg 1 (.neg .i64 0) c=c [iv .i64 (-1)]:=fun _=>rfl
  have n:IntKind.i64.wrap ((j:Int)+1)=((j+1:Nat):Int):=w64
  have next:∀ F,(c.c.reg F∧gp 9 F=iv .i64 (c.i:Int)∧gp 8 F=iv .i64 (c.a:Int)∧gp 10 F=.ptr c.sb 0 0∧gp 11 F=.ptr c.pb 0 0)→gp 12 F=iv .i64 ((j+1:Nat):Int)→gp 7 F=Z→AlX.post29 h c (r.code yq zau F U):=fun F k kc e =>
   J c F U (by rw [kc,X,zp,zp];omega) ⟨⟨R,W,k,N _ _ _ _ M,N _ _ _ _ K,m,b,aa⟩,p,j+1,O,kc,by rw [e,List.take_add_one,kab O,kaN,←kaG];exact T⟩
  simp -implicitDefEqProofs [zfs,z,E,ff,o,X,O,f0,ng,d,up1,up,I,l,ap,n]
  apply next
  ·exact ⟨⟨by simp [f],by simp [g],by simp [E],by simp [C]⟩,by simp [q],by simp [g8],by simp [D],by simp [z]⟩
  ·simp
  ·simp
 ·obtain rfl:j=c.w.length:=by omega
  rw [List.take_length] at hz
  simp -implicitDefEqProofs [zfs,z,ff,o,X]
  exact ⟨_,s,rfl,⟨R,Y,⟨⟨by simp [f],by simp [g],by simp [E],by simp [C]⟩,by simp [q],by simp [g8],by simp [D],by simp [z]⟩,M,K,m,b,aa⟩,by simpa using hz⟩
theorem zyM:∀ (c:AlX) tm s,c.pre50 h tm s→c.post50 h (qR.run (Rk2 (KN7 h) (LAf h)) tm s):=by
 refine zny (L:=LAf h) zxw rfl (fun tm _=>9223372036854775808 - (toI (gp 13 tm)).toNat) (fun x a ⟨_,_,h,_⟩=>by rw [h];exact fun h=>h) ?_
 rintro c tm s ⟨⟨R,Y,⟨⟨f,g,E,C⟩,q,g8,D,z⟩,M,K,m,b,aa⟩,p,j,G,X,hz⟩ J
 show AlX.post50 h _ (qR.run _ tm _)
 generalize Rk2 _ _=r at J ⊢
 obtain ⟨-,⟨Q,v⟩,-⟩:=id R
 have ff:∀ k:V→S→Go.Ev.A,zd false 1 (.ptr c.pb 0 9) s k=k c.wv s:=fun k=>by rw [K.fld 9 (by omega),p]
 have f0:=((Q.ext Y).tb (v.ext Y)).f0
 have o:=m.lenS
 by_cases O:j<c.w.length
 ·have ad:(c.L0++(c.w.take j).map c.c.nw).length≤3000000:=by simp only [kae,kaH,List.length_take];omega
  obtain ⟨Z,U,l,ap,T,W,N⟩:=zhy (x:=c.c.t.rule) (y:=-1) hz Y ad
  have d:∀ x:V,upd [x] 0 [iv .i64 0,iv .i64 0]=[x,iv .i64 0]:=fun _=>rfl
  have up1:∀ x y:V,upd [y] 1 [x,iv .i64 0]=[x,y]:=fun _ _=>rfl
  have up:∀ B u:V,upd [B,u] 0 (Go.Ev.rep [iv .i64 0,iv .i64 0] 1)=[B,u]:=fun _ _=>rfl
  have I:∀ (B u:V) (c:List V→Go.Ev.A),zg 2 (.ls 0 [B,u]) c=c [B,u]:=fun B u c=>yg 2 _ rfl c
  have ng:∀ c:List V→Go.Ev.A,zg 1 (.neg .i64 0) c=c [iv .i64 (-1)]:=fun _=>rfl
  have n:IntKind.i64.wrap ((j:Int)+1)=((j+1:Nat):Int):=w64
  have next:∀ F,(c.c.reg F∧gp 9 F=iv .i64 (c.i:Int)∧gp 8 F=iv .i64 (c.a:Int)∧gp 10 F=.ptr c.sb 0 0∧gp 11 F=.ptr c.pb 0 0)→gp 13 F=iv .i64 ((j+1:Nat):Int)→gp 7 F=Z→AlX.post50 h c (r.code yq zaC F U):=fun F k kc e =>
   J c F U (by rw [kc,X,zp,zp];omega) ⟨⟨R,W,k,N _ _ _ _ M,N _ _ _ _ K,m,b,aa⟩,p,j+1,O,kc,by rw [e,List.take_add_one,kab O,kaN,←kaG];exact T⟩
  simp -implicitDefEqProofs [zfq,z,E,ff,o,X,O,f0,ng,d,up1,up,I,l,ap,n]
  apply next
  ·exact ⟨⟨by simp [f],by simp [g],by simp [E],by simp [C]⟩,by simp [q],by simp [g8],by simp [D],by simp [z]⟩
  ·simp
  ·simp
 ·obtain rfl:j=c.w.length:=by omega
  rw [List.take_length] at hz
  simp -implicitDefEqProofs [zfq,z,ff,o,X]
  exact ⟨_,s,rfl,⟨R,Y,⟨⟨by simp [f],by simp [g],by simp [E],by simp [C]⟩,by simp [q],by simp [g8],by simp [D],by simp [z]⟩,M,K,m,b,aa⟩,by simpa using hz⟩
theorem zCO {r:R} {A:Go.Ev.A} (O:yF.run r tm s=A) (y:∀ (c:AlX) tm s,c.pre29 h tm s→c.post29 h (yF.run r tm s)) (c:AlX) (Z:c.pre29 h tm s):c.post29 h A:=O▸y c tm s Z
theorem zCa {r:R} {A:Go.Ev.A} (O:qR.run r tm s=A) (y:∀ (c:AlX) tm s,c.pre50 h tm s→c.post50 h (qR.run r tm s)) (c:AlX) (Z:c.pre50 h tm s):c.post50 h A:=O▸y c tm s Z
theorem zqR (x:List α) (a b:Nat):(x.drop a).take (b - a)=seg x a b:=rfl
theorem zBH:∀ (c:AfX) tm s,c.pre h tm s→c.post (jk.run (Rk2 (KN7 h) (LAf h)) tm s):=by
 have aG:=zxu (h:=h)
 have aH:=zyM (h:=h)
 refine zny (L:=LAf h) zyp rfl (fun tm _=>9223372036854775808 - (toI (gp 9 tm)).toNat) (fun x a ⟨_,_,h,_⟩=>by rw [h];exact fun h=>h) ?_
 rintro ⟨C,R,D,t,lv,Lo,rb,tb,b⟩ tm s ⟨y,Y,⟨J,Q,K,N⟩,i,a,L,hi,ha,h9,h8,hz,M,ah⟩ T
 show AfX.post _ (jk.run _ tm _)
 generalize Rk2 _ _=r at T aG aH ⊢
 obtain ⟨⟨aJ,hR⟩,⟨aK,hT⟩,⟨ay,az⟩,av,aL,aM,aN⟩:=id y
 simp only at aJ hR aK hT ay az av aL aM aN Y J Q K hi ha hz M ah
 obtain ⟨sv,t3,aO⟩:=((aK.ext Y).tb (hT.ext Y)).f3
 have o:∀ c:V→Go.Ev.A,zm sv c=c (iv .i64 (t.sp.length:Int)):=fun c=>by rw [aO.lenS];simp [yw]
 by_cases O:i<t.sp.length
 ·obtain ⟨q,q0,bM,bN,E,hQ,-⟩:=zcp aO O
  rw [List.drop_eq_getElem_cons O] at M ah
  obtain ⟨⟨⟨B,v,k3⟩,k4,k5⟩,ax⟩:=zff M
  have bO:L.length≤1000000:=by
   have:=congrArg List.length ah
   rw [kae] at this
   omega
  generalize u:t.sp[i]=d at *
  obtain ⟨aP,aQ,aR⟩:=d
  simp only at B v k3 k4 k5 ax
  obtain ⟨lo,rfl⟩:∃ n:Nat,aP=(n:Int):=⟨aP.toNat,by omega⟩
  obtain ⟨ad,rfl⟩:∃ n:Nat,aQ=(n:Int):=⟨aQ.toNat,by omega⟩
  obtain ⟨k,rfl⟩:∃ n:Nat,aR=(n:Int):=⟨aR.toNat,by omega⟩
  have F:k<R.ps.length:=by omega
  have hQ:∀ f:V→S→Go.Ev.A,zd true 3 q s f=f (.ls 0 [iv .i64 (lo:Int),iv .i64 (ad:Int),iv .i64 (k:Int)]) s:=hQ
  obtain ⟨t0,s1,bs,w,-,bd,bg⟩:=zbE s (C:=[iv .i64 (lo:Int),iv .i64 (ad:Int),iv .i64 (k:Int)]) (Z:=[iv .i64 0,iv .i64 0,iv .i64 0]) (n:=3) (el:=75) rfl rfl (zcU _ _ _)
  have ao:=Y.trans w
  obtain ⟨pv,el,er,bh,⟨aA,bj,-⟩,bk,-,-⟩:=hR
  have an:=(bk k F)
  have f1:∀ k:V→S→Go.Ev.A,zd false 1 (.ptr rb 0 1) s1 k=k pv s1:=fun k=>by rw [(aJ.ext ao).fld 1 (by omega),bh];rfl
  have bl:∀ f:V→S→Go.Ev.A,zd false 1 (.ptr s.nx 0 2) s1 f=f (iv .i64 (k:Int)) s1:=bs.fld 2 (by omega)
  obtain ⟨qq,bm,aS⟩:=jE (aA.ext ao).1 bj F (by rw [zV aA ao];exact an.cells.2)
  rw [zV aA ao] at aS
  obtain ⟨t1,W,bb,p,-,bn,bo⟩:=zbE s1 (Z:=[iv .i64 0,iv .i64 0,iv .i64 0,.str [],iv .i64 0,iv .i64 0,.nil 1,.bool false,.nil 1,.nil 1]) (el:=42) an.cells.1 rfl an.cells.2
  have bp:R.ps.getD (((lo:Int),(ad:Int),(k:Int)).2.2).toNat pd0=R.ps[k]:=by simp [kab F]
  obtain ⟨aT,aU⟩:=aN _ (kai F)
  obtain ⟨e,Bv,Av,br,X,bt,bu⟩:=an
  generalize R.ps[k]=pd at *
  have bw:e.length=7:=X.cells.1
  have hg:∀ j,(rwC 10 b pv k).getD (7+j) .bad=[V.bool pd.cp,Bv,Av].getD j .bad:=fun j=>by
   rw [br,kaa,kaw (by omega),bw,Nat.add_sub_cancel_left,←kaa]
  generalize rwC 10 b pv k=PC at *
  have aB:=ao.trans p
  have aV:=bs.ext p
  have bz:∀ f:V→S→Go.Ev.A,zd false 1 (.ptr s.nx 0 0) W f=f (iv .i64 (lo:Int)) W:=aV.fld 0 (by omega)
  have bL:=wT Lo a lo
  obtain ⟨u1,z,aW⟩:=(ay.ext aB).slice (el:=55) (lo:=some (iv .i64 (a:Int))) (hi:=some (iv .i64 (lo:Int))) (a:=a) (b:=lo) (by omega) (az.ext aB) (.inr ⟨_,rfl⟩) (.inr ⟨_,rfl⟩) (by omega) (by omega)
  rw [zqR] at aW
  obtain ⟨v3,I,G,bA,bB,K3⟩:=Gz.app_b (hz.ext (w.trans p)) aB (by omega) aW (by omega)
  have w3:IntKind.i64.wrap ((i:Int)+1)=((i+1:Nat):Int):=w64
  have aX:AfX.base h ⟨C,R,D,t,lv,Lo,rb,tb,b⟩:=y
  generalize g:jk.run r tm s=F0
  simp -implicitDefEqProofs [zfn,J,Q,K,h8,h9,t3,o,O,E,hQ,bd,bg,f1,bl,bm,aS,bn,bo,bz,z,G] at g
  generalize l:yF.run r _ I=A1 at g
  obtain ⟨bP,s4,rfl,⟨-,aq,⟨⟨r2,r3,r4,aa⟩,r9,r8,aj,ak⟩,ar,aw,-⟩,aC⟩:=zCO l aG ⟨⟨C,R,D,t,lv,Lo,rb,tb,b⟩,i,a,s.nx,s1.nx,_,PC,L++seg Lo a lo,Bv,pd.bf⟩ ⟨⟨aX,bB,⟨⟨by simp [J],by simp [Q],by simp [K],by simp [N]⟩,by simp [h9],by simp [h8],by simp,by simp⟩,K3 _ _ _ _ aV,K3 _ _ _ _ bb,bt,by simp only [kae];omega,aT⟩,hg 1,0,Nat.zero_le _,by simp,by simpa using bA⟩
  simp only at aq r2 r3 r4 r9 r8 aj ak ar aw aC
  have f7:∀ f:V→S→Go.Ev.A,zd false 1 (.ptr s1.nx 0 7) s4 f=f (.bool pd.cp) s4:=fun f=>by rw [aw.fld 7 (by omega),hg 0];rfl
  have aY:∀ f:V→S→Go.Ev.A,zd false 1 (.ptr s.nx 0 0) s4 f=f (iv .i64 (lo:Int)) s4:=ar.fld 0 (by omega)
  have aZ:∀ f:V→S→Go.Ev.A,zd false 1 (.ptr s.nx 0 1) s4 f=f (iv .i64 (ad:Int)) s4:=ar.fld 1 (by omega)
  have bC:=wT Lo lo ad
  have bQ:(if pd.cp=true then seg Lo lo ad else []).length≤Lo.length:=by
   split
   ·exact bC
   ·simp
  have fin:∀ ai s5 A,qR.run r ai s5=A→gp 13 ai=iv .i64 0→(AfX.reg ⟨C,R,D,t,lv,Lo,rb,tb,b⟩ ai∧gp 9 ai=iv .i64 (i:Int)∧gp 8 ai=iv .i64 (a:Int)∧gp 10 ai=.ptr s.nx 0 0∧gp 11 ai=.ptr s1.nx 0 0)→Ext b s5→Bx s5 s.nx [iv .i64 (lo:Int),iv .i64 (ad:Int),iv .i64 (k:Int)] 3 75→Bx s5 s1.nx PC 10 42→Gz 55 2 b s5 (gp 7 ai) (((L++seg Lo a lo)++pd.bf.map (AfX.nw ⟨C,R,D,t,lv,Lo,rb,tb,b⟩))++(if pd.cp then seg Lo lo ad else [])) →
    ∃ ae s6,A=.ext 4 ae s6∧(AfX.reg ⟨C,R,D,t,lv,Lo,rb,tb,b⟩ ae∧gp 9 ae=iv .i64 (i:Int)∧gp 8 ae=iv .i64 (a:Int)∧gp 10 ae=.ptr s.nx 0 0∧gp 11 ae=.ptr s1.nx 0 0)∧(∀ f:V→S→Go.Ev.A,zd false 1 (.ptr s.nx 0 1) s6 f=f (iv .i64 (ad:Int)) s6) ∧
     ∀ al,AfX.reg ⟨C,R,D,t,lv,Lo,rb,tb,b⟩ al→gp 9 al=iv .i64 ((i+1:Nat):Int)→gp 8 al=iv .i64 (ad:Int)→gp 7 al=gp 7 ae→AfX.post ⟨C,R,D,t,lv,Lo,rb,tb,b⟩ (r.code yq zaA al s6):=by
   intro ai s5 A l bD kr aD bE bF aE
   obtain ⟨ae,s6,e6,⟨-,bG,bH,bI,bR,-⟩,bJ⟩:=zCa l aH ⟨⟨C,R,D,t,lv,Lo,rb,tb,b⟩,i,a,s.nx,s1.nx,_,PC,((L++seg Lo a lo)++pd.bf.map (AfX.nw ⟨C,R,D,t,lv,Lo,rb,tb,b⟩))++(if pd.cp then seg Lo lo ad else []),Av,pd.af⟩ ⟨⟨aX,aD,kr,bE,bF,bu,by simp only [kae,kaH];omega,aU⟩,hg 2,0,Nat.zero_le _,bD,by simpa using aE⟩
   refine ⟨ae,s6,e6,bH,bI.fld 1 (by omega),fun al bK k9 k8 k7=>?_⟩
   refine T ⟨C,R,D,t,lv,Lo,rb,tb,b⟩ al s6 (by rw [k9,h9,zp,zp];omega) ⟨y,bG,bK,i+1,ad,_,O,by show ad≤Lo.length;omega,k9,k8,k7▸bJ,ax,?_⟩
   rw [←ah]
   show _=L++qH Lo _ R.ps a (_::_)
   rw [qH,bp]
   simp only [kaG,Int.toNat_natCast]
  cases ba:pd.cp with
  | false =>
   rw [ba] at f7 fin
   simp -implicitDefEqProofs [ak,f7] at g
   generalize l:qR.run r _ s4=A1 at g
   obtain ⟨ae,s6,rfl,⟨⟨r2,r3,r4,aa⟩,r9,r8,aj,ak⟩,au,aF⟩:=fin _ s4 _ l (by simp) ⟨⟨by simp [r2],by simp [r3],by simp [r4],by simp [aa]⟩,by simp [r9],by simp [r8],by simp [aj],by simp [ak]⟩ aq ar aw (by simpa using aC)
   simp only at r2 r3 r4
   simp -implicitDefEqProofs [aj,au,r9,w3] at g
   rw [←g]
   apply aF
   ·exact ⟨by simp [r2],by simp [r3],by simp [r4],by simp [aa]⟩
   ·simp
   ·simp
   ·simp
  | true =>
   rw [ba] at f7 fin
   obtain ⟨u2,U,bc⟩:=(ay.ext aq).slice (el:=55) (lo:=some (iv .i64 (lo:Int))) (hi:=some (iv .i64 (ad:Int))) (a:=lo) (b:=ad) (by omega) (az.ext aq) (.inr ⟨_,rfl⟩) (.inr ⟨_,rfl⟩) (by omega) (by omega)
   rw [zqR] at bc
   obtain ⟨m,s5,e5,aE,aD,K5⟩:=Gz.app_b aC aq (by omega) bc (by simp only [kae,kaH];omega)
   simp -implicitDefEqProofs [ak,f7,aj,aY,aZ,r2,U,e5] at g
   generalize l:qR.run r _ s5=A1 at g
   obtain ⟨ae,s6,rfl,⟨⟨r2,r3,r4,aa⟩,r9,r8,aj,ak⟩,au,aF⟩:=fin _ s5 _ l (by simp) ⟨⟨by simp [r2],by simp [r3],by simp [r4],by simp [aa]⟩,by simp [r9],by simp [r8],by simp [aj],by simp [ak]⟩ aD (K5 _ _ _ _ ar) (K5 _ _ _ _ aw) (by simpa using aE)
   simp only at r2 r3 r4
   simp -implicitDefEqProofs [aj,au,r9,w3] at g
   rw [←g]
   apply aF
   ·exact ⟨by simp [r2],by simp [r3],by simp [r4],by simp [aa]⟩
   ·simp
   ·simp
   ·simp
 ·obtain rfl:i=t.sp.length:=by omega
  rw [List.drop_of_length_le (kad _),qH] at ah
  simp -implicitDefEqProofs [zfn,K,h9,t3,o]
  exact ⟨_,s,rfl,Y,⟨by simp [J],by simp [Q],by simp [K],by simp [N]⟩,a,L,ha,by simp [h8],by simpa using hz,ah⟩
theorem zxK (h:Nat):zo Tryz.prog (KN7 h) 28:=by
 have e:=zBH (h:=h)
 refine zzY (L:=LAf h) (K:=KN7 h) (X:=List V × RuD × List V × TfD × V × List (List V)) rfl ?_
 rintro ⟨C,R,D,t,lv,Lo⟩ a s ⟨rfl,Q,v,⟨ad,ah⟩,O,T,⟨an,n⟩,I⟩
 generalize Rk2 _ _=r at e ⊢
 have ai:=ji Q.cells.1
 have aj:=zq2 v.cells.1
 obtain ⟨Z,j,S⟩:=qT s (el:=38) Q.cells.1 Q.cells.2
 generalize zY s (.row C 16 38 false 0 0 0)=s1 at *
 obtain ⟨p,q,E⟩:=qT s1 (el:=45) v.cells.1 v.cells.2
 generalize zY s1 (.row D 4 45 false 0 0 0)=W at *
 have aa:=j.trans q
 have ak:=zdE Lo (fun _=>[iv .i64 t.rule,iv .i64 (-1)]) I t.sp 0
 have hbound:(qH Lo (fun _=>[iv .i64 t.rule,iv .i64 (-1)]) R.ps 0 t.sp).length≤1000000:=by
  have:t.sp.length*(2*Lo.length+80)≤300*(2*300+80):=Nat.mul_le_mul n (by omega)
  omega
 generalize g:(fnC zf 28).run r _ _=c
 simp -implicitDefEqProofs [yY,ai,S,aj,E] at g
 generalize f:jk.run r _ W=o at g
 obtain ⟨N,m,rfl,A,⟨i,-,-,G⟩,a,L,U,k,hz,B⟩:=f▸e ⟨C,R,D,t,lv,Lo,s.nx,s1.nx,W⟩ _ W ⟨⟨⟨Z.ext q,Q.ext aa⟩,⟨p,v.ext aa⟩,⟨ad.ext aa,ah.ext aa⟩,by simp only;omega,n,hbound,I⟩,Ext.refl W,⟨by simp,by simp,by simp,by simp⟩,0,0,[],Nat.zero_le _,Nat.zero_le _,by simp,by simp,.inl ⟨by simp,rfl⟩,by rw [←O] at T;exact T,rfl⟩
 simp only at i k U hz B A
 have J:(AfX.out ⟨C,R,D,t,lv,Lo,s.nx,s1.nx,W⟩).length≤1000000:=hbound
 have ao:L.length≤1000000:=by
  have:=congrArg List.length B
  rw [kae] at this
  omega
 obtain ⟨u,d,hu⟩:=(ad.ext (aa.trans A)).slice (el:=55) (lo:=some (iv .i64 (a:Int))) (hi:=none) (a:=a) (b:=Lo.length) (by omega) (ah.ext (aa.trans A)) (.inr ⟨_,rfl⟩) (.inl ⟨rfl,rfl⟩) U (kad _)
 rw [List.take_of_length_le (by simp)] at hu
 obtain ⟨y,l,w,ae,al,-⟩:=Gz.app_b hz A (by omega) hu (by simp;omega)
 rw [B] at ae
 simp -implicitDefEqProofs [i,k,G,d,w] at g
 have F:∀ x∈qH Lo (fun _=>[iv .i64 t.rule,iv .i64 (-1)]) R.ps 0 t.sp,x.length=2∧∀ y∈x,y≠.bad:=zlb (P:=fun x=>x.length=2∧∀ y∈x,y≠.bad) (fun x M=>⟨ad.sz_ x M,ad.nb x M⟩) (fun z=>⟨rfl,fun y Y=>by
  simp only [kaj,List.not_mem_nil,or_false] at Y
  rcases Y with rfl | rfl<;>exact qG _ _⟩) _ _
 exact ⟨_,l,g.symm,aa.trans al,Gz.rw ae (fun x M=>(F x M).1) (fun x M=>(F x M).2),Gz.fxE ae⟩
def fiB (rs:List RuD) (p:Option (List Int)) (t:TfD):Bool:=decide (0≤t.rule∧t.rule<rs.length) && (lnk p t.bf && zbu (zcH rs t.rule) t)
def zah (rs:List RuD):Option (List Int)→List TfD→Bool
 | _,[]=>true
 | p,t::l=>fiB rs p t && zah rs (some t.af) l
def wdB (t:TfD):Bool:=wOk 200 500 t.bf && wOk 200 500 t.af
theorem zeS (rs:List RuD):∀ (ts:List TfD) (p:Option (List Int)),zaz rs p ts=(ts.all wdB && zah rs p ts)
 | [],p=>rfl
 | t::l,p=>by
  rw [zaz,zah,zeS rs l,List.all_cons,stB,fiB,wdB]
  cases wOk 200 500 t.bf<;>cases wOk 200 500 t.af<;>cases decide (0≤t.rule∧t.rule<rs.length)<;>cases lnk p t.bf<;>cases zbu (zcH rs t.rule) t<;>cases l.all wdB<;>rfl
theorem zlD (h:i<ts.length):zah rs (qo ts i) (ts.drop i)=(fiB rs (qo ts i) ts[i] && zah rs (qo ts (i+1)) (ts.drop (i+1))):=by
 rw [List.drop_eq_getElem_cons h,zah]
 congr 2
 simp [qo,kab h]
noncomputable def KN8 (h:Nat):Nat→Ct
 | 27=>ctI (X:=V × V × List RuD × List TfD) (fun ⟨v,u,rs,ts⟩ a s=>a=[v,u]∧zbY h s v rs∧(∀ r∈rs,psB r)∧zej s u ts∧tsB ts) (fun ⟨_,_,rs,ts⟩ s v U=>Ext s U∧v=.bool (zah rs none ts))
 | f=>KN7 h f
structure FsX where
 v:V
 u:V
 rs:List RuD
 ts:List TfD
 b:S
def FsX.base (h:Nat) (c:FsX):Prop:=(zbY h c.b c.v c.rs∧∀ r∈c.rs,psB r)∧(zej c.b c.u c.ts∧tsB c.ts)
def FsX.pre (h:Nat) (c:FsX) (tm:T) (s:S):Prop:=c.base h∧Ext c.b s∧(gp 0 tm=c.v∧gp 1 tm=c.u∧gp 240 tm=.bad)∧∃ i:Nat,i≤c.ts.length∧gp 5 tm=iv .i64 (i:Int)∧zah c.rs none c.ts=zah c.rs (qo c.ts i) (c.ts.drop i)
def FsX.post (c:FsX) (x:Go.Ev.A):Prop:=(∃ N s,x=.ext 0 N s∧Ext c.b s∧gp 240 N=.bad∧zah c.rs none c.ts=true)∨∃ N s,x=.ret N s∧Ext c.b s∧(gp 4 N=.bool false∧gp 240 N=.bad)∧zah c.rs none c.ts=false
theorem zC9:∀ (c:FsX) tm s,c.pre h tm s→c.post (zbq.run (Rk Tryz.prog (KN8 h) fun _=>ltI (FsX.pre h) FsX.post) tm s):=by
 have hC:=zk (zh (L:=fun _=>ltI (FsX.pre h) FsX.post) (show zo Tryz.prog (KN8 h) 44 from zsx h)) (X:=V × V × List Int × List Int) rfl
 have aX:=zk (zh (L:=fun _=>ltI (FsX.pre h) FsX.post) (show zo Tryz.prog (KN8 h) 54 from zpy h)) (X:=List V × RuD × Nat × V × List (Int × Int × Int)) rfl
 have aY:=zk (zh (L:=fun _=>ltI (FsX.pre h) FsX.post) (show zo Tryz.prog (KN8 h) 55 from zyu h)) (X:=ToX) rfl
 refine zL (L:=fun _=>ltI (FsX.pre h) FsX.post) zt zoG rfl (fun tm _=>9223372036854775808 - (toI (gp 5 tm)).toNat) (fun x a h=>by rcases h with ⟨_,_,rfl,_⟩ | ⟨_,_,rfl,_⟩<;>exact fun h=>h) ?_
 rintro ⟨v,u,rs,ts,b⟩ tm s ⟨hB,w,⟨h0,I,N⟩,i,hi,o,E⟩ IH
 show FsX.post _ (zbq.run _ tm _)
 generalize Rk Tryz.prog _ _=r at IH hC aX aY ⊢
 obtain ⟨⟨⟨⟨aA,aS,bn⟩,aZ⟩,ba⟩,⟨⟨⟨an,aT,bo⟩,aU⟩,bp,bc⟩⟩:=id hB
 simp only at aA aS bn aZ ba an aT bo aU bp bc w h0 I hi E
 have ah:∀ c:V→Go.Ev.A,zm u c=c (iv .i64 (ts.length:Int)):=fun c=>by rw [an.len,aT]
 by_cases O:i<ts.length
 ·have Y:=(aU i O).ext w
  obtain ⟨br,bD,bd⟩:=bc _ (kai O)
  obtain ⟨q,hq,ai⟩:=jE (an.ext w).1 aT O (by rw [zV an w];exact Y.cells.2)
  rw [zV an w] at ai
  obtain ⟨s0,s1,bb,E1,-,nr,st⟩:=zbE s (Z:=[iv .i64 0,.nil 1,.nil 1,.nil 1]) (n:=4) (el:=45) Y.cells.1 rfl Y.cells.2
  have ad:=w.trans E1
  have T1:=bb.tb (Y.ext E1)
  have f0:=T1.f0
  obtain ⟨bv,f1,bt,bE⟩:=T1.f1
  have ak:∀ c:V→Go.Ev.A,zm v c=c (iv .i64 (rs.length:Int)):=fun c=>by rw [aA.len,aS]
  have bad:∀ x U,Ext b U→fiB rs (qo ts i) ts[i]=false→(∃ F,x=.ret F U∧gp 4 F=.bool false∧gp 240 F=.bad)→FsX.post ⟨v,u,rs,ts,b⟩ x:=fun x U e hb ⟨F,M,k⟩=>.inr ⟨F,U,M,e,k,by show zah rs none ts=false;rw [E,zlD O,hb,Bool.false_and]⟩
  have w3:IntKind.i64.wrap ((i:Int)+1)=((i+1:Nat):Int):=w64
  have next:∀ U,Ext b U→fiB rs (qo ts i) ts[i]=true→∀ F,(gp 0 F=v∧gp 1 F=u∧gp 240 F=.bad)→gp 5 F=iv .i64 ((i+1:Nat):Int)→FsX.post ⟨v,u,rs,ts,b⟩ (r.code zaG zcV F U):=fun U e hb F k k5 =>
   IH ⟨v,u,rs,ts,b⟩ F U (by rw [k5,o,zp,zp];omega) ⟨hB,e,k,i+1,O,k5,by show zah rs none ts=_;rw [E,zlD O,hb,Bool.true_and]⟩
  have aV:0<i→∃ p,qo ts i=some p∧∃ q K pv,(∀ k c,ze 4 u (iv k ((i - 1:Nat):Int)) c=c q)∧(∀ c,zb 2 q c=c K)∧(∀ k:V→S→Go.Ev.A,zd false 1 K s1 k=k pv s1)∧Wd s1 pv p:=fun h0=>by
   obtain ⟨j,rfl⟩:∃ j,i=j+1:=⟨i - 1,by omega⟩
   have D:j<ts.length:=by omega
   refine ⟨ts[j].af,by simp [qo,kab D],?_⟩
   obtain ⟨q,d,hP⟩:=(an.ext ad).1.idx (i:=(j:Int)) (by omega) (by omega)
   obtain ⟨K,C,bu⟩:=hP.field 2 (by omega)
   obtain ⟨bF,bg,bG,g,-,bh,-⟩:=aU j D
   refine ⟨q,K,bg,d,C,fun k=>?_,bh.ext ad⟩
   have aB:qg s1 u (j*4+2)=bg:=by
    rw [(an.ext ad).2]
    have:=congrArg (fun l:List V=>l.getD 2 .bad) g
    simpa [rwC] using this
   rw [bu.load1 (by omega) (by simp only [Int.toNat_natCast,Nat.add_zero];rw [aB];exact bh.1.ne) k]
   simp only [Int.toNat_natCast,Nat.add_zero];rw [aB]
  generalize hT:ts[i]=t at *
  unfold fiB at bad next
  by_cases m:t.rule<0
  ·refine bad _ s1 ad (by rw [decide_eq_false (fun h=>by omega)];rfl) ?_
   simp -implicitDefEqProofs [qU,yb,I,o,ah,O,hq,ai,nr,st,f0,m,N]
  by_cases K:(rs.length:Int)≤t.rule
  ·refine bad _ s1 ad (by rw [decide_eq_false (fun h=>by omega)];rfl) ?_
   simp -implicitDefEqProofs [qU,yb,I,o,ah,O,hq,ai,nr,st,f0,m,h0,ak,K,N]
  obtain ⟨k,Q⟩:∃ k:Nat,t.rule=(k:Int):=⟨t.rule.toNat,by omega⟩
  have aE:k<rs.length:=by omega
  have aC:=(aZ k aE).ext ad
  obtain ⟨rq,aw,ao⟩:=jE (aA.ext ad).1 aS aE (by rw [zV aA ad];exact aC.cells.2)
  rw [zV aA ad] at ao
  have bj:zcH rs t.rule=rs[k]:=by simp [zcH,Q,kab aE]
  rw [bj] at bad next
  obtain ⟨bw,bz⟩:=ba _ (kai aE)
  generalize rs[k]=R at *
  obtain ⟨r0,W,b2,E2,-,ax,ay⟩:=zbE s1 (Z:=[iv .i64 0,.nil 1,iv .i64 0,iv .i64 0,iv .i64 0,.str [],iv .i64 0,iv .i64 0,.nil 1,iv .i64 0,iv .i64 0,iv .i64 0,.str [],iv .i64 0,iv .i64 0,.nil 1]) (n:=16) (el:=38) aC.cells.1 rfl aC.cells.2
  have bA:=ad.trans E2
  have aF:=bb.ext E2
  have T2:=aF.tb (Y.ext (E1.trans E2))
  have az:∀ f:V→S→Go.Ev.A,zd true 16 (.ptr s1.nx 0 0) W f=f (.ls 0 (rwC 16 b v k)) W:=b2.all
  obtain ⟨aW,aq,aO,bk⟩:=T2.f1
  obtain ⟨aG,bB,aP⟩:=T2.f2
  obtain ⟨aH,ar,aQ⟩:=T2.f3
  have aj:=aO.lenS
  obtain ⟨_,s3,e3,E3,rfl⟩:=aX (rwC 16 b v k,R,t.bf.length,aH,t.sp) _ W ⟨rfl,aC.ext E2,aQ,bd⟩
  have bl:=bA.trans E3
  have bH:=aF.ext E3
  have same:∀ U (e:Ext W U),(∀ f:V→S→Go.Ev.A,zd false 1 (.ptr s.nx 0 1) U f=f aW U)∧(∀ f:V→S→Go.Ev.A,zd false 1 (.ptr s.nx 0 2) U f=f aG U)∧(∀ f:V→S→Go.Ev.A,zd false 1 (.ptr s.nx 0 3) U f=f aH U)∧∀ f:V→S→Go.Ev.A,zd true 16 (.ptr s1.nx 0 0) U f=f (.ls 0 (rwC 16 b v k)) U:=fun U e=>by
   have c1:∀ j v',j<4→(∀ f:V→S→Go.Ev.A,zd false 1 (.ptr s.nx 0 j) W f=f v' W)→∀ f:V→S→Go.Ev.A,zd false 1 (.ptr s.nx 0 j) U f=f v' U:=fun j v' D h f=>by
    have I:=aF.fld j D (fun v s=>.fin v s)
    rw [h] at I
    injection I with I
    rw [(aF.ext e).fld j D,I]
   exact ⟨c1 1 _ (by omega) aq,c1 2 _ (by omega) bB,c1 3 _ (by omega) ar,(b2.ext e).all⟩
  obtain ⟨aJ,aK,aL,aM⟩:=same s3 E3
  rw [Q] at f0 m K
  have aR:decide (0≤t.rule∧t.rule<(rs.length:Int))=true:=decide_eq_true ⟨by omega,by omega⟩
  have core:(lnk (qo ts i) t.bf=true)→∃ U,Ext b U∧((yS R.ps.length t.bf.length 0 t.sp=false∧U=s3∧zbu R t=false)∨∃ y s4 z,yS R.ps.length t.bf.length 0 t.sp=true∧r.call 55 [.ls 0 (rwC 16 b v k),aW,aH] s3=.ret y s4∧(∀ f:V→S→Go.Ev.A,zd false 1 (.ptr s.nx 0 2) s4 f=f aG s4)∧r.call 44 [y,aG] s4=.ret (iv .i64 z) s4∧U=s4∧(z=0↔zbu R t=true)):=fun J=>by
   cases ae:yS R.ps.length t.bf.length 0 t.sp with
   | false=>exact ⟨s3,bl,.inl ⟨rfl,rfl,by rw [zbu,ae];rfl⟩⟩
   | true =>
    obtain ⟨y,s4,e4,E4,G⟩:=aY ⟨rwC 16 b v k,R,aW,t.bf,aH,t.sp⟩ _ s3 ⟨rfl,(aC.ext E2).ext E3,⟨aO.ext E3,bk⟩,aQ.ext E3,ae,br,bd,bw,bz⟩
    obtain ⟨_,s5,e5,rfl,z,rfl,hz⟩:=hC (y,aG,_,_) _ s4 ⟨rfl,G,(aP.ext E3).ext E4⟩
    refine ⟨s5,bl.trans E4,.inr ⟨y,s5,z,rfl,e4,(same s5 (E3.trans E4)).2.1,e5,rfl,?_⟩⟩
    rw [hz,zbu,ae,Bool.true_and]
    exact ⟨fun h=>decide_eq_true h,fun h=>of_decide_eq_true h⟩
  have aN:=zt2 aP.1.1
  by_cases al:0<i
  ·obtain ⟨p,B,qq,bI,pv,d,C,g3,bC⟩:=aV al
   have w1:IntKind.i64.wrap ((i:Int) - 1)=((i - 1:Nat):Int):=w64
   obtain ⟨_,s1,T,rfl,z1,rfl,bm⟩:=hC (bv,pv,_,_) _ s1 ⟨rfl,bt,bC⟩
   by_cases c3:z1=0
   ·have J:lnk (qo ts i) t.bf=true:=by rw [B];exact decide_eq_true (bm.1 c3).symm
    obtain ⟨U,au,⟨ae,rfl,aa⟩ | ⟨y,s4,z,ae,e4,aD,e5,rfl,hz⟩⟩:=core J
    ·rw [ae] at e3
     refine bad _ _ au (by rw [aa];simp) ?_
     simp -implicitDefEqProofs [qU,yb,I,o,ah,O,hq,ai,nr,st,f0,m,h0,ak,K,al,w1,f1,d,C,g3,T,c3,aw,ao,ax,ay,az,aq,aj,ar,e3,N]
    ·rw [ae] at e3
     cases aa:zbu R t with
     | false =>
      have av:¬z=0:=fun h=>by rw [hz.1 h] at aa;cases aa
      refine bad _ _ au (by rw [aa];simp) ?_
      simp -implicitDefEqProofs [qU,yb,I,o,ah,O,hq,ai,nr,st,f0,m,h0,ak,K,al,w1,f1,d,C,g3,T,c3,aw,ao,ax,ay,az,aq,aj,ar,e3,aM,aJ,aL,aK,e4,aD,aN,e5,av,N]
     | true =>
      have av:z=0:=hz.2 aa
      have next:=next _ au (by rw [aR,J,aa];rfl)
      simp -implicitDefEqProofs [qU,yb,I,o,ah,O,hq,ai,nr,st,f0,m,h0,ak,K,al,w1,f1,d,C,g3,T,c3,aw,ao,ax,ay,az,aq,aj,ar,e3,aM,aJ,aL,aK,e4,aD,aN,e5,av,w3]
      apply next<;>simp [h0,I,N]
   ·have J:lnk (qo ts i) t.bf=false:=by rw [B];exact decide_eq_false fun h=>c3 (bm.2 h.symm)
    refine bad _ _ ad (by rw [J];simp) ?_
    simp -implicitDefEqProofs [qU,yb,I,o,ah,O,hq,ai,nr,st,f0,m,h0,ak,K,al,w1,f1,d,C,g3,T,c3,N]
  ·have J:lnk (qo ts i) t.bf=true:=by
    obtain rfl:i=0:=by omega
    rfl
   have q0:((0:Int)<(i:Int))=False:=eq_false (by omega)
   obtain ⟨U,au,⟨ae,rfl,aa⟩ | ⟨y,s4,z,ae,e4,aD,e5,rfl,hz⟩⟩:=core J
   ·rw [ae] at e3
    refine bad _ _ au (by rw [aa];simp) ?_
    simp -implicitDefEqProofs [qU,yb,I,o,ah,O,hq,ai,nr,st,f0,m,h0,ak,K,al,aw,ao,ax,ay,az,aq,aj,ar,e3,N]
   ·rw [ae] at e3
    cases aa:zbu R t with
    | false =>
     have av:¬z=0:=fun h=>by rw [hz.1 h] at aa;cases aa
     refine bad _ _ au (by rw [aa];simp) ?_
     simp -implicitDefEqProofs [qU,yb,I,o,ah,O,hq,ai,nr,st,f0,m,h0,ak,K,al,aw,ao,ax,ay,az,aq,aj,ar,e3,aM,aJ,aL,aK,e4,aD,aN,e5,av,N]
    | true =>
     have av:z=0:=hz.2 aa
     have next:=next _ au (by rw [aR,J,aa];rfl)
     simp -implicitDefEqProofs [qU,yb,I,o,ah,O,hq,ai,nr,st,f0,m,h0,ak,K,al,aw,ao,ax,ay,az,aq,aj,ar,e3,aM,aJ,aL,aK,e4,aD,aN,e5,av,w3]
     apply next<;>simp [h0,I,N]
 ·obtain rfl:i=ts.length:=by omega
  rw [List.drop_of_length_le (kad _),zah] at E
  simp -implicitDefEqProofs [qU,yb,I,ah,o]
  exact .inl ⟨_,s,rfl,w,by simp [N],E⟩
theorem zsK (h:Nat):zo Tryz.prog (KN8 h) 27:=by
 have e:=zC9 (h:=h)
 refine zr (L:=fun _=>ltI (FsX.pre h) FsX.post) zt (K:=KN8 h) (X:=V × V × List RuD × List TfD) rfl ?_
 rintro ⟨v,u,rs,ts⟩ a s ⟨rfl,J,I,B,Q⟩
 generalize Rk Tryz.prog _ _=r at e ⊢
 generalize g:(fnC zf 27).run r _ _=D
 simp -implicitDefEqProofs [yb] at g
 generalize f:zbq.run r _ s=U at g
 rcases f▸e ⟨v,u,rs,ts,s⟩ _ s ⟨⟨⟨J,I⟩,B,Q⟩,Ext.refl s,⟨by simp,by simp,by simp⟩,0,Nat.zero_le _,by simp,rfl⟩ with ⟨N,s1,rfl,E,G,T⟩ | ⟨N,s1,rfl,E,⟨p,G⟩,T⟩
 ·simp -implicitDefEqProofs [G] at g
  exact ⟨_,s1,g.symm,E,by rw [show zah rs none ts=true from T]⟩
 ·simp -implicitDefEqProofs [G,p] at g
  exact ⟨_,s1,g.symm,E,by rw [show zah rs none ts=false from T]⟩
theorem znS (h:zej s u ts) (hi:i<ts.length):∃ q C N d bv f,(∀ k c,ze 4 u (iv k (i:Int)) c=c q)∧(∀ k:V→S→Go.Ev.A,zd true 4 q s k=k (.ls 0 (rwC 4 s u i)) s) ∧
  ((∀ c,zb 0 q c=c C)∧∀ k:V→S→Go.Ev.A,zd false 1 C s k=k (iv .i64 ts[i].rule) s)∧((∀ c,zb 1 q c=c N)∧(∀ k:V→S→Go.Ev.A,zd false 1 N s k=k bv s)∧Wd s bv ts[i].bf)∧(∀ c,zb 2 q c=c d)∧(∀ k:V→S→Go.Ev.A,zd false 1 d s k=k f s)∧Wd s f ts[i].af:=by
 obtain ⟨⟨I,J,Q⟩,K⟩:=h
 have e:Rw s 4 u ((List.range ts.length).map (rwC 4 s u)):=by
  refine ⟨I,by simp [J],fun x M=>?_,fun x M=>?_,fun i j hi G=>?_⟩
  ·obtain ⟨j,G,rfl⟩:=kau.1 M
   simp [rwC]
  ·obtain ⟨j,G,rfl⟩:=kau.1 M
   exact (K j (kaM.1 G)).cells.2
  ·have E:i<ts.length:=by simpa using hi
   simp [E,rwC,G]
 have F:i<((List.range ts.length).map (rwC 4 s u)).length:=by simpa using hi
 obtain ⟨q,T,D,o⟩:=e.fld F
 have X:((List.range ts.length).map (rwC 4 s u))[i]=rwC 4 s u i:=by simp
 rw [X] at D o
 obtain ⟨C,a0,b0⟩:=o 0 (by omega)
 obtain ⟨N,a1,Z⟩:=o 1 (by omega)
 obtain ⟨d,a2,p⟩:=o 2 (by omega)
 obtain ⟨bv,f,B,O,⟨z,-⟩,R,-⟩:=K i hi
 rw [O] at b0 Z p
 exact ⟨q,C,N,d,bv,f,T,D,⟨a0,b0⟩,⟨a1,Z,z⟩,a2,p,R⟩
noncomputable def KN9 (h:Nat):Nat→Ct
 | 8=>ctI (X:=V × V × List RuD × List TfD) (fun ⟨v,u,rs,ts⟩ a s=>a=[v,u]∧zbY h s v rs∧yd s∧(∀ r∈rs,RuS r)∧zej s u ts∧tsB ts) (fun ⟨_,_,rs,ts⟩ s v U=>Ext s U∧∃ y,v=.ls 1 [y,iv .i64 (if okT rs ts then 0 else 1)]∧Rw U 2 y (if okT rs ts then zao rs ts else []))
 | f=>KN8 h f
structure RoX where
 v:V
 u:V
 rs:List RuD
 ts:List TfD
 b:S
def RoX.base (h:Nat) (c:RoX):Prop:=(zbY h c.b c.v c.rs∧yd c.b∧∀ r∈c.rs,RuS r)∧(zej c.b c.u c.ts∧tsB c.ts)
def RoX.reg (c:RoX) (tm:T):Prop:=gp 0 tm=c.v∧gp 1 tm=c.u∧gp 240 tm=.bad
def RoX.fail (c:RoX) (x:Go.Ev.A):Prop:=∃ N s,x=.ret N s∧Ext c.b s∧gp 4 N=.nil 1∧gp 5 N=iv .i64 1∧gp 240 N=.bad
def RoX.pre14 (h:Nat) (c:RoX) (tm:T) (s:S):Prop:=c.base h∧Ext c.b s∧c.reg tm∧∃ i:Nat,i≤c.rs.length∧gp 6 tm=iv .i64 (i:Int)∧(c.rs.take i).all zca=true
def RoX.post14 (c:RoX) (x:Go.Ev.A):Prop:=(∃ N s,x=.ext 0 N s∧Ext c.b s∧c.reg N∧c.rs.all zca=true)∨(c.fail x∧c.rs.all zca=false)
def RoX.pre35 (h:Nat) (c:RoX) (tm:T) (s:S):Prop:=c.base h∧Ext c.b s∧c.reg tm∧∃ i:Nat,i≤c.ts.length∧gp 7 tm=iv .i64 (i:Int)∧(c.ts.take i).all wdB=true
def RoX.post35 (c:RoX) (x:Go.Ev.A):Prop:=(∃ N s,x=.ext 2 N s∧Ext c.b s∧c.reg N∧c.ts.all wdB=true)∨(c.fail x∧c.ts.all wdB=false)
def RoX.pre66 (h:Nat) (c:RoX) (tm:T) (s:S):Prop:=(c.base h∧(∀ r∈c.rs,psB r)∧zaz c.rs none c.ts=true)∧Ext c.b s∧c.reg tm∧∃ (i:Nat) (lv:V) (Lo:List (List V)),i≤c.ts.length∧gp 9 tm=iv .i64 (i:Int)∧gp 8 tm=lv∧Rw s 2 lv Lo∧FxE 55 s lv∧((i=0∧Lo=[]∧lv=.nil 1)∨(0<i∧(∀ p,qo c.ts i=some p→Lo.length=p.length)∧zcS c.rs Lo (c.ts.drop i)=zao c.rs c.ts))
def RoX.post66 (c:RoX) (x:Go.Ev.A):Prop:=∃ N s,x=.ext 4 N s∧Ext c.b s∧gp 240 N=.bad∧Rw s 2 (gp 8 N) (zao c.rs c.ts)
structure R8X where
 c:RoX
 i:Nat
 n:Nat
def R8X.pre (h:Nat) (d:R8X) (tm:T) (s:S):Prop:=(d.c.base h∧∃ hi:d.i<d.c.ts.length,d.c.ts[d.i].bf.length=d.n)∧Ext d.c.b s∧(d.c.reg tm∧gp 9 tm=iv .i64 (d.i:Int))∧∃ j:Nat,j≤d.n∧gp 10 tm=iv .i64 (j:Int)∧Gz 55 2 d.c.b s (gp 8 tm) (ww j)
def R8X.post (d:R8X) (x:Go.Ev.A):Prop:=∃ N s,x=.ext 6 N s∧Ext d.c.b s∧(d.c.reg N∧gp 9 N=iv .i64 (d.i:Int))∧Gz 55 2 d.c.b s (gp 8 N) (ww d.n)
noncomputable def LRo (h:Nat):Nat→Lt
 | 32=>ltI (RoX.pre14 h) RoX.post14
 | 42=>ltI (RoX.pre35 h) RoX.post35
 | 28=>ltI (R8X.pre h) R8X.post
 | _=>ltI (RoX.pre66 h) RoX.post66
theorem zwp:∀ (c:RoX) tm s,c.pre14 h tm s→c.post14 (zbe.run (Rk Tryz.prog (KN9 h) (LRo h)) tm s):=by
 have p:=zk (zh (L:=LRo h) (show zo Tryz.prog (KN9 h) 25 from zDc h)) (X:=List V × RuD) rfl
 refine zL (L:=LRo h) zt zpJ rfl (fun tm _=>9223372036854775808 - (toI (gp 6 tm)).toNat) (fun x a h=>by rcases h with ⟨_,_,rfl,_⟩ | ⟨⟨_,_,rfl,_⟩,_⟩<;>exact fun h=>h) ?_
 rintro ⟨v,u,rs,ts,b⟩ tm s ⟨y,Y,⟨h0,I,N⟩,i,hi,t,E⟩ J
 show RoX.post14 _ (zbe.run _ tm _)
 generalize Rk Tryz.prog _ _=r at J p ⊢
 obtain ⟨⟨⟨⟨Z,f,D⟩,M⟩,K,hz⟩,-⟩:=id y
 simp only at Z f D M K hz Y h0 I hi E
 have o:∀ c:V→Go.Ev.A,zm v c=c (iv .i64 (rs.length:Int)):=fun c=>by rw [Z.len,f]
 by_cases O:i<rs.length
 ·have B:=(M i O).ext Y
  have C:=hz _ (kai O)
  obtain ⟨q,U,z⟩:=jE (Z.ext Y).1 f O (by rw [zV Z Y];exact B.cells.2)
  rw [zV Z Y] at z
  obtain ⟨_,W,T,j,rfl⟩:=p (rwC 16 b v i,rs[i]) _ s ⟨rfl,B,K.ext Y,C⟩
  have n:IntKind.i64.wrap ((i:Int)+1)=((i+1:Nat):Int):=w64
  cases Q:zca rs[i] with
  | false =>
   rw [Q] at T
   simp -implicitDefEqProofs [zd0,h0,t,o,O,U,z,T]
   exact .inr ⟨⟨_,W,rfl,Y.trans j,by simp,by simp,by simp [N]⟩,zdO O Q⟩
  | true =>
   rw [Q] at T
   have next:∀ F,RoX.reg ⟨v,u,rs,ts,b⟩ F→gp 6 F=iv .i64 ((i+1:Nat):Int)→RoX.post14 ⟨v,u,rs,ts,b⟩ (r.code qY zda F W):=fun F k d =>
    J ⟨v,u,rs,ts,b⟩ F W (by rw [d,t,zp,zp];omega) ⟨y,Y.trans j,k,i+1,O,d,by rw [zcA O,E];exact Q⟩
   simp -implicitDefEqProofs [zd0,h0,t,o,O,U,z,T,n]
   apply next
   ·exact ⟨by simp [h0],by simp [I],by simp [N]⟩
   ·simp
 ·obtain rfl:i=rs.length:=by omega
  rw [List.take_length] at E
  simp -implicitDefEqProofs [zd0,h0,t,o]
  exact .inl ⟨_,s,rfl,Y,⟨by simp [h0],by simp [I],by simp [N]⟩,E⟩
theorem zwG:∀ (c:RoX) tm s,c.pre35 h tm s→c.post35 (za8.run (Rk Tryz.prog (KN9 h) (LRo h)) tm s):=by
 have K:=zk (zh (L:=LRo h) (show zo Tryz.prog (KN9 h) 26 from zx3 h)) (X:=V × List Int) rfl
 refine zL (L:=LRo h) zt zpq rfl (fun tm _=>9223372036854775808 - (toI (gp 7 tm)).toNat) (fun x a h=>by rcases h with ⟨_,_,rfl,_⟩ | ⟨⟨_,_,rfl,_⟩,_⟩<;>exact fun h=>h) ?_
 rintro ⟨v,u,rs,ts,b⟩ tm s ⟨y,Y,⟨h0,I,N⟩,i,hi,g,E⟩ J
 show RoX.post35 _ (za8.run _ tm _)
 generalize Rk Tryz.prog _ _=r at J K ⊢
 obtain ⟨-,B,G,-⟩:=id y
 simp only at B G Y h0 I hi E
 have o:∀ c:V→Go.Ev.A,zm u c=c (iv .i64 (ts.length:Int)):=fun c=>by rw [B.1.1.len,B.1.2.1]
 by_cases O:i<ts.length
 ·obtain ⟨q,C,j,d,bv,f,U,-,-,⟨a1,Z,z⟩,a2,p,R⟩:=znS (B.ext Y) O
  obtain ⟨_,s,T,rfl,rfl⟩:=K (bv,_) _ s ⟨rfl,z⟩
  obtain ⟨_,s,D,rfl,rfl⟩:=K (f,_) _ s ⟨rfl,R⟩
  have n:IntKind.i64.wrap ((i:Int)+1)=((i+1:Nat):Int):=w64
  have bad:∀ x,wdB ts[i]=false→(∃ F,x=.ret F s∧gp 4 F=.nil 1∧gp 5 F=iv .i64 1∧gp 240 F=.bad)→RoX.post35 ⟨v,u,rs,ts,b⟩ x:=fun x hb ⟨F,M,k⟩=>.inr ⟨⟨F,s,M,Y,k⟩,zdO O hb⟩
  have next:wdB ts[i]=true→∀ F,RoX.reg ⟨v,u,rs,ts,b⟩ F→gp 7 F=iv .i64 ((i+1:Nat):Int)→RoX.post35 ⟨v,u,rs,ts,b⟩ (r.code qY zc5 F s):=fun m F k e =>
   J ⟨v,u,rs,ts,b⟩ F s (by rw [e,g,zp,zp];omega) ⟨y,Y,k,i+1,O,e,by rw [zcA O,E];exact m⟩
  unfold wdB at bad next
  generalize ts[i]=t at *
  cases c1:wOk 200 500 t.bf with
  | false =>
   rw [c1] at T
   refine bad _ (by rw [c1];rfl) ?_
   simp -implicitDefEqProofs [zbJ,qp,I,g,o,O,U,a1,Z,T,N]
  | true =>
   rw [c1] at T
   cases c2:wOk 200 500 t.af with
   | false =>
    rw [c2] at D
    refine bad _ (by rw [c2,Bool.and_false]) ?_
    simp -implicitDefEqProofs [zbJ,qp,I,g,o,O,U,a1,Z,T,a2,p,D,N]
   | true =>
    rw [c2] at D
    have next:=next (by rw [c1,c2];rfl)
    simp -implicitDefEqProofs [zbJ,qp,I,g,o,O,U,a1,Z,T,a2,p,D,n]
    apply next
    ·exact ⟨by simp [h0],by simp [I],by simp [N]⟩
    ·simp
 ·obtain rfl:i=ts.length:=by omega
  rw [List.take_length] at E
  simp -implicitDefEqProofs [zbJ,qp,I,g,o]
  exact .inl ⟨_,s,rfl,Y,⟨by simp [h0],by simp [I],by simp [N]⟩,E⟩
theorem zwE:∀ (d:R8X) tm s,d.pre h tm s→d.post (za6.run (Rk Tryz.prog (KN9 h) (LRo h)) tm s):=by
 refine zL (L:=LRo h) zt zpo rfl (fun tm _=>9223372036854775808 - (toI (gp 10 tm)).toNat) (fun x a ⟨_,_,h,_⟩=>by rw [h];exact fun h=>h) ?_
 rintro ⟨⟨v,u,rs,ts,b⟩,i,n⟩ tm s ⟨⟨R,hi,o⟩,Y,⟨⟨h0,I,N⟩,K⟩,j,G,D,hz⟩ J
 show R8X.post _ (za6.run _ tm _)
 generalize Rk Tryz.prog _ _=r at J ⊢
 obtain ⟨-,Q,aa,X⟩:=id R
 simp only at Q aa X Y h0 I hi o K G hz
 obtain ⟨ae,-⟩:=X _ (kai hi)
 obtain ⟨q,e,m,p,bv,av,E,-,-,⟨a1,M,z⟩,-⟩:=znS (Q.ext Y) hi
 have S:∀ c:V→Go.Ev.A,zm bv c=c (iv .i64 (n:Int)):=fun c=>by rw [z.lenS,o]
 by_cases O:j<n
 ·obtain ⟨Z,U,t,ap,T,W,-⟩:=zhy (x:=-1) (y:=(j:Int)) hz Y (by simp [ww];omega)
  have ad:∀ x:V,upd [x] 0 [iv .i64 0,iv .i64 0]=[x,iv .i64 0]:=fun _=>rfl
  have up1:∀ x y:V,upd [y] 1 [x,iv .i64 0]=[x,y]:=fun _ _=>rfl
  have up:∀ B C:V,upd [B,C] 0 (Go.Ev.rep [iv .i64 0,iv .i64 0] 1)=[B,C]:=fun _ _=>rfl
  have w:∀ (B C:V) (c:List V→Go.Ev.A),zg 2 (.ls 0 [B,C]) c=c [B,C]:=fun B C c=>yg 2 _ rfl c
  have ng:∀ c:List V→Go.Ev.A,zg 1 (.neg .i64 0) c=c [iv .i64 (-1)]:=fun _=>rfl
  have f:IntKind.i64.wrap ((j:Int)+1)=((j+1:Nat):Int):=w64
  have next:∀ F,(RoX.reg ⟨v,u,rs,ts,b⟩ F∧gp 9 F=iv .i64 (i:Int))→gp 10 F=iv .i64 ((j+1:Nat):Int)→gp 8 F=Z→R8X.post ⟨⟨v,u,rs,ts,b⟩,i,n⟩ (r.code qY zc2 F U):=fun F k g l =>
   J ⟨⟨v,u,rs,ts,b⟩,i,n⟩ F U (by rw [g,D,zp,zp];omega) ⟨⟨R,hi,o⟩,W,k,j+1,O,g,by rw [l];simpa [ww,List.range_succ] using T⟩
  simp -implicitDefEqProofs [zid,I,K,D,E,a1,M,S,O,ng,ad,up1,up,w,t,ap,f]
  apply next
  ·exact ⟨⟨by simp [h0],by simp [I],by simp [N]⟩,by simp [K]⟩
  ·simp
  ·simp
 ·obtain rfl:j=n:=by omega
  simp -implicitDefEqProofs [zid,I,K,D,E,a1,M,S]
  exact ⟨_,s,rfl,Y,⟨⟨by simp [h0],by simp [I],by simp [N]⟩,by simp [K]⟩,by simpa using hz⟩
theorem zxj:∀ (c:RoX) tm s,c.pre66 h tm s→c.post66 (wO.run (Rk Tryz.prog (KN9 h) (LRo h)) tm s):=by
 have aE:=zwE (h:=h)
 have B:=zk (zh (L:=LRo h) (show zo Tryz.prog (KN9 h) 28 from zxK h)) (X:=List V × RuD × List V × TfD × V × List (List V)) rfl
 refine zL (L:=LRo h) zt zpz rfl (fun tm _=>9223372036854775808 - (toI (gp 9 tm)).toNat) (fun x a ⟨_,_,h,_⟩=>by rw [h];exact fun h=>h) ?_
 rintro ⟨v,u,rs,ts,b⟩ tm s ⟨⟨R,aw,ai⟩,w,⟨h0,I,N⟩,i,lv,Lo,hi,h9,h8,ax,aN,al⟩ T
 show RoX.post66 _ (wO.run _ tm _)
 generalize Rk Tryz.prog _ _=r at T aE B ⊢
 obtain ⟨⟨⟨⟨an,aF,aO⟩,aG⟩,-,-⟩,ae,aP,aH⟩:=id R
 simp only at an aF aO aG ae aP aH w h0 I hi aw ai al
 have o:∀ c:V→Go.Ev.A,zm u c=c (iv .i64 (ts.length:Int)):=fun c=>by rw [ae.1.1.len,ae.1.2.1]
 by_cases O:i<ts.length
 ·obtain ⟨-,aJ⟩:=zxx ai i O
  obtain ⟨⟨aZ,ba⟩,ar,ad⟩:=ze1 aJ
  have ay:=zjW ad
  obtain ⟨aK,aY,aL⟩:=aH _ (kai O)
  obtain ⟨k,Q⟩:∃ k:Nat,ts[i].rule=(k:Int):=⟨ts[i].rule.toNat,by omega⟩
  have ao:k<rs.length:=by omega
  have au:zcH rs ts[i].rule=rs[k]:=by simp [zcH,Q,kab ao]
  obtain ⟨aQ,bb⟩:=aw _ (kai ao)
  have w3:IntKind.i64.wrap ((i:Int)+1)=((i+1:Nat):Int):=w64
  have az:∀ L2,zcS rs L2 (ts.drop i)=zao rs ts→zcS rs (qH L2 (fun _=>[iv .i64 ts[i].rule,iv .i64 (-1)]) (zcH rs ts[i].rule).ps 0 ts[i].sp) (ts.drop (i+1))=zao rs ts:=fun L2 hg=>by
   rw [List.drop_eq_getElem_cons O,zcS] at hg
   exact hg
  have Y:=ae.2 i O
  have core:∀ W aj L2,Ext b W→Rw W 2 aj L2→FxE 55 W aj→L2.length=ts[i].bf.length→zcS rs L2 (ts.drop i)=zao rs ts→∃ q q0 rq y n,(∀ k c,ze 4 u (iv k (i:Int)) c=c q)∧(∀ c,zb 0 q c=c q0)∧(∀ f:V→S→Go.Ev.A,zd false 1 q0 W f=f (iv .i64 (k:Int)) W)∧(∀ j c,ze 16 v (iv j (k:Int)) c=c rq)∧(∀ f:V→S→Go.Ev.A,zd true 16 rq W f=f (.ls 0 (rwC 16 b v k)) W)∧(∀ f:V→S→Go.Ev.A,zd true 4 q W f=f (.ls 0 (rwC 4 b u i)) W)∧r.call 28 [.ls 0 (rwC 16 b v k),.ls 0 (rwC 4 b u i),aj] W=.ret y n ∧
    ∀ F,RoX.reg ⟨v,u,rs,ts,b⟩ F→gp 9 F=iv .i64 ((i+1:Nat):Int)→gp 8 F=y→RoX.post66 ⟨v,u,rs,ts,b⟩ (r.code qY zdd F n):=fun W aj L2 e aR aS C hg=>by
   obtain ⟨q,q0,m,K,bv,av,U,hQ,⟨a0,b0⟩,-⟩:=znS (ae.ext e) O
   rw [zV ae.1.1 e] at hQ
   rw [Q] at b0
   have aM:=(aG k ao).ext e
   obtain ⟨rq,ak,ah⟩:=jE (an.ext e).1 aF ao (by rw [zV an e];exact aM.cells.2)
   rw [zV an e] at ah
   have aT:yS rs[k].ps.length ts[i].bf.length 0 ts[i].sp=true:=by
    rw [au] at ad
    simp only [zbu,kaf] at ad
    exact ad.1
   obtain ⟨y,n,e3,E3,d,aU⟩:=B (rwC 16 b v k,rs[k],rwC 4 b u i,ts[i],aj,L2) _ W ⟨rfl,aM,Y.ext e,⟨aR,aS⟩,C,aT,⟨aK,aL⟩,aQ⟩
   refine ⟨q,q0,rq,y,n,U,a0,b0,ak,ah,hQ,e3,fun F kr k9 k8=>?_⟩
   rw [←au] at d
   refine T ⟨v,u,rs,ts,b⟩ F n (by rw [k9,h9,zp,zp];omega) ⟨⟨R,aw,ai⟩,e.trans E3,kr,i+1,y,_,O,k9,k8,d,aU,.inr ⟨Nat.succ_pos _,fun p Z=>?_,az _ hg⟩⟩
   have:p=ts[i].af:=by simpa [qo,kab O] using Z.symm
   rw [this,←ay,zac C _ id]
  by_cases aq:i=0
  ·have aA:((i:Int)=0)=True:=eq_true (by omega)
   have aV:(i=0)=True:=eq_true aq
   have aa:zcS rs (ww ts[i].bf.length) (ts.drop i)=zao rs ts:=by
    subst aq
    cases ts with
    | nil=>cases O
    | cons t l=>rfl
   obtain ⟨rfl,rfl⟩:Lo=[]∧lv=.nil 1:=by
    rcases al with ⟨-,h⟩ | ⟨h,-⟩
    ·exact h
    ·omega
   generalize g:wO.run r tm s=F0
   simp -implicitDefEqProofs [zdH,I,h9,o,O,aV] at g
   generalize E:za6.run r _ s=A1 at g
   obtain ⟨aW,W,rfl,J,⟨⟨k0,z,G⟩,k9⟩,aB⟩:=E▸aE ⟨⟨v,u,rs,ts,b⟩,i,ts[i].bf.length⟩ _ s ⟨⟨R,O,rfl⟩,w,⟨⟨by simp [h0],by simp [I],by simp [N]⟩,by simp [h9]⟩,0,Nat.zero_le _,by simp,.inl ⟨by simp [h8],rfl⟩⟩
   simp only at J k0 z k9 aB
   obtain ⟨q,q0,rq,y,n,U,a0,b0,ak,ah,hQ,e3,aC⟩:=core W (gp 8 aW) _ J (Gz.rw aB (fun x M=>by obtain ⟨j,_,rfl⟩:=kau.1 M;rfl) (fun x M=>by
    obtain ⟨j,_,rfl⟩:=kau.1 M
    intro y d
    simp only [kaj,List.not_mem_nil,or_false] at d
    rcases d with rfl | rfl<;>exact qG _ _)) (Gz.fxE aB) (by simp [ww]) aa
   simp -implicitDefEqProofs [k0,z,k9,U,a0,b0,ak,ah,hQ,e3,w3] at g
   rw [←g]
   apply aC
   ·exact ⟨by simp [k0],by simp [z],by simp [G]⟩
   ·simp
   ·simp
  ·have aA:((i:Int)=0)=False:=eq_false (by omega)
   obtain ⟨-,aX,aa⟩:0<i∧(∀ p,qo ts i=some p→Lo.length=p.length)∧zcS rs Lo (ts.drop i)=zao rs ts:=by
    rcases al with ⟨h,-⟩ | h
    ·exact absurd h aq
    ·exact h
   have aD:Lo.length=ts[i].bf.length:=by
    obtain ⟨j,rfl⟩:∃ j,i=j+1:=⟨i - 1,by omega⟩
    have D:j<ts.length:=by omega
    have Z:qo ts (j+1)=some ts[j].af:=by simp [qo,kab D]
    rw [Z] at ar
    rw [aX _ Z,of_decide_eq_true ar]
   obtain ⟨q,q0,rq,y,n,U,a0,b0,ak,ah,hQ,e3,aC⟩:=core s lv Lo w ax aN aD aa
   simp -implicitDefEqProofs [zdH,h0,I,h8,h9,o,O,aq,U,a0,b0,ak,ah,hQ,e3,w3]
   apply aC
   ·exact ⟨by simp [h0],by simp [I],by simp [N]⟩
   ·simp
   ·simp
 ·obtain rfl:i=ts.length:=by omega
  simp -implicitDefEqProofs [zdH,I,h9,o]
  refine ⟨_,s,rfl,w,by simp [N],?_⟩
  simp only 
  show Rw s 2 (gp 8 tm) (zao rs ts)
  rw [h8]
  rcases al with ⟨h,rfl,-⟩ | ⟨-,-,h⟩
  ·obtain rfl:ts=[]:=kap.1 h
   exact ax
  ·rw [←h,List.drop_of_length_le (kad _),zcS];exact ax
theorem zve (h:Nat):zo Tryz.prog (KN9 h) 8:=by
 have E:=zwp (h:=h)
 have an:=zwG (h:=h)
 have ao:=zxj (h:=h)
 have aq:=zk (zh (L:=LRo h) (show zo Tryz.prog (KN9 h) 27 from zsK h)) (X:=V × V × List RuD × List TfD) rfl
 refine zr (L:=LRo h) zt (K:=KN9 h) (X:=V × V × List RuD × List TfD) rfl ?_
 rintro ⟨v,u,rs,ts⟩ a s ⟨rfl,J,z,av,B,ar⟩
 generalize Rk Tryz.prog _ _=r at E an ao aq ⊢
 show ∃ (Z:V) (U:S),_∧Ext s U∧∃ y,Z=V.ls 1 [y,iv .i64 (if okT rs ts then 0 else 1)]∧Rw U 2 y (if okT rs ts then zao rs ts else [])
 have aa:∀ c:V→Go.Ev.A,zm v c=c (iv .i64 (rs.length:Int)):=fun c=>by rw [J.1.1.len,J.1.2.1]
 have aj:∀ c:V→Go.Ev.A,zm u c=c (iv .i64 (ts.length:Int)):=fun c=>by rw [B.1.1.len,B.1.2.1]
 have ad:∀ U,Rw U 2 (.nil 1) []:=fun U=>⟨.inl (.inl rfl),rfl,(fun x M=>by cases M),(fun x M=>by cases M),fun i j hi=>by cases hi⟩
 have bad:∀ {F0:F} U,okT rs ts=false→F0=.ret (.ls 1 [.nil 1,iv .i64 1]) U→Ext s U→∃ (Z:V) (U:S),F0=.ret Z U∧Ext s U∧∃ y,Z=V.ls 1 [y,iv .i64 (if okT rs ts then 0 else 1)]∧Rw U 2 y (if okT rs ts then zao rs ts else []):=fun U C Q e=>⟨_,U,Q,e,.nil 1,by rw [C];rfl,by rw [C];exact ad U⟩
 by_cases m:100<rs.length
 ·refine bad s (by rw [okT,decide_eq_false (fun h=>by omega)];rfl) ?_ (Ext.refl s)
  have ae:(100<(rs.length:Int))=True:=eq_true (by omega)
  simp -implicitDefEqProofs [qp,aa,ae]
 by_cases d:100<ts.length
 ·refine bad s (by rw [okT,decide_eq_false (fun h=>by omega)];rfl) ?_ (Ext.refl s)
  have ae:(100<(rs.length:Int))=False:=eq_false (by omega)
  have al:(100<(ts.length:Int))=True:=eq_true (by omega)
  simp -implicitDefEqProofs [qp,aa,ae,aj,al]
 have ae:(100<(rs.length:Int))=False:=eq_false (by omega)
 have al:(100<(ts.length:Int))=False:=eq_false (by omega)
 have au:decide (rs.length≤100∧ts.length≤100)=true:=decide_eq_true ⟨by omega,by omega⟩
 have R:RoX.base h ⟨v,u,rs,ts,s⟩:=⟨⟨J,z,av⟩,B,ar⟩
 generalize g:(fnC zf 8).run r _ _=F0
 simp -implicitDefEqProofs [qp,aa,ae,aj,al] at g
 generalize f:zbe.run r _ s=A1 at g
 rcases f▸E ⟨v,u,rs,ts,s⟩ _ s ⟨R,Ext.refl s,⟨by simp,by simp,by simp⟩,0,Nat.zero_le _,by simp,by simp⟩ with ⟨N,W,rfl,q,⟨O,n,G⟩,o⟩ | ⟨⟨N,W,rfl,q,p,t,G⟩,o⟩
 rotate_left
 ·simp -implicitDefEqProofs [p,t,G] at g
  exact bad W (by rw [okT,show rs.all zca=false from o];simp) g.symm q
 simp only at O n o q
 simp -implicitDefEqProofs  at g
 generalize f:za8.run r _ W=A1 at g
 rcases f▸an ⟨v,u,rs,ts,s⟩ _ W ⟨R,q,⟨by simp [O],by simp [n],by simp [G]⟩,0,Nat.zero_le _,by simp,by simp⟩ with ⟨N,I,rfl,b,⟨O,n,G⟩,ah⟩ | ⟨⟨N,I,rfl,b,p,t,G⟩,ah⟩
 rotate_left
 ·simp -implicitDefEqProofs [p,t,G] at g
  exact bad I (by rw [okT,zeS,show ts.all wdB=false from ah];simp) g.symm b
 simp only at O n ah b
 have D:∀ r∈rs,psB r:=fun r Q=>zti (kao.1 o r Q)
 obtain ⟨_,l,w,E4,rfl⟩:=aq (v,u,rs,ts) _ I ⟨rfl,J.ext b,D,B.ext b,ar⟩
 cases ai:zah rs none ts with
 | false =>
  rw [ai] at w
  simp -implicitDefEqProofs [O,n,G,w] at g
  exact bad l (by rw [okT,zeS,ai];simp) g.symm (b.trans E4)
 | true =>
  rw [ai] at w
  have ak:zaz rs none ts=true:=by rw [zeS,ah,ai];rfl
  have T:okT rs ts=true:=by rw [okT,au,o,ak];rfl
  simp -implicitDefEqProofs [O,n,w] at g
  generalize f:wO.run r _ l=A1 at g
  obtain ⟨N,k,rfl,E5,G,Y⟩:=f▸ao ⟨v,u,rs,ts,s⟩ _ l ⟨⟨R,D,ak⟩,b.trans E4,⟨by simp [O],by simp [n],by simp [G]⟩,0,.nil 1,[],Nat.zero_le _,by simp,by simp,ad _,.inl trivial,.inl ⟨rfl,rfl,rfl⟩⟩
  simp -implicitDefEqProofs [G] at g
  exact ⟨_,k,g.symm,E5,gp 8 N,by rw [T];rfl,by rw [T];exact Y⟩
def zl4 (x:List V):Prop:=∃ a b,x=[iv .i64 a,iv .i64 b]
theorem zmf {rs:List RuD}:∀ (ts:List TfD) (l:List (List V)),(∀ x∈l,zl4 x)→∀ x∈zcS rs l ts,zl4 x
 | [],l,h=>h
 | t::r,l,h=>zmf r _ (zlb h (fun _=>⟨_,_,rfl⟩) _ _)
theorem zu0 (rs:List RuD):∀ (ts:List TfD),∀ x∈zao rs ts,zl4 x
 | [],x,M=>by cases M
 | t::r,x,M=>zmf (t::r) _ (fun y Y=>by obtain ⟨j,_,rfl⟩:=kau.1 Y;exact ⟨_,_,rfl⟩) x M
theorem zxN (a b:Int) (c:V→Go.Ev.A):zw ⟨6,[7,7]⟩ false .neq (.ls 0 [iv .i64 a,iv .i64 b]) (.ls 0 [iv .i64 a,iv .i64 b]) c=c (.bool false):=by
 have h:∀ x:Int,eqP 7 (iv .i64 x) (iv .i64 x)=some true:=fun x=>by
  have:=zCx false x x
  rw [decide_eq_true rfl] at this
  exact this
 have e:eqV ⟨6,[7,7]⟩ false (.ls 0 [iv .i64 a,iv .i64 b]) (.ls 0 [iv .i64 a,iv .i64 b])=some true:=by
  show (match eqP 7 (iv .i64 a) (iv .i64 a) with | some true=>(match eqP 7 (iv .i64 b) (iv .i64 b) with | some true=>some true | some false=>some false | none=>none) | some false=>some false | none=>none)=_
  rw [h,h]
 show zfm ⟨6,[7,7]⟩ false true (.ls 0 [iv .i64 a,iv .i64 b]) (.ls 0 [iv .i64 a,iv .i64 b]) c=_
 unfold zfm
 rw [e];rfl
def zkJ (e:Ex):Bool:=decide (8<szE e)
def zgy (r:RuD):Bool:=decide (4<r.ps.length) || (zkJ r.l || (zkJ r.r || r.ps.any fun p=>zkJ p.e))
def zof (rs:List RuD):Bool:=decide (4<rs.length) || rs.any zgy
def zlv (t:TfD):Bool:=decide (250<t.bf.length) || (decide (250<t.af.length) || decide (250<t.sp.length))
def zsV (ts:List TfD):Bool:=decide (120<ts.length) || ts.any zlv
noncomputable def KNa (h:Nat):Nat→Ct
 | 9=>ctI (X:=V × V × List (List V)) (fun ⟨x,y,L⟩ a s=>a=[x,y]∧Rw s 2 x L∧Rw s 2 y L∧(∀ r∈L,zl4 r)∧L.length≤1000000) (fun _ s v U=>U=s∧v=.bool true)
 | 5=>ctI (X:=V × List TfD) (fun ⟨u,ts⟩ a s=>a=[u]∧zej s u ts) (fun ⟨_,ts⟩ s v U=>U=s∧v=.bool (zsV ts))
 | 4=>ctI (X:=V × List RuD) (fun ⟨v,rs⟩ a s=>a=[v]∧zbY h s v rs) (fun ⟨_,rs⟩ s v U=>Ext s U∧v=.bool (zof rs))
 | 6=>ctI (X:=Unit) (fun _ a _=>a=[]) (fun _ s v U=>U=s∧v=.bool true)
 | f=>KN9 h f
structure SmX where
 x:V
 y:V
 L:List (List V)
 b:S
def SmX.pre (c:SmX) (tm:T) (s:S):Prop:=s=c.b∧(Rw c.b 2 c.x c.L∧Rw c.b 2 c.y c.L∧(∀ r∈c.L,zl4 r)∧c.L.length≤1000000)∧(gp 0 tm=c.x∧gp 1 tm=c.y∧gp 240 tm=.bad)∧∃ i:Nat,i≤c.L.length∧gp 5 tm=iv .i64 (i:Int)
def SmX.post (c:SmX) (a:Go.Ev.A):Prop:=∃ N,a=.ext 0 N c.b∧gp 240 N=.bad
theorem zCu:∀ (c:SmX) tm s,c.pre tm s→c.post (zag.run (Rk Tryz.prog (KNa h) fun _=>ltI SmX.pre SmX.post) tm s):=by
 refine zL (L:=fun _=>ltI SmX.pre SmX.post) zt zoe rfl (fun tm _=>9223372036854775808 - (toI (gp 5 tm)).toNat) (fun x a ⟨_,h,_⟩=>by rw [h];exact fun h=>h) ?_
 rintro ⟨x,y,L,b⟩ tm s ⟨C,R,⟨h0,I,N⟩,i,hi,d⟩ J
 show SmX.post _ (zag.run _ tm _)
 obtain ⟨M,Y,Z,D⟩:=id R
 simp only at C M Y Z D h0 I hi
 subst C
 generalize Rk Tryz.prog _ _=r at J ⊢
 have o:=M.lenS
 by_cases O:i<L.length
 ·obtain ⟨q,U,z⟩:=M.load O
  obtain ⟨B,G,A⟩:=Y.load O
  obtain ⟨a,c,T⟩:=Z _ (kai O)
  rw [T] at z A
  have n:IntKind.i64.wrap ((i:Int)+1)=((i+1:Nat):Int):=w64
  have E:=zxN a c
  have next:∀ F,(gp 0 F=x∧gp 1 F=y∧gp 240 F=.bad)→gp 5 F=iv .i64 ((i+1:Nat):Int)→SmX.post ⟨x,y,L,s⟩ (r.code zeO zbU F s):=fun F k t =>
   J ⟨x,y,L,s⟩ F s (by rw [t,d,zp,zp];omega) ⟨rfl,R,k,i+1,O,t⟩
  simp -implicitDefEqProofs [zf2,h0,I,d,o,O,U,z,G,A,E,n]
  apply next<;>simp [h0,I,N]
 ·obtain rfl:i=L.length:=by omega
  simp -implicitDefEqProofs [zf2,h0,d,o]
  exact ⟨_,rfl,by simp [N]⟩
theorem zzQ (h:Nat):zo Tryz.prog (KNa h) 9:=by
 have e:=zCu (h:=h)
 refine zr (L:=fun _=>ltI SmX.pre SmX.post) zt (K:=KNa h) (X:=V × V × List (List V)) rfl ?_
 rintro ⟨x,y,L⟩ a s ⟨rfl,M,Y,Z,Q⟩
 generalize Rk Tryz.prog _ _=r at e ⊢
 have I:=M.lenS
 have J:=Y.lenS
 generalize g:(fnC zf 9).run r _ _=D
 simp -implicitDefEqProofs [zfW,I,J] at g
 generalize f:zag.run r _ s=U at g
 obtain ⟨N,rfl,G⟩:=f▸e ⟨x,y,L,s⟩ _ s ⟨rfl,⟨M,Y,Z,Q⟩,⟨by simp,by simp,by simp⟩,0,Nat.zero_le _,by simp⟩
 simp -implicitDefEqProofs [G] at g
 exact ⟨_,s,g.symm,rfl,rfl⟩
theorem zzL (h:zej s u ts) (hi:i<ts.length):∃ q N d x bv f B,(∀ k c,ze 4 u (iv k (i:Int)) c=c q)∧((∀ c,zb 1 q c=c N)∧(∀ k:V→S→Go.Ev.A,zd false 1 N s k=k bv s)∧∀ c,zm bv c=c (iv .i64 (ts[i].bf.length:Int))) ∧
  ((∀ c,zb 2 q c=c d)∧(∀ k:V→S→Go.Ev.A,zd false 1 d s k=k f s)∧∀ c,zm f c=c (iv .i64 (ts[i].af.length:Int)))∧(∀ c,zb 3 q c=c x)∧(∀ k:V→S→Go.Ev.A,zd false 1 x s k=k B s)∧∀ c,zm B c=c (iv .i64 (ts[i].sp.length:Int)):=by
 obtain ⟨⟨I,J,Q⟩,K⟩:=h
 obtain ⟨q,T,F⟩:=I.idx (i:=(i:Int)) (by omega) (by omega)
 rw [Int.toNat_natCast] at F
 obtain ⟨bv,f,B,O,⟨z,-⟩,R,C⟩:=K i hi
 have X:∀ j,j<4→qg s u (i*4+j)=[iv .i64 ts[i].rule,bv,f,B].getD j .bad:=fun j G=>by
  have:=congrArg (fun l:List V=>l.getD j .bad) O
  simpa [rwC,G] using this
 have U:∀ j v,j<4→[iv .i64 ts[i].rule,bv,f,B].getD j .bad=v→v≠.bad→∃ p,(∀ c,zb j q c=c p)∧∀ k:V→S→Go.Ev.A,zd false 1 p s k=k v s:=fun j v G E o=>by
  obtain ⟨p,f1,a⟩:=F.field j (by omega)
  refine ⟨p,f1,fun k=>?_⟩
  have e:=X j G
  rw [E] at e
  rw [a.load1 (by omega) (by rw [Nat.add_zero,e];exact o) k,Nat.add_zero,e]
 obtain ⟨N,a1,Z⟩:=U 1 bv (by omega) rfl z.1.ne
 obtain ⟨d,a2,W⟩:=U 2 f (by omega) rfl R.1.ne
 obtain ⟨x,a3,g⟩:=U 3 B (by omega) rfl C.ne
 exact ⟨q,N,d,x,bv,f,B,T,⟨a1,Z,z.lenS⟩,⟨a2,W,R.lenS⟩,a3,g,fun c=>by rw [C.lenS];simp [yw]⟩
structure MnX where
 u:V
 ts:List TfD
 b:S
def MnX.pre (c:MnX) (tm:T) (s:S):Prop:=s=c.b∧zej c.b c.u c.ts∧(gp 0 tm=c.u∧gp 240 tm=.bad)∧∃ i:Nat,i≤c.ts.length∧gp 3 tm=iv .i64 (i:Int)∧(c.ts.take i).any zlv=false
def MnX.post (c:MnX) (x:Go.Ev.A):Prop:=(∃ N,x=.ext 0 N c.b∧gp 240 N=.bad∧c.ts.any zlv=false)∨∃ N,x=.ret N c.b∧gp 240 N=.bad∧gp 2 N=.bool true∧c.ts.any zlv=true
theorem zBN:∀ (c:MnX) tm s,c.pre tm s→c.post (zee.run (Rk Tryz.prog (KNa h) fun _=>ltI MnX.pre MnX.post) tm s):=by
 refine zL (L:=fun _=>ltI MnX.pre MnX.post) zt zuF rfl (fun tm _=>9223372036854775808 - (toI (gp 3 tm)).toNat) (fun x a h=>by rcases h with ⟨_,rfl,_⟩ | ⟨_,rfl,_⟩<;>exact fun h=>h) ?_
 rintro ⟨u,ts,b⟩ tm s ⟨C,hu,⟨h0,N⟩,i,hi,Q,E⟩ J
 show MnX.post _ (zee.run _ tm _)
 simp only at C hu h0 hi E
 subst C
 generalize Rk Tryz.prog _ _=r at J ⊢
 have o:∀ c:V→Go.Ev.A,zm u c=c (iv .i64 (ts.length:Int)):=fun c=>by rw [hu.1.1.len,hu.1.2.1]
 have D:=hu.1.2.2
 by_cases O:i<ts.length
 ·obtain ⟨q,j,d,m,bv,f,B,U,⟨a1,Z,R⟩,⟨a2,p,G⟩,a3,g,l⟩:=zzL hu O
  have bad:∀ x,zlv ts[i]=true→(∃ F,x=.ret F s∧gp 240 F=.bad∧gp 2 F=.bool true)→MnX.post ⟨u,ts,s⟩ x:=fun x hb ⟨F,M,k⟩=>.inr ⟨F,M,k.1,k.2,zjo O hb⟩
  have n:IntKind.i64.wrap ((i:Int)+1)=((i+1:Nat):Int):=w64
  have next:zlv ts[i]=false→∀ F,(gp 0 F=u∧gp 240 F=.bad)→gp 3 F=iv .i64 ((i+1:Nat):Int)→MnX.post ⟨u,ts,s⟩ (r.code zkt zgq F s):=fun hb F k y =>
   J ⟨u,ts,s⟩ F s (by rw [y,Q,zp,zp];omega) ⟨rfl,hu,k,i+1,O,y,by rw [zdC O,E];exact hb⟩
  unfold zlv at bad next
  generalize ts[i]=t at *
  by_cases c1:250<t.bf.length
  ·have I:((250:Int)<(t.bf.length:Int))=True:=eq_true (by omega)
   refine bad _ (by rw [decide_eq_true c1];rfl) ?_
   simp -implicitDefEqProofs [zcj,zdm,h0,Q,o,O,U,a1,Z,R,I,N]
  have I:((250:Int)<(t.bf.length:Int))=False:=eq_false (by omega)
  by_cases c2:250<t.af.length
  ·have K:((250:Int)<(t.af.length:Int))=True:=eq_true (by omega)
   refine bad _ (by rw [decide_eq_true c2];simp) ?_
   simp -implicitDefEqProofs [zcj,zdm,h0,Q,o,O,U,a1,Z,R,I,a2,p,G,K,N]
  have K:((250:Int)<(t.af.length:Int))=False:=eq_false (by omega)
  by_cases c3:250<t.sp.length
  ·have T:((250:Int)<(t.sp.length:Int))=True:=eq_true (by omega)
   refine bad _ (by rw [decide_eq_true c3];simp) ?_
   simp -implicitDefEqProofs [zcj,zdm,h0,Q,o,O,U,a1,Z,R,I,a2,p,G,K,a3,g,l,T,N]
  have T:((250:Int)<(t.sp.length:Int))=False:=eq_false (by omega)
  have next:=next (by rw [decide_eq_false c1,decide_eq_false c2,decide_eq_false c3];rfl)
  simp -implicitDefEqProofs [zcj,zdm,h0,Q,o,O,U,a1,Z,R,I,a2,p,G,K,a3,g,l,T,n]
  apply next<;>simp [h0,N]
 ·obtain rfl:i=ts.length:=by omega
  rw [List.take_length] at E
  simp -implicitDefEqProofs [zcj,zdm,h0,Q,o]
  exact .inl ⟨_,rfl,by simp [N],E⟩
theorem zAF (h:Nat):zo Tryz.prog (KNa h) 5:=by
 have e:=zBN (h:=h)
 refine zr (L:=fun _=>ltI MnX.pre MnX.post) zt (K:=KNa h) (X:=V × List TfD) rfl ?_
 rintro ⟨u,ts⟩ a s ⟨rfl,hu⟩
 generalize Rk Tryz.prog _ _=r at e ⊢
 have o:∀ c:V→Go.Ev.A,zm u c=c (iv .i64 (ts.length:Int)):=fun c=>by rw [hu.1.1.len,hu.1.2.1]
 unfold zsV
 by_cases c1:120<ts.length
 ·have I:((120:Int)<(ts.length:Int))=True:=eq_true (by omega)
  refine ⟨.bool true,s,?_,rfl,by rw [decide_eq_true c1];rfl⟩
  simp -implicitDefEqProofs [zdm,o,I]
 ·have I:((120:Int)<(ts.length:Int))=False:=eq_false (by omega)
  generalize g:(fnC zf 5).run r _ _=D
  simp -implicitDefEqProofs [zdm,o,I] at g
  generalize f:zee.run r _ s=U at g
  rcases f▸e ⟨u,ts,s⟩ _ s ⟨rfl,hu,⟨by simp,by simp⟩,0,Nat.zero_le _,by simp,by simp⟩ with ⟨N,rfl,G,hb⟩ | ⟨N,rfl,G,i,hb⟩
  ·simp -implicitDefEqProofs [G] at g
   exact ⟨_,s,g.symm,rfl,by rw [decide_eq_false c1,show ts.any zlv=false from hb];rfl⟩
  ·simp -implicitDefEqProofs [G,i] at g
   exact ⟨_,s,g.symm,rfl,by rw [decide_eq_false c1,show ts.any zlv=true from hb];rfl⟩
theorem zom (x:zbY h s v rs) (hi:i<rs.length):∃ q N d y B el t,(∀ k c,ze 16 v (iv k (i:Int)) c=c q)∧((∀ c,zb 1 q c=c N)∧(∀ k:V→S→Go.Ev.A,zd false 1 N s k=k B s)∧(Sl s 10 B∧qm B=rs[i].ps.length∧rs[i].ps.length≤9223372036854775807)∧∀ j (G:j<rs[i].ps.length),PaR h s (rwC 10 s B j) rs[i].ps[j]) ∧
  ((∀ c,zb 2 q c=c d)∧(∀ k:V→S→Go.Ev.A,zd true 7 d s k=k (.ls 0 el) s)∧ExR h s el rs[i].l)∧(∀ c,zb 9 q c=c y)∧(∀ k:V→S→Go.Ev.A,zd true 7 y s k=k (.ls 0 t) s)∧ExR h s t rs[i].r:=by
 obtain ⟨⟨I,J,Q⟩,K⟩:=x
 obtain ⟨q,T,F⟩:=I.idx (i:=(i:Int)) (by omega) (by omega)
 rw [Int.toNat_natCast] at F
 obtain ⟨B,el,t,n,Z,D,b,L⟩:=K i hi
 have Y:=(K i hi).cells
 have X:∀ j,j<16→qg s v (i*16+j)=(iv .i64 rs[i].k::B::(el++t)).getD j .bad:=fun j G=>by
  have:=congrArg (fun l:List V=>l.getD j .bad) n
  simpa [rwC,G] using this
 have u:∀ j,j<16→qg s v (i*16+j)≠.bad:=fun j G=>by
  have e:qg s v (i*16+j)=(rwC 16 s v i).getD j .bad:=by simp [rwC,G]
  rw [e,kaa,kab (by rw [Y.1];exact G)]
  exact Y.2 _ (kai _)
 have M:∀ o e,o+7≤16→e.length=7→(∀ j,j<7→(iv .i64 rs[i].k::B::(el++t)).getD (o+j) .bad=e.getD j .bad)→∃ p,(∀ c,zb o q c=c p)∧∀ k:V→S→Go.Ev.A,zd true 7 p s k=k (.ls 0 e) s:=fun o e C z f=>by
  obtain ⟨p,f1,a⟩:=F.field o (by omega)
  refine ⟨p,f1,fun k=>?_⟩
  rw [a.loadN 7 (by omega) (fun j G=>by simpa using u (o+j) (by omega)) k]
  congr 2
  apply List.ext_getElem (by simp [z])
  intro j R U
  have G:j<7:=by simpa using R
  simp only [List.getElem_map,List.getElem_range]
  rw [X (o+j) (by omega),f j G,kaa,kab U];rfl
 obtain ⟨N,a1,E⟩:=F.field 1 (by omega)
 have g:=b.cells.1
 obtain ⟨d,a2,W⟩:=M 2 el (by omega) g (fun j G=>by
  rw [Nat.add_comm]
  show (el++t).getD j .bad=_
  rw [kaa,kar (by omega),←kaa])
 obtain ⟨y,a9,O⟩:=M 9 t (by omega) L.cells.1 (fun j G=>by
  rw [show 9+j=(7+j)+1+1 by omega]
  show (el++t).getD (7+j) .bad=_
  rw [kaa,kaw (by omega),g,Nat.add_sub_cancel_left,←kaa])
 refine ⟨q,N,d,y,B,el,t,T,⟨a1,fun k=>?_,Z,D⟩,⟨a2,W,b⟩,a9,O,L⟩
 rw [E.load1 (by omega) (by rw [Nat.add_zero];exact u 1 (by omega)) k,Nat.add_zero,X 1 (by omega)];rfl
theorem zAU {p:V} {ps:List PaD} (Z:Sl s 10 p) (f:qm p=ps.length) (M:∀ j (G:j<ps.length),PaR h s (rwC 10 s p j) ps[j]) {j:Nat} (G:j<ps.length):∃ q C e,(∀ k c,ze 10 p (iv k (j:Int)) c=c q)∧(∀ c,zb 0 q c=c C)∧(∀ k:V→S→Go.Ev.A,zd true 7 C s k=k (.ls 0 e) s)∧ExR h s e ps[j].e:=by
 obtain ⟨q,T,F⟩:=Z.idx (i:=(j:Int)) (by omega) (by omega)
 rw [Int.toNat_natCast] at F
 have Y:=(M j G).cells
 obtain ⟨e,B,A,d,z,-⟩:=M j G
 obtain ⟨C,a0,a⟩:=F.field 0 (by omega)
 refine ⟨q,C,e,T,a0,fun k=>?_,z⟩
 have X:∀ m,m<10→qg s p (j*10+m)=(rwC 10 s p j).getD m .bad:=fun m Q=>by simp [rwC,Q]
 rw [a.loadN 7 (by omega) (fun m Q=>by
  rw [kas,X m (by omega),kaa,kab (by rw [Y.1];omega)]
  exact Y.2 _ (kai _)) k]
 congr 2
 apply List.ext_getElem (by simp [z.cells.1])
 intro m R U
 have Q:m<7:=by simpa using R
 simp only [List.getElem_map,List.getElem_range,kas]
 rw [X m (by omega),d,kaa,kar U,kab U];rfl
structure LgX where
 v:V
 rs:List RuD
 b:S
 i:Nat
def LgX.pre34 (h:Nat) (c:LgX) (tm:T) (s:S):Prop:=zbY h c.b c.v c.rs∧Ext c.b s∧(gp 0 tm=c.v∧gp 3 tm=iv .i64 (c.i:Int)∧gp 240 tm=.bad)∧∃ hi:c.i<c.rs.length,∃ j:Nat,j≤c.rs[c.i].ps.length∧gp 4 tm=iv .i64 (j:Int)∧(c.rs[c.i].ps.take j).any (fun p=>zkJ p.e)=false
def LgX.post34 (c:LgX) (x:Go.Ev.A):Prop:=(∃ N s,x=.ext 2 N s∧Ext c.b s∧(gp 0 N=c.v∧gp 3 N=iv .i64 (c.i:Int)∧gp 240 N=.bad)∧∃ hi:c.i<c.rs.length,c.rs[c.i].ps.any (fun p=>zkJ p.e)=false)∨∃ N s,x=.ret N s∧Ext c.b s∧(gp 2 N=.bool true∧gp 240 N=.bad)∧∃ hi:c.i<c.rs.length,c.rs[c.i].ps.any (fun p=>zkJ p.e)=true
def LgX.pre14 (h:Nat) (c:LgX) (tm:T) (s:S):Prop:=zbY h c.b c.v c.rs∧Ext c.b s∧(gp 0 tm=c.v∧gp 240 tm=.bad)∧∃ i:Nat,i≤c.rs.length∧gp 3 tm=iv .i64 (i:Int)∧(c.rs.take i).any zgy=false
def LgX.post14 (c:LgX) (x:Go.Ev.A):Prop:=(∃ N s,x=.ext 0 N s∧Ext c.b s∧gp 240 N=.bad∧c.rs.any zgy=false)∨∃ N s,x=.ret N s∧Ext c.b s∧(gp 2 N=.bool true∧gp 240 N=.bad)∧c.rs.any zgy=true
noncomputable def LLg (h:Nat):Nat→Lt
 | 40=>ltI (LgX.pre34 h) LgX.post34
 | _=>ltI (LgX.pre14 h) LgX.post14
theorem zop (e:Ex):((8:Int)<((min (szE e) 501:Nat):Int))=(8<szE e):=by
 apply propext;omega
theorem zzc:∀ (c:LgX) tm s,c.pre34 h tm s→c.post34 (zaf.run (Rk Tryz.prog (KNa h) (LLg h)) tm s):=by
 have R:=zk (zh (L:=LLg h) (show zo Tryz.prog (KNa h) 10 from zhK h)) (X:=List V × Ex) rfl
 refine zL (L:=LLg h) zt znJ rfl (fun tm _=>9223372036854775808 - (toI (gp 4 tm)).toNat) (fun x a h=>by rcases h with ⟨_,_,rfl,_⟩ | ⟨_,_,rfl,_⟩<;>exact fun h=>h) ?_
 rintro ⟨v,rs,b,i⟩ tm s ⟨E,Y,⟨h0,Q,N⟩,hi,j,G,K,hb⟩ J
 show LgX.post34 _ (zaf.run _ tm _)
 simp only at E Y h0 Q hi G hb
 generalize Rk Tryz.prog _ _=r at J R ⊢
 obtain ⟨q,m,d,y,B,el,t,U,⟨a1,Z,⟨M,C,S⟩,I⟩,-⟩:=zom (E.ext Y) hi
 have o:∀ c:V→Go.Ev.A,zm B c=c (iv .i64 (rs[i].ps.length:Int)):=fun c=>by rw [M.len,C]
 by_cases O:j<rs[i].ps.length
 ·obtain ⟨p,g,e,T,D,l,z⟩:=zAU M C I O
  obtain ⟨_,W,f,w,rfl⟩:=R (e,_) _ s ⟨rfl,z⟩
  have n:IntKind.i64.wrap ((j:Int)+1)=((j+1:Nat):Int):=w64
  have ae:=zop rs[i].ps[j].e
  cases aa:zkJ rs[i].ps[j].e with
  | true =>
   have ad:(8<szE rs[i].ps[j].e)=True:=eq_true (of_decide_eq_true aa)
   refine .inr ?_
   simp -implicitDefEqProofs [zde,h0,Q,K,U,a1,Z,o,O,T,D,l,f,ae,ad]
   exact ⟨_,W,⟨rfl,rfl⟩,Y.trans w,⟨by simp,by simp [N]⟩,hi,by simpa using zjo (p:=fun p:PaD=>zkJ p.e) O aa⟩
  | false =>
   have ad:(8<szE rs[i].ps[j].e)=False:=eq_false (of_decide_eq_false aa)
   have next:∀ F,(gp 0 F=v∧gp 3 F=iv .i64 (i:Int)∧gp 240 F=.bad)→gp 4 F=iv .i64 ((j+1:Nat):Int)→LgX.post34 ⟨v,rs,b,i⟩ (r.code wM zbI F W):=fun F k u =>
    J ⟨v,rs,b,i⟩ F W (by rw [u,K,zp,zp];omega) ⟨E,Y.trans w,k,hi,j+1,O,u,by rw [zdC O,hb];exact aa⟩
   simp -implicitDefEqProofs [zde,h0,Q,K,U,a1,Z,o,O,T,D,l,f,ae,ad,n]
   apply next<;>simp [h0,Q,N]
 ·obtain rfl:j=rs[i].ps.length:=by omega
  rw [List.take_length] at hb
  simp -implicitDefEqProofs [zde,h0,Q,K,U,a1,Z,o]
  exact .inl ⟨_,s,rfl,Y,by simp [h0,Q,N],hi,hb⟩
theorem zyd:∀ (c:LgX) tm s,c.pre14 h tm s→c.post14 (jM.run (Rk Tryz.prog (KNa h) (LLg h)) tm s):=by
 have ah:=zzc (h:=h)
 have R:=zk (zh (L:=LLg h) (show zo Tryz.prog (KNa h) 10 from zhK h)) (X:=List V × Ex) rfl
 refine zL (L:=LLg h) zt znG rfl (fun tm _=>9223372036854775808 - (toI (gp 3 tm)).toNat) (fun x a h=>by rcases h with ⟨_,_,rfl,_⟩ | ⟨_,_,rfl,_⟩<;>exact fun h=>h) ?_
 rintro ⟨v,rs,b,i0⟩ tm s ⟨E,Y,⟨h0,N⟩,i,hi,Q,hb⟩ T
 show LgX.post14 _ (jM.run _ tm _)
 simp only at E Y h0 hi hb
 have av:=E.1.2.2
 generalize Rk Tryz.prog _ _=r at T R ah ⊢
 have S:∀ c:V→Go.Ev.A,zm v c=c (iv .i64 (rs.length:Int)):=fun c=>by rw [E.1.1.len,E.1.2.1]
 by_cases O:i<rs.length
 ·obtain ⟨q,j,d,q9,pv,el,er,J,⟨a1,Z,⟨ak,al,aw⟩,C⟩,⟨a2,p,an⟩,-⟩:=zom (E.ext Y) O
  have o:∀ c:V→Go.Ev.A,zm pv c=c (iv .i64 (rs[i].ps.length:Int)):=fun c=>by rw [ak.len,al]
  obtain ⟨_,W,D,w,rfl⟩:=R (el,_) _ s ⟨rfl,an⟩
  obtain ⟨t,_,_,q9,_,_,er,ao,-,-,a9,b9,aq⟩:=zom (E.ext (Y.trans w)) O
  have ar:t=q:=by have e:=(ao .i64 (fun v=>.fin v s)).symm.trans (J .i64 (fun v=>.fin v s));injection e
  subst ar
  obtain ⟨_,m,B,u,rfl⟩:=R (er,_) _ W ⟨rfl,aq⟩
  have ai:=Y.trans w
  have aj:=ai.trans u
  have m1:=zop rs[i].l
  have m2:=zop rs[i].r
  have n:IntKind.i64.wrap ((i:Int)+1)=((i+1:Nat):Int):=w64
  have bad:∀ x U,Ext b U→zgy rs[i]=true→(∃ F,x=.ret F U∧gp 2 F=.bool true∧gp 240 F=.bad)→LgX.post14 ⟨v,rs,b,i0⟩ x:=fun x U e hb ⟨F,M,k⟩=>.inr ⟨F,U,M,e,k,zjo O hb⟩
  by_cases c1:4<rs[i].ps.length
  ·have aa:((4:Int)<(rs[i].ps.length:Int))=True:=eq_true (by omega)
   refine bad _ s Y (by rw [zgy,decide_eq_true c1];rfl) ?_
   simp -implicitDefEqProofs [wg,yr,h0,Q,S,O,J,a1,Z,o,aa,N]
  have aa:((4:Int)<(rs[i].ps.length:Int))=False:=eq_false (by omega)
  cases c2:zkJ rs[i].l with
  | true =>
   have d2:(8<szE rs[i].l)=True:=eq_true (of_decide_eq_true c2)
   refine bad _ W ai (by rw [zgy,c2];simp) ?_
   simp -implicitDefEqProofs [wg,yr,h0,Q,S,O,J,a1,Z,o,aa,a2,p,D,m1,d2,N]
  | false =>
  have d2:(8<szE rs[i].l)=False:=eq_false (of_decide_eq_false c2)
  cases c3:zkJ rs[i].r with
  | true =>
   have d3:(8<szE rs[i].r)=True:=eq_true (of_decide_eq_true c3)
   refine bad _ m aj (by rw [zgy,c3];simp) ?_
   simp -implicitDefEqProofs [wg,yr,h0,Q,S,O,J,a1,Z,o,aa,a2,p,D,m1,d2,a9,b9,B,m2,d3,N]
  | false =>
  have d3:(8<szE rs[i].r)=False:=eq_false (of_decide_eq_false c3)
  generalize g:jM.run r tm s=F0
  simp -implicitDefEqProofs [wg,yr,h0,Q,S,O,J,a1,Z,o,aa,a2,p,D,m1,d2,a9,b9,B,m2,d3] at g
  generalize K:zaf.run r _ m=A1 at g
  rcases K▸ah ⟨v,rs,b,i⟩ _ m ⟨E,aj,⟨by simp [h0],by simp [Q],by simp [N]⟩,O,0,Nat.zero_le _,by simp,by simp⟩ with ⟨ae,I,rfl,E4,⟨z,y,G⟩,_,ad⟩ | ⟨ae,I,rfl,E4,⟨f,G⟩,_,ad⟩
  ·simp only at z y ad E4
   simp -implicitDefEqProofs [y,n] at g
   rw [←g]
   refine T ⟨v,rs,b,i0⟩ _ I ?_ ⟨E,E4,⟨by simp [z],by simp [G]⟩,i+1,O,by simp,?_⟩
   ·have au:gp 3 (Go.Ev.sp 3 (iv .i64 ((i:Int)+1)) ae)=iv .i64 ((i+1:Nat):Int):=by simp
    rw [au,Q,zp,zp];omega
   ·show (rs.take (i+1)).any zgy=false
    rw [zdC O,hb,zgy,decide_eq_false c1,c2,c3,ad];rfl
  ·simp only at f ad E4
   simp -implicitDefEqProofs  at g
   rw [←g]
   exact bad _ I E4 (by rw [zgy,ad];simp) ⟨ae,rfl,f,G⟩
 ·obtain rfl:i=rs.length:=by omega
  rw [List.take_length] at hb
  simp -implicitDefEqProofs [wg,yr,h0,Q,S]
  exact .inl ⟨_,s,rfl,Y,by simp [N],hb⟩
theorem zyU (h:Nat):zo Tryz.prog (KNa h) 4:=by
 have e:=zyd (h:=h)
 refine zr (L:=LLg h) zt (K:=KNa h) (X:=V × List RuD) rfl ?_
 rintro ⟨v,rs⟩ a s ⟨rfl,E⟩
 generalize Rk Tryz.prog _ _=r at e ⊢
 have S:∀ c:V→Go.Ev.A,zm v c=c (iv .i64 (rs.length:Int)):=fun c=>by rw [E.1.1.len,E.1.2.1]
 unfold zof
 by_cases c1:4<rs.length
 ·have I:((4:Int)<(rs.length:Int))=True:=eq_true (by omega)
  refine ⟨.bool true,s,?_,Ext.refl s,by rw [decide_eq_true c1];rfl⟩
  simp -implicitDefEqProofs [yr,S,I]
 ·have I:((4:Int)<(rs.length:Int))=False:=eq_false (by omega)
  generalize g:(fnC zf 4).run r _ _=D
  simp -implicitDefEqProofs [yr,S,I] at g
  generalize f:jM.run r _ s=U at g
  rcases f▸e ⟨v,rs,s,0⟩ _ s ⟨E,Ext.refl s,⟨by simp,by simp⟩,0,Nat.zero_le _,by simp,by simp⟩ with ⟨N,W,rfl,q,G,hb⟩ | ⟨N,W,rfl,q,⟨i,G⟩,hb⟩
  ·simp -implicitDefEqProofs [G] at g
   exact ⟨_,W,g.symm,q,by rw [decide_eq_false c1,show rs.any zgy=false from hb];rfl⟩
  ·simp -implicitDefEqProofs [G,i] at g
   exact ⟨_,W,g.symm,q,by rw [decide_eq_false c1,show rs.any zgy=true from hb];rfl⟩
theorem zoD {rs:List RuD}:∀ (ts:List TfD) (p:Option (List Int)) (L:List (List V)),zaz rs p ts=true→(∀ t∈ts,t.af.length≤300)→L.length≤300→(∀ t l,ts=t::l→L.length=t.bf.length)→(zcS rs L ts).length≤300
 | [],_,L,_,_,h,_=>h
 | t::r,p,L,X,U,f,hb=>by
  rw [zaz,kaf] at X
  obtain ⟨-,-,D⟩:=ze1 X.1
  have B:(qH L (fun _=>[iv .i64 t.rule,iv .i64 (-1)]) (zcH rs t.rule).ps 0 t.sp).length=t.af.length:=by
   rw [zac (hb t r rfl) _ id,zjW D]
  have A:=U t (by simp)
  refine zoD r (some t.af) _ X.2 (fun a F=>U a (by simp [F])) (by omega) fun a l N=>?_
  subst N
  rw [B]
  have C:=X.2
  rw [zaz,kaf] at C
  rw [of_decide_eq_true (ze1 C.1).2.1]
theorem zwF (X:zaz rs none ts=true) (h:∀ t∈ts,t.bf.length≤300∧t.af.length≤300):(zao rs ts).length≤300:=by
 cases ts with
 | nil=>exact Nat.zero_le _
 | cons t r =>
  refine zoD (t::r) none _ X (fun t F=>(h t F).2) (by simp [ww];exact (h t (by simp)).1) fun a l e=>?_
  cases e
  simp [ww]
theorem zzT (ad:zo Tryz.prog (KNa h) 6) (E:zbY h s v rs) (hu:zej s u ts) (K:yd s):∃ U,zai Tryz.prog 3 [v,u] s (.bool true) U:=by
 suffices y:∃ U,(fnC zf 3).run (Rk Tryz.prog (KNa h) noL) [v,u] s=.ret (.bool true) U by
  obtain ⟨U,e⟩:=y
  exact ⟨U,ziN zt (zxX zf (KNa h) noL) e⟩
 have Y:=zk (zh (L:=noL) ad) (X:=Unit) rfl
 have l:=zk (zh (L:=noL) (zyU h)) (X:=V × List RuD) rfl
 have n:=zk (zh (L:=noL) (zAF h)) (X:=V × List TfD) rfl
 have w:=zk (zh (L:=noL) (show zo Tryz.prog (KNa h) 7 from zzX h)) (X:=V × V × List RuD × List TfD) rfl
 have aa:=zk (zh (L:=noL) (show zo Tryz.prog (KNa h) 8 from zve h)) (X:=V × V × List RuD × List TfD) rfl
 have d:=zk (zh (L:=noL) (zzQ h)) (X:=V × V × List (List V)) rfl
 generalize Rk Tryz.prog _ _=r at Y l n w aa d ⊢
 have B:∀ s:S,r.call 6 [] s=.ret (.bool true) s:=fun s=>by
  obtain ⟨_,_,e,rfl,rfl⟩:=Y () [] s rfl
  exact e
 obtain ⟨_,s1,T,j,rfl⟩:=l (v,rs) _ s ⟨rfl,E⟩
 cases I:zof rs with
 | true =>
  rw [I] at T
  exact ⟨s1,by simp -implicitDefEqProofs [znP,T,B]⟩
 | false =>
 rw [I] at T
 obtain ⟨_,s1,D,rfl,rfl⟩:=n (u,ts) _ s1 ⟨rfl,hu.ext j⟩
 cases R:zsV ts with
 | true =>
  rw [R] at D
  exact ⟨s1,by simp -implicitDefEqProofs [znP,T,D,B]⟩
 | false =>
 rw [R] at D
 simp only [zof,Bool.or_eq_false_iff,decide_eq_false_iff_not,List.any_eq_false] at I
 simp only [zsV,Bool.or_eq_false_iff,decide_eq_false_iff_not,List.any_eq_false] at R
 have C:∀ r∈rs,RuS r:=fun r N=>by
  have hb:=I.2 r N
  simp only [zgy,Bool.or_eq_true,not_or,zkJ,decide_eq_true_eq,List.any_eq_true,not_exists,not_and] at hb
  exact ⟨by omega,by omega,fun p Z=>by have:=hb.2.2.2 p Z;omega⟩
 have Q:tsB ts:=⟨by omega,fun t F=>by
  have hb:=R.2 t F
  simp only [zlv,Bool.or_eq_true,not_or,decide_eq_true_eq] at hb
  exact ⟨by omega,by omega,by omega⟩⟩
 obtain ⟨_,W,o,q,a,rfl,g,-⟩:=w (v,u,rs,ts) _ s1 ⟨rfl,E.ext j,K.ext j,C,hu.ext j,Q⟩
 have A:=j.trans q
 obtain ⟨_,m,i,b,c,rfl,k⟩:=aa (v,u,rs,ts) _ W ⟨rfl,E.ext A,K.ext A,C,hu.ext A,Q⟩
 have f:∀ x∈(if okT rs ts then zao rs ts else []),zl4 x:=by
  split
  ·exact zu0 rs ts
  ·intro x M;cases M
 have O:(if okT rs ts then zao rs ts else []).length≤1000000:=by
  split
  ·rename_i G
   simp only [okT,kaf] at G
   have:=zwF G.2.2 (fun t F=>⟨(Q.2 t F).1,(Q.2 t F).2.1⟩)
   omega
  ·simp
 obtain ⟨_,m,J,rfl,rfl⟩:=d (a,c,_) _ m ⟨rfl,g.ext b,k,f,O⟩
 generalize (if okT rs ts=true then (0:Int) else 1)=z at *
 exact ⟨m,by simp -implicitDefEqProofs [znP,T,D,o,i,J,B]⟩
open Go
variable {H:Type} {enc:TypeId × Value→H} {P:Program}
variable {held:Bool} {y:DataW H × List MemPlace} {fuel:Nat} {x:Value} {W:World}
theorem zrE {t e:TypeId} (hsz:0<sz) (l:P.underlying t=some (.slice e)) (X:P.cellsOf e=sz)
  (h:DataW.trod enc P W 0 (fun _=>true) held fuel t [x]=some y) :
  x=.slice none 0 0∨∃ (a:Addr) (len cap n:Nat) (V:Nat→Value),fuel=n+1∧x=.slice (some a) len cap∧len≤cap∧cap≤maxLen∧(∀ j,j<cap*sz→W.cell? (a.add j)=some (V j)) ∧
   ∀ i,i<cap→∃ d,DataW.trod enc P W 0 (fun _=>true) held n e ((List.range sz).map fun j=>V (i*sz+j))=some d:=by
 rcases DataW.trod_slice l h with ⟨T,_⟩ | ⟨a,len,cap,elems,A,n,B,T,_,_,f,Y,O,b,C,_⟩
 ·cases T;exact .inl rfl
 ·cases T
  obtain ⟨N,E⟩:=C rfl
  have M:∀ i,i<cap→∃ Z,W.cells? 0 (a.add (i*sz)) sz=some Z∧∃ d,DataW.trod enc P W 0 (fun _=>true) held n e Z=some d:=fun i hi=>by
   rw [X] at b E
   by_cases I:i<len
   ·have J:=b i I
    rw [kab (by omega)] at J
    obtain ⟨Z,a1,a2⟩:=Option.bind_eq_some_iff.1 J
    exact ⟨Z,a1,_,a2⟩
   ·have J:=E (i - len) (by omega)
    rw [show len+(i - len)=i by omega,kab (by omega)] at J
    obtain ⟨Z,a1,a2⟩:=Option.bind_eq_some_iff.1 J
    exact ⟨Z,a1,_,a2⟩
  obtain ⟨q,U⟩:=Go.Deep.choose_lt M
  have r:∀ i,i<cap→∀ k,k<sz→W.cell? (a.add (i*sz+k))=some ((q i).getD k (.bool false)):=fun i hi k F=>by
   obtain ⟨_,O,R⟩:=World.cells?_some (U i hi).1
   have J:=R k F
   rw [Go.Deep.add_add] at J
   rw [J,kaa,kab (by omega)];rfl
  refine .inr ⟨a,len,cap,n,fun j=>(q (j / sz)).getD (j % sz) (.bool false),B,rfl,f,Y,fun j G=>?_,fun i hi=>?_⟩
  ·have I:j / sz<cap:=(Nat.div_lt_iff_lt_mul hsz).2 G
   have:=r (j / sz) I (j % sz) (Nat.mod_lt _ hsz)
   rw [Nat.mul_comm,Nat.div_add_mod] at this
   exact this
  ·obtain ⟨_,O,_⟩:=World.cells?_some (U i hi).1
   obtain ⟨d,u⟩:=(U i hi).2
   refine ⟨d,?_⟩
   rw [←u]
   congr 1
   apply List.ext_getElem (by simp [O])
   intro k Q K
   have F:k<sz:=by simpa using Q
   have T:(i*sz+k) / sz=i:=by rw [Nat.add_comm,Nat.add_mul_div_right _ _ hsz,Nat.div_eq_of_lt F];omega
   have D:(i*sz+k) % sz=k:=by rw [Nat.add_comm,Nat.add_mul_mod_self_right,Nat.mod_eq_of_lt F]
   simp only [List.getElem_map,List.getElem_range,T,D]
   rw [kaa,kab K];rfl
abbrev Rd (enc:TypeId × Value→H) (W:World) (held:Bool) (n t:Nat) (cs:List Value):Prop:=∃ y,DataW.trod enc Tryz.prog W 0 (fun _=>true) held n t cs=some y
abbrev ab (W:World):Value→V:=zch W.heap.size
variable {v:Value}
theorem zbW {n:Nat} (h:Rd enc W held n 3 [v]):∃ z,ab W v=iv .i64 z:=by
 obtain ⟨y,h⟩:=h
 obtain ⟨z,e,_,_⟩:=DataW.trod_int Tryz.underlying3 h
 cases e;exact ⟨z,rfl⟩
theorem zAJ {n:Nat} (h:Rd enc W held n 4 [v]):∃ b,ab W v=.bool b:=by
 obtain ⟨y,h⟩:=h
 obtain ⟨z,e,_⟩:=DataW.trod_bool Tryz.underlying4 h
 cases e;exact ⟨z,rfl⟩
theorem zCE {n:Nat} (h:Rd enc W held n 9 [v]):∃ w,ab W v=.str w∧w.length≤9223372036854775807:=by
 obtain ⟨y,h⟩:=h
 obtain ⟨z,e,_,C⟩:=DataW.trod_string Tryz.underlying9 h
 cases e
 refine ⟨zP z,rfl,?_⟩
 have:(zP z).length=z.size:=by
  show (z.data.toList.map UInt8.toNat).length=z.data.size
  rw [kaH,Array.length_toList]
 rw [this];exact C
theorem zuh {n:Nat} (h:Rd enc W held n 40 [v]):∃ w,Wd (jg W) (ab W v) w∧Fx (ab W v):=by
 obtain ⟨y,h⟩:=h
 have:=(zyg Tryz.underlying40 Tryz.underlying3 (by kernel_rfl) h).1
 exact ⟨_,⟨this.1,rfl⟩,this.2⟩
theorem c3:Tryz.prog.cellsOf 3=1:=by kernel_rfl
theorem c4:Tryz.prog.cellsOf 4=1:=by kernel_rfl
theorem c36:Tryz.prog.cellsOf 36=7:=by kernel_rfl
theorem c38:Tryz.prog.cellsOf 38=16:=by kernel_rfl
theorem c42:Tryz.prog.cellsOf 42=10:=by kernel_rfl
theorem c45:Tryz.prog.cellsOf 45=4:=by kernel_rfl
theorem c75:Tryz.prog.cellsOf 75=3:=by kernel_rfl
variable {t:Nat}
theorem zq7 (hsz:0<sz) (F:Tryz.prog.underlying t=some (.slice e)) (X:Tryz.prog.cellsOf e=sz) (h:Rd enc W held fuel t [x]) :
  (Sl (jg W) sz (ab W x)∧Fx (ab W x))∧qm (ab W x)≤9223372036854775807∧∀ i,i<qm (ab W x)→∃ n cs,fuel=n+1∧Rd enc W held n e cs∧rwC sz (jg W) (ab W x) i=cs.map (ab W):=by
 obtain ⟨y,h⟩:=h
 rcases zrE hsz F X h with rfl | ⟨a,len,cap,n,V,B,rfl,f,Y,r,b⟩
 ·exact ⟨⟨.inl (.inl rfl),trivial⟩,by show (0:Nat)≤_;omega,fun i hi=>absurd hi (by show ¬(i<0);omega)⟩
 ·obtain ⟨I,J,Q⟩:=zx7 (W:=W) (a:=a) (sz:=sz) (V:=V) f r hsz
  refine ⟨I,by rw [J];have:maxLen=9223372036854775807:=rfl;omega,fun i hi=>?_⟩
  rw [J] at hi
  refine ⟨n,_,B,b i (by omega),?_⟩
  unfold rwC
  rw [List.map_map]
  refine List.map_congr_left fun j G=>?_
  have A:j<sz:=kaM.1 G
  have:i*sz+j<len*sz:=by have:=kag sz (show i+1≤len by omega);rw [Nat.add_mul] at this;omega
  exact Q _ this
variable {cs:List Value}
theorem zqX {A:Array Field} (F:Tryz.prog.underlying t=some (.struct A)) (h:Rd enc W held fuel t cs) :
  ∃ n,fuel=n+1∧cs.length=Tryz.prog.cellsOf t∧∀ (i:Nat) (f:Field),A[i]?=some f→Rd enc W held n f.type ((cs.drop f.offset).take (Tryz.prog.cellsOf f.type)):=by
 obtain ⟨y,h⟩:=h
 obtain ⟨xs,n,B,_,u,O,b⟩:=DataW.trod_struct F h
 refine ⟨n,B,u,fun i f hi=>?_⟩
 have N:i<A.size:=(kat.1 hi).1
 exact ⟨_,(b i f hi).trans (kab (by omega))⟩
theorem ExR.mono:∀ {h:Nat} {s:S} {C:List V} {x:Ex},ExR h s C x→ExR (h+1) s C x
 | 0,_,_,_,h=>h.elim
 | h+1,s,C,.mk k a b w n m l,M=>by
  obtain ⟨p,I,J,Q,K,d,W⟩:=M
  exact ⟨p,I,J,Q,K,d,fun i hi=>(W i hi).mono⟩
theorem ExR.le {u:Nat} {x:Ex} (e:ExR h s C x) (g:h≤u):ExR u s C x:=by
 induction g with
 | refl=>exact e
 | step _ X=>exact X.mono
instance:Inhabited Ex:=⟨.mk 0 0 0 [] 0 0 []⟩
theorem zyt:∀ (fuel:Nat) {cs:List Value},Rd enc W held fuel 36 cs→∃ e,ExR fuel (jg W) (cs.map (ab W)) e:=by
 intro fuel
 induction fuel using Nat.strongRecOn with
 | _ fuel X =>
 intro cs h
 obtain ⟨n,rfl,f,F⟩:=zqX Tryz.underlying36 h
 rw [c36] at f
 match cs,f with
 | [B,u,o,G,c,k,C],_ =>
 have v:Rd enc W held n 3 [B]:=F 0 _ rfl
 have R:Rd enc W held n 3 [u]:=F 1 _ rfl
 have U:Rd enc W held n 3 [o]:=F 2 _ rfl
 have g:Rd enc W held n 9 [G]:=F 3 _ rfl
 have p:Rd enc W held n 3 [c]:=F 4 _ rfl
 have K:Rd enc W held n 3 [k]:=F 5 _ rfl
 have Y:Rd enc W held n 34 [C]:=F 6 _ rfl
 obtain ⟨j,S⟩:=zbW v
 obtain ⟨O,T⟩:=zbW R
 obtain ⟨d,D⟩:=zbW U
 obtain ⟨L,N,l⟩:=zCE g
 obtain ⟨V,w⟩:=zbW p
 obtain ⟨a,Z⟩:=zbW K
 obtain ⟨I,J,Q⟩:=zq7 (by omega) Tryz.underlying34 c36 Y
 have M:∀ i,i<qm (ab W C)→∃ e,ExR n (jg W) (rwC 7 (jg W) (ab W C) i) e:=fun i hi=>by
  obtain ⟨m,A,rfl,a1,a2⟩:=Q i hi
  obtain ⟨e,z⟩:=X m (by omega) a1
  rw [a2]
  exact ⟨e,z.mono⟩
 obtain ⟨q,E⟩:=Go.Deep.choose_lt M
 refine ⟨.mk j O d L V a ((List.range (qm (ab W C))).map q),ab W C,?_,I.1,by simp,by simpa using J,l,fun i hi=>?_⟩
 ·simp only [List.map_cons,List.map_nil,S,T,D,N,w,Z];rfl
 ·have:=E i (by simpa using hi)
  simpa [exC,rwC] using this
instance:Inhabited PaD:=⟨⟨default,false,[],[]⟩⟩
instance:Inhabited RuD:=⟨⟨0,[],default,default⟩⟩
theorem zDU (y:fuel≤h) (g:Rd enc W held fuel 42 cs):∃ p,PaR h (jg W) (cs.map (ab W)) p:=by
 obtain ⟨n,rfl,f,F⟩:=zqX Tryz.underlying42 g
 rw [c42] at f
 match cs,f with
 | [B,u,o,G,c,k,C,E,D,I],_ =>
 have v:Rd enc W held n 36 [B,u,o,G,c,k,C]:=F 0 _ rfl
 have R:Rd enc W held n 4 [E]:=F 1 _ rfl
 have U:Rd enc W held n 40 [D]:=F 2 _ rfl
 have i:Rd enc W held n 40 [I]:=F 3 _ rfl
 obtain ⟨e,z⟩:=zyt _ v
 obtain ⟨b,V⟩:=zAJ R
 obtain ⟨j,A,-⟩:=zuh U
 obtain ⟨m,J,-⟩:=zuh i
 refine ⟨⟨e,b,j,m⟩,_,_,_,?_,z.le (by omega),A,J⟩
 simp only [List.map_cons,List.map_nil,V];rfl
theorem zDS (y:fuel≤h) (g:Rd enc W held fuel 38 cs):∃ r,RuR h (jg W) (cs.map (ab W)) r:=by
 obtain ⟨n,rfl,f,F⟩:=zqX Tryz.underlying38 g
 rw [c38] at f
 match cs,f with
 | [B,u,A,a,c,K,G,C,D,j,O,d,S,T,w,L],_ =>
 have v:Rd enc W held n 3 [B]:=F 0 _ rfl
 have R:Rd enc W held n 33 [u]:=F 1 _ rfl
 have U:Rd enc W held n 36 [A,a,c,K,G,C,D]:=F 2 _ rfl
 have X:Rd enc W held n 36 [j,O,d,S,T,w,L]:=F 3 _ rfl
 obtain ⟨k,V⟩:=zbW v
 obtain ⟨l,f⟩:=zyt _ U
 obtain ⟨r,N⟩:=zyt _ X
 obtain ⟨I,J,Q⟩:=zq7 (by omega) Tryz.underlying33 c42 R
 have M:∀ i,i<qm (ab W u)→∃ p,PaR h (jg W) (rwC 10 (jg W) (ab W u) i) p:=fun i hi=>by
  obtain ⟨m,Z,rfl,a1,a2⟩:=Q i hi
  rw [a2]
  exact zDU (by omega) a1
 obtain ⟨q,E⟩:=Go.Deep.choose_lt M
 refine ⟨⟨k,(List.range (qm (ab W u))).map q,l,r⟩,ab W u,_,_,?_,⟨I.1,by simp,by simpa using J⟩,fun i hi=>?_,f.le (by omega),N.le (by omega)⟩
 ·simp only [List.map_cons,List.map_nil,V];rfl
 ·have:=E i (by simpa using hi)
  simpa using this
theorem zB0 (g:Rd enc W held fuel 22 [x]):∃ rs,zbY fuel (jg W) (ab W x) rs:=by
 obtain ⟨I,J,Q⟩:=zq7 (by omega) Tryz.underlying22 c38 g
 have M:∀ i,i<qm (ab W x)→∃ p,RuR fuel (jg W) (rwC 16 (jg W) (ab W x) i) p:=fun i hi=>by
  obtain ⟨m,Z,rfl,a1,a2⟩:=Q i hi
  rw [a2]
  exact zDS (by omega) a1
 obtain ⟨q,U⟩:=Go.Deep.choose_lt M
 refine ⟨(List.range (qm (ab W x))).map q,⟨I.1,by simp,by simpa using J⟩,fun i hi=>?_⟩
 have:=U i (by simpa using hi)
 simpa using this
theorem zDI (g:Rd enc W held fuel 43 [x]):∃ sp:List (Int × Int × Int),Rw (jg W) 3 (ab W x) (yw sp):=by
 obtain ⟨I,J,Q⟩:=zq7 (by omega) Tryz.underlying43 c75 g
 have M:∀ i,i<qm (ab W x)→∃ p:Int × Int × Int,rwC 3 (jg W) (ab W x) i=[iv .i64 p.1,iv .i64 p.2.1,iv .i64 p.2.2]:=fun i hi=>by
  obtain ⟨m,Z,rfl,a1,a2⟩:=Q i hi
  obtain ⟨n,_,f,F⟩:=zqX Tryz.underlying75 a1
  rw [c75] at f
  match Z,f with
  | [B,u,o],_ =>
  have v:Rd enc W held n 3 [B]:=F 0 _ rfl
  have R:Rd enc W held n 3 [u]:=F 1 _ rfl
  have U:Rd enc W held n 3 [o]:=F 2 _ rfl
  obtain ⟨A,S⟩:=zbW v
  obtain ⟨O,T⟩:=zbW R
  obtain ⟨t,D⟩:=zbW U
  exact ⟨(A,O,t),by rw [a2];simp only [List.map_cons,List.map_nil,S,T,D]⟩
 obtain ⟨q,E⟩:=Go.Deep.choose_lt M
 have d:∀ C∈yw ((List.range (qm (ab W x))).map q),∃ p:Int × Int × Int,C=[iv .i64 p.1,iv .i64 p.2.1,iv .i64 p.2.2]:=fun C X=>by
  obtain ⟨p,_,rfl⟩:=kau.1 X
  exact ⟨p,rfl⟩
 refine ⟨(List.range (qm (ab W x))).map q,I.1,by simp [yw],fun C X=>?_,fun C X y Y=>?_,fun i j hi G=>?_⟩
 ·obtain ⟨p,rfl⟩:=d C X;rfl
 ·obtain ⟨p,rfl⟩:=d C X
  simp only [kaj,List.not_mem_nil,or_false] at Y
  rcases Y with rfl | rfl | rfl<;>exact qG _ _
 ·have N:i<qm (ab W x):=by simpa [yw] using hi
  have K:(rwC 3 (jg W) (ab W x) i).getD j .bad=qg (jg W) (ab W x) (i*3+j):=by simp [rwC,G]
  rw [←K,E i N]
  simp [yw,N]
instance:Inhabited TfD:=⟨⟨0,[],[],[]⟩⟩
theorem zCZ (g:Rd enc W held fuel 23 [x]):∃ ts,zej (jg W) (ab W x) ts:=by
 obtain ⟨I,J,Q⟩:=zq7 (by omega) Tryz.underlying23 c45 g
 have M:∀ i,i<qm (ab W x)→∃ p,StR (jg W) (rwC 4 (jg W) (ab W x) i) p:=fun i hi=>by
  obtain ⟨m,Z,rfl,a1,a2⟩:=Q i hi
  rw [a2]
  obtain ⟨n,_,f,F⟩:=zqX Tryz.underlying45 a1
  rw [c45] at f
  match Z,f with
  | [B,u,o,G],_ =>
  have v:Rd enc W held n 3 [B]:=F 0 _ rfl
  have R:Rd enc W held n 40 [u]:=F 1 _ rfl
  have U:Rd enc W held n 40 [o]:=F 2 _ rfl
  have X:Rd enc W held n 43 [G]:=F 3 _ rfl
  obtain ⟨z,A⟩:=zbW v
  obtain ⟨b,hb⟩:=zuh R
  obtain ⟨a,l,-⟩:=zuh U
  obtain ⟨sp,C⟩:=zDI X
  exact ⟨⟨z,b,a,sp⟩,_,_,_,by simp only [List.map_cons,List.map_nil,A],hb,l,C⟩
 obtain ⟨q,E⟩:=Go.Deep.choose_lt M
 refine ⟨(List.range (qm (ab W x))).map q,⟨I.1,by simp,by simpa using J⟩,fun i hi=>?_⟩
 have:=E i (by simpa using hi)
 simpa using this
variable {l:List (String × DataW Unit)}
theorem zrg {ps:List MemPlace} (h:DataW.LaidVars P W l ps):∀ x∈l,∃ g t cs el E fuel p,P.globalNamed x.1=some g∧(P.globals[g]?).map (·.type)=some t∧W.heap[g]?=some (.cells cs el E)∧DataW.trod (fun _=>Unit.unit) P W 0 (fun _=>true) false fuel t cs.toList=some (x.2,p):=by
 induction l generalizing ps with
 | nil=>intro x M;cases M
 | cons y l D =>
  obtain ⟨n,d⟩:=y
  obtain ⟨g,t,cs,fuel,p,q,I,J,Q,K,o,_⟩:=h
  intro x M
  rcases kaj.1 M with rfl | M
  ·have:∃ el E,W.heap[g]?=some (.cells cs el E):=by
    unfold World.var? at Q
    rw [I] at Q
    simp only [Option.bind_some] at Q
    split at Q
    ·rename_i c el E X;cases Q;exact ⟨el,E,X⟩
    ·cases Q
   obtain ⟨el,E,Z⟩:=this
   exact ⟨g,t,cs,el,E,fuel,p,I,J,Z,K⟩
  ·exact D o x M
variable {k:IntKind}
theorem zxq {t e:TypeId} {n:Nat} {p:List MemPlace} {K:List Nat} (F:P.underlying t=some (.array n e)) (O:P.underlying e=some (.int k)) (ce:P.cellsOf e=1) (A:P.cellsOf t=n)
  (h:DataW.trod enc P W 0 (fun _=>true) held fuel t cs=some (.agg (K.map fun z:Nat=>.lit (.int k (z:Int))),p)):cs=K.map fun z:Nat=>Value.int k (z:Int):=by
 obtain ⟨xs,m,rfl,M,f,o,b⟩:=DataW.trod_array F h
 have hzs:xs.map (·.1)=K.map fun z:Nat=>DataW.lit (.int k (z:Int)):=by injection M with I _;injection I with I;exact I.symm
 have B:K.length=n:=by have:=congrArg List.length hzs;simp at this;omega
 apply List.ext_getElem (by simp;omega)
 intro i I J
 have hi:i<n:=by omega
 have Q:=b i hi
 rw [ce,kaz,kab (by omega)] at Q
 obtain ⟨z,T,D,_⟩:=DataW.trod_int O Q
 have N:(xs.map (·.1))[i]?=some (DataW.lit (.int k z)):=by rw [kaD,kab (by omega),D];rfl
 rw [hzs,kaD,kab (by omega)] at N
 simp at N
 rw [List.drop_eq_getElem_cons I,List.take_succ_cons,List.take_zero] at T
 rw [List.getElem_map,N]
 exact (List.cons.inj T).1
variable {g:Nat}
theorem zw3 {cs:Array Value} {el:TypeId} {E:Nat × Nat} {K:List Nat} {n:Nat} (o:K.length=n) (hb:W.heap[g]?=some (.cells cs el E)) (h:cs.toList=K.map fun z:Nat=>Value.int k (z:Int)) :
  ∃ el f2,Tr.get B.none (kOf g) (jg W).h=.row (K.map fun n:Nat=>iv k (n:Int)) n el false 0 0 f2:=by
 obtain ⟨_,I⟩:=zoH hb
 refine ⟨el,cs.size,?_⟩
 rw [I]
 have C:cs.size=n:=by rw [←o];have:=congrArg List.length h;simpa using this
 rw [h,List.map_map]
 have e:(zch W.heap.size ∘ fun z:Nat=>Value.int k (z:Int))=fun n:Nat=>iv k (n:Int):=rfl
 rw [e,C]
theorem zx0 (h:laidMet P l W) (i:Nat) {n:String} {d:DataW Unit} (hi:l[i]?=some (n,d)) (Q:P.globalNamed n=some g) (F:(P.globals[g]?).map (·.type)=some t) :
  ∃ cs el E fuel p,W.heap[g]?=some (.cells cs el E)∧DataW.trod (fun _=>Unit.unit) P W 0 (fun _=>true) false fuel t cs.toList=some (d,p):=by
 obtain ⟨ps,I,_⟩:=h
 obtain ⟨K,a,cs,el,E,fuel,p,T,D,N,w⟩:=zrg I _ (kav hi)
 simp only at T w
 rw [Q] at T
 obtain rfl:=Option.some.inj T
 rw [F] at D
 obtain rfl:=Option.some.inj D
 exact ⟨cs,el,E,fuel,p,N,w⟩
theorem zDC (h:laidMet P l W) (i:Nat) {n:String} {m:Nat} (K:List Nat) (hi:l[i]?=some (n,.agg (K.map fun z:Nat=>.lit (.int k (z:Int))))) (Q:P.globalNamed n=some g) (F:(P.globals[g]?).map (·.type)=some t)
  (hu:P.underlying t=some (.array m e)) (O:P.underlying e=some (.int k)) (ce:P.cellsOf e=1) (A:P.cellsOf t=m) (Y:K.length=m):∃ el f2,Tr.get B.none (kOf g) (jg W).h=.row (K.map fun n:Nat=>iv k (n:Int)) m el false 0 0 f2:=by
 obtain ⟨Z,el,E,fuel,p,I,J⟩:=zx0 h i hi Q F
 exact zw3 Y I (zxq hu O ce A J)
def zD2 (s:S) (v:V):Prop:=∃ h rs,zbY h s v rs
def zDW (s:S) (v:V):Prop:=∃ ts,zej s v ts
theorem zEk {n:Nat} (h:DataW.trod enc Tryz.prog W 0 (fun _=>true) held n 22 [x]=some y):zD2 (jg W) (zch W.heap.size x) :=
 ⟨n,zB0 ⟨y,h⟩⟩
theorem zEl {n:Nat} (h:DataW.trod enc Tryz.prog W 0 (fun _=>true) held n 23 [x]=some y):zDW (jg W) (zch W.heap.size x):=zCZ ⟨y,h⟩
theorem zCG:zwL zf 1500 6 (Go.Ev.zck 6)=true:=by kernel_rfl
theorem zrY (h:Nat):zo Tryz.prog (KNa h) 6:=by
 rintro a s ⟨x,M⟩
 obtain ⟨s1,e⟩:=zq4 zt zCG
 have M:a=[]:=M
 subst M
 exact ⟨_,_,zai.closed (G:=6) (by kernel_rfl) (by kernel_rfl) e s,fun _ _=>⟨rfl,rfl⟩⟩
theorem zDG {v:V} (E:zD2 s v) (hu:zDW s u) (F:yd s):∃ U,zai Tryz.prog 3 [v,u] s (.bool true) U:=by
 obtain ⟨h,rs,E⟩:=E
 obtain ⟨ts,hu⟩:=hu
 exact zzT (zrY h) E hu F
end Go.Proofs.YthdlmdoppfigoaaGreatDoor.oev
