/- The contracts of the functions that the statements reach, for all arguments. No statement of the seat stands here. Conditions: the arguments are as their types say. By an AI agent. -/
import Derived.Test.YtlklljjppambpaaGreatDoorOvU2
namespace Go.Proofs.YtlklljjppambpaaGreatDoor.oev
open Go.Ev Go.RowKit
set_option maxRecDepth 100000
def Bx (s:S) (a:Go.Ev.K) (c:List V) (n el:Nat):Prop:=Tr.get B.none a s.h=.row c n el false 0 0 0∧c.length=n∧(∀ x∈c,x≠.bad)∧a.toNat<s.nx.toNat
theorem Bx.ext {s s':S} {a:Go.Ev.K} {c:List V} {n el:Nat} (h:Bx s a c n el) (e:Ext s s'):Bx s' a c n el:=⟨(e.get a h.2.2.2).trans h.1,h.2.1,h.2.2.1,Nat.lt_of_lt_of_le h.2.2.2 e.nx⟩
theorem Bx.fld {s:S} {a:Go.Ev.K} {c:List V} {n el:Nat} (h:Bx s a c n el) (j:Nat) (hj:j<n) (k:V→S→Go.Ev.A):xLoad false 1 (.ptr a 0 j) s k=k (c.getD j .bad) s:=by
 refine j4 h.1 j h.2.1 hj ?_ k
 rw [List.getD_eq_getElem?_getD,List.getElem?_eq_getElem (by rw [h.2.1];exact hj)]
 exact h.2.2.1 _ (List.getElem_mem _)
theorem Bx.all {s:S} {a:Go.Ev.K} {c:List V} {n el:Nat} (h:Bx s a c n el) (k:V→S→Go.Ev.A):xLoad true n (.ptr a 0 0) s k=k (.ls 0 c) s:=by
 have hP:Pt s (.ptr a 0 0) n (fun j=>c.getD j .bad):=⟨a,0,0,c,n,el,false,0,0,0,rfl,h.1,h.2.1,yn.2 (.inr ⟨rfl,by omega⟩),fun j _=>by rw [Nat.zero_add]⟩
 have hne:∀ j,j<n→c.getD j .bad≠.bad:=fun j hj=>by
  rw [List.getD_eq_getElem?_getD,List.getElem?_eq_getElem (by rw [h.2.1];exact hj)]
  exact h.2.2.1 _ (List.getElem_mem _)
 rw [hP.loadN n (Nat.le_refl _) hne k]
 congr 2
 apply List.ext_getElem (by simp [h.2.1])
 intro i h1 h2
 simp [List.getD_eq_getElem?_getD,List.getElem?_eq_getElem h2]
theorem qK (s:S) {c:List V} {n el:Nat} (hl:c.length=n) (hc:∀ x∈c,x≠.bad):Bx (addB s (.row c n el false 0 0 0)) s.nx c n el∧Ext s (addB s (.row c n el false 0 0 0))∧∀ k:Go.Ev.K→Nat→S→Go.Ev.A,Go.Ev.newRow s el c false k=k s.nx n (addB s (.row c n el false 0 0 0)) :=
 ⟨⟨zS _ _,hl,hc,by show s.nx.toNat<s.nx.succ.toNat;rw [K.toNat_succ];omega⟩,zP _ _,fun k=>by rw [zr,hl]⟩
def prC (z:Int):List V:=[iv .i64 2,iv .i64 z,iv .i64 z,.str [],iv .i64 0,iv .i64 0,.nil 1]
noncomputable def exC (s:S) (p:V) (i:Nat):List V:=(List.range 7).map fun j=>cellV s p (i*7+j)
def shC (k a:Int) (p:V):List V:=[iv .i64 k,iv .i64 a,iv .i64 a,.str [],iv .i64 0,iv .i64 0,p]
def okSy (z:Int):Prop:=1≤z∧z≤500
def ShK (k a:Int) (zs:List Int):Prop:=(k=1∧a=0∧zs=[])∨(k=2∧okSy a∧zs=[])∨(k=5∧a=0∧2≤zs.length∧zs.length≤20∧∀ z∈zs,okSy z)
def ShP (s:S) (p:V) (zs:List Int):Prop:=Sl s 7 p∧lenV p=zs.length∧∀ i,i<zs.length→exC s p i=prC (zs.getD i 0)
def ShAt (s:S) (c:List V) (k a:Int) (zs:List Int):Prop:=∃ p,c=shC k a p∧ShP s p zs∧ShK k a zs
theorem ShP.ext {s s':S} {p:V} {zs:List Int} (h:ShP s p zs) (e:Ext s s'):ShP s' p zs:=by
 obtain ⟨h1,h2⟩:=h.1.ext e
 exact ⟨h1,h.2.1,fun i hi=>by rw [←h.2.2 i hi];unfold exC;simp [h2]⟩
theorem ShAt.ext {s s':S} {c:List V} {k a:Int} {zs:List Int} (h:ShAt s c k a zs) (e:Ext s s'):ShAt s' c k a zs:=by
 obtain ⟨p,h1,h2,h3⟩:=h
 exact ⟨p,h1,h2.ext e,h3⟩
theorem sl_ne {s:S} {sz:Nat} {v:V} (h:Sl s sz v):v≠.bad:=by
 rcases h with (rfl | rfl) | ⟨_,_,_,_,⟨_,rfl,_⟩ | ⟨_,rfl⟩,_⟩<;>exact fun h=>by cases h
theorem ShAt.cells {s:S} {c:List V} {k a:Int} {zs:List Int} (h:ShAt s c k a zs):c.length=7∧∀ x∈c,x≠.bad:=by
 obtain ⟨p,rfl,h2,-⟩:=h
 refine ⟨rfl,fun x hx=>?_⟩
 unfold shC at hx
 simp at hx
 rcases hx with rfl | rfl | rfl | rfl | rfl
 ·exact iv_ne _ _
 ·exact iv_ne _ _
 ·exact fun h=>by cases h
 ·exact iv_ne _ _
 ·exact sl_ne h2.1
theorem qZ (s:S) {z:Int} (h:okSy z):ShAt s (prC z) 2 z []:=⟨.nil 1,rfl,⟨.inl (.inl rfl),rfl,fun i hi=>by cases hi⟩,.inr (.inl ⟨rfl,h,rfl⟩)⟩
theorem ShP.at_ {s:S} {p:V} {zs:List Int} (h:ShP s p zs) {i:Nat} (hi:i<zs.length):∃ q,(∀ k c,zb 7 p (iv k (i:Int)) c=c q)∧∀ k:V→S→Go.Ev.A,xLoad true 7 q s k=k (.ls 0 (prC (zs.getD i 0))) s:=by
 obtain ⟨q,h1,h2⟩:=h.1.idx (i:=(i:Int)) (by omega) (by rw [h.2.1];omega)
 have hc:=h.2.2 i hi
 have hcell:∀ j,j<7→cellV s p (i*7+j)=(prC (zs.getD i 0)).getD j .bad:=fun j hj=>by
  have:=congrArg (fun l:List V=>l.getD j .bad) hc
  simpa [exC,hj] using this
 refine ⟨q,h1,fun k=>?_⟩
 have hne:∀ j,j<7→cellV s p ((i:Int).toNat*7+j)≠.bad:=fun j hj=>by
  rw [Int.toNat_natCast,hcell j hj]
  have:j=0∨j=1∨j=2∨j=3∨j=4∨j=5∨j=6:=by omega
  rcases this with rfl | rfl | rfl | rfl | rfl | rfl | rfl<;>first | exact iv_ne _ _ | exact fun h=>by cases h
 rw [h2.loadN 7 (Nat.le_refl _) hne k,Int.toNat_natCast]
 congr 2
def zHz (zs:List Int):Prop:=∀ z∈zs,okSy z
def emC:List V:=shC 1 0 (.nil 1)
def ruC (p:V):List V:=[iv .i64 3,p]++emC++emC
open Classical in
noncomputable def K2:Nat→Ct
 | 157=>⟨fun a s=>∃ c k x zs,∃ m:Int,a=[.ls 0 c,iv .i64 m]∧ShAt s c k x zs∧1≤m∧m≤1000,fun a s v s'=>∀ c k x zs,∀ m:Int,a=[.ls 0 c,iv .i64 m]→ShAt s c k x zs→Ext s s'∧∃ n:Int,v=iv .i64 n∧1≤n∧n≤1+zs.length⟩
 | 108=>⟨fun a s=>∃ c k x zs,a=[.ls 0 c]∧ShAt s c k x zs,fun a s v s'=>∀ c k x zs,a=[.ls 0 c]→ShAt s c k x zs→Ext s s'∧∃ n:Int,v=iv .i64 n∧n≤1+zs.length⟩
 | 196=>⟨fun a _=>∃ k:Int,a=[iv .i64 k]∧(k=1∨k=2∨k=5),fun a s v s'=>∀ k:Int,a=[iv .i64 k]→s'=s∧v=if k=5 then .ls 1 [iv .i64 2,iv .i64 500,.bool true] else .ls 1 [iv .i64 0,iv .i64 0,.bool true]⟩
 | 158=>⟨fun a s=>∃ c k x zs,a=[.ls 0 c]∧ShAt s c k x zs,fun a s v s'=>∀ c k x zs,a=[.ls 0 c]→ShAt s c k x zs→Ext s s'∧v=.bool true⟩
 | 109=>⟨fun a s=>∃ c k x zs,a=[.ls 0 c]∧ShAt s c k x zs,fun a s v s'=>∀ c k x zs,a=[.ls 0 c]→ShAt s c k x zs→Ext s s'∧v=.bool true⟩
 | 67=>⟨fun a s=>∃ c k x zs,a=[.ls 0 c]∧ShAt s c k x zs,fun a s v s'=>∀ c k x zs,a=[.ls 0 c]→ShAt s c k x zs→Ext s s'∧v=.bool true⟩
 | 68=>⟨fun a s=>∃ c k x zs,a=[.ls 0 c]∧ShAt s c k x zs,fun a s v s'=>∀ c k x zs,a=[.ls 0 c]→ShAt s c k x zs→Ext s s'∧v=.bool true⟩
 | 35=>⟨fun a s=>∃ c k x zs,a=[.ls 0 c]∧ShAt s c k x zs,fun a s v s'=>∀ c k x zs,a=[.ls 0 c]→ShAt s c k x zs→Ext s s'∧v=.bool true⟩
 | 36=>⟨fun a s=>∃ x,a=[x]∧Ints s x∧lenV x≤20∧zHz (word s x),fun _ s v s'=>s'=s∧v=.bool true⟩
 | f=>K f
theorem fn_k2 {L:Nat→Lt} {f:Nat} {a:List V} {s s':S} {v:V} (h:(fnC pc0 f).run (Rk Tryz.prog K2 L) a s=.ret v s'):CallX Tryz.prog f a s v s':=jW pcOk0.1 pcOk0.2 (Rk_ok pc0 K2 L) h
theorem xnot (b:Bool) (c:V→Go.Ev.A):xUn .not (.bool b) c=c (.bool !b):=by cases b<;>rfl
theorem zNg {k a k' a':Int} {p p':V} (h:shC k a p=shC k' a' p'):k=k'∧a=a'∧p=p':=by
 unfold shC at h
 simp only [List.cons.injEq,and_true,true_and] at h
 exact ⟨ww h.1,ww h.2.1,h.2.2.2⟩
theorem ShP.uniq {s:S} {p:V} {zs zs':List Int} (h:ShP s p zs) (h':ShP s p zs'):zs=zs':=by
 have hl:zs.length=zs'.length:=by rw [←h.2.1,h'.2.1]
 apply List.ext_getElem hl
 intro i h1 h2
 have e1:=h.2.2 i h1
 have e2:=h'.2.2 i h2
 rw [e1] at e2
 unfold prC at e2
 simp only [List.cons.injEq,and_true,true_and] at e2
 have:=ww e2.1
 rwa [List.getD_eq_getElem?_getD,List.getD_eq_getElem?_getD,List.getElem?_eq_getElem h1,List.getElem?_eq_getElem h2] at this
theorem ShAt.uniq {s:S} {c:List V} {k a k' a':Int} {zs zs':List Int} (h:ShAt s c k a zs) (h':ShAt s c k' a' zs'):k=k'∧a=a'∧zs=zs':=by
 obtain ⟨p,rfl,h1,-⟩:=h
 obtain ⟨p',e,h2,-⟩:=h'
 obtain ⟨rfl,rfl,rfl⟩:=zNg e
 exact ⟨rfl,rfl,h1.uniq h2⟩
theorem qf {s:S} {c:List V} {k a:Int} {zs:List Int} (h:ShAt s c k a zs) (f:List V→Go.Ev.A):zk 7 (.ls 0 c) f=f c:=qQ 7 c h.cells.1 f
def At1 (f:Nat) (args:List V) (s:S):Prop:=∃ v s',CallX Tryz.prog f args s v s'∧(K2 f).post args s v s'
def CntP (s:S) (n:Nat) (a:Go.Ev.A):Prop:=∃ tm' s',∃ m:Int,a=.ext 0 tm' s'∧gp 240 tm'=.bad∧Ext s s'∧gp 5 tm'=iv .i64 m∧1≤m∧m≤1+n
theorem CntP.nb {s:S} {n:Nat} {a:Go.Ev.A} (h:CntP s n a):¬a.isBad:=by obtain ⟨_,_,_,rfl,_⟩:=h;exact fun h=>h
def ltCnt (s:S) (c:List V) (m:Int) (n:Nat):Lt:=⟨fun tm s'=>Ext s s'∧gp 240 tm=.bad∧gp 1 tm=iv .i64 m∧(∃ a,gp 2 tm=.ptr a 0 0∧Bx s' a c 7 35)∧∃ i:Nat,∃ x:Int,i≤n∧gp 6 tm=iv .i64 (i:Int)∧gp 5 tm=iv .i64 x∧1≤x∧x≤1+i,
 fun _ _ a=>CntP s n a⟩
theorem zNe {s:S} {c:List V} {k a:Int} {zs:List Int} {m:Int} (h:ShAt s c k a zs) (h1:1≤m) (h2:m≤1000)
  (hC:zs≠[]→∀ z s,∀ m:Int,okSy z→1≤m→m≤1000→At1 157 [.ls 0 (prC z),iv .i64 m] s) :
  ∀ tm s',(ltCnt s c m zs.length).pre tm s'→(ltCnt s c m zs.length).post tm s' (w9.run (Rk Tryz.prog K2 fun _=>ltCnt s c m zs.length) tm s'):=by
 refine zC (L:=fun _=>ltCnt s c m zs.length) pcOk0.1 pcOk0.2 zGS (fun tm _=>zs.length - (toI (gp 6 tm)).toNat) (fun _ _ _ _ (h:CntP _ _ _)=>h.nb) ?_
 rintro tm s' ⟨hE,h240,hg1,⟨b,hg2,hB⟩,i,x,hi,h6,h5,hx1,hx2⟩ IH
 show CntP _ _ (w9.run _ tm s')
 have hC':zs≠[]→∀ z s1,∀ m':Int,okSy z→1≤m'→m'≤1000→∃ s2,(Rk Tryz.prog K2 fun _=>ltCnt s c m zs.length).call 157 [.ls 0 (prC z),iv .i64 m'] s1=.ret (iv .i64 1) s2∧Ext s1 s2:=by
  intro hz z s1 m' hz1 hm1 hm2
  obtain ⟨v,s2,e,hp⟩:=Rk_at (L:=fun _=>ltCnt s c m zs.length) (hC hz z s1 m' hz1 hm1 hm2) ⟨_,_,_,_,_,rfl,qZ s1 hz1,hm1,hm2⟩
  obtain ⟨hE2,n,rfl,hn1,hn2⟩:=hp _ _ _ _ _ rfl (qZ s1 hz1)
  obtain rfl:n=1:=by simp at hn2;omega
  exact ⟨s2,e,hE2⟩
 generalize Rk Tryz.prog _ _=r at IH hC' ⊢
 obtain ⟨p,rfl,hP,hK⟩:=h.ext hE
 have hl20:zs.length≤20:=by rcases hK with ⟨_,_,h⟩ | ⟨_,_,h⟩ | ⟨_,_,_,h,_⟩<;>first | (rw [h];exact Nat.zero_le _) | exact h
 have hL6:=fun k=>hB.fld 6 (by omega) k
 have hlen:∀ c:V→Go.Ev.A,xLenS p c=c (iv .i64 (zs.length:Int)):=fun c=>by rw [hP.1.len,hP.2.1]
 have e6:(shC k a p).getD 6 .bad=p:=rfl
 rw [e6] at hL6
 by_cases hlt:i<zs.length
 ·by_cases hxm:x<m
  ·obtain ⟨q,hq,hQ⟩:=hP.at_ hlt
   have hz:zs≠[]:=fun h=>by rw [h] at hlt;cases hlt
   have hok:okSy (zs.getD i 0):=by
    rcases hK with ⟨_,_,h⟩ | ⟨_,_,h⟩ | ⟨_,_,_,_,h⟩
    ·exact absurd h hz
    ·exact absurd h hz
    ·rw [List.getD_eq_getElem?_getD,List.getElem?_eq_getElem hlt];exact h _ (List.getElem_mem _)
   generalize zs.getD i 0=z0 at hQ hok
   obtain ⟨s2,e2,hE2⟩:=hC' hz z0 s' (m - x) hok (by omega) (by omega)
   have w0:IntKind.i64.wrap (m - x)=m - x:=zD (by omega) (by omega)
   have w1:IntKind.i64.wrap (x+1)=x+1:=zD (by omega) (by omega)
   have w2:IntKind.i64.wrap ((i:Int)+1)=(i:Int)+1:=zD (by omega) (by omega)
   have hlt':(i:Int)<zs.length:=by omega
   simp -implicitDefEqProofs [zd0,zcv,gp_sp,hg1,hg2,h5,h6,zi,hL6,hlen,ze,zDH,zo,hq,hQ,w0,w1,w2,e2,zd,hlt,hxm]
   exact IH _ _ (by simp [gp_sp,h6,zp];omega) ⟨hE.trans hE2,by simp [gp_sp,h240],by simp [gp_sp,hg1],⟨b,by simp [gp_sp,hg2],hB.ext hE2⟩,i+1,x+1,by omega,by simp [gp_sp],by simp [gp_sp],by omega,by omega⟩
  ·simp -implicitDefEqProofs [zd0,zcv,gp_sp,hg1,hg2,h5,h6,zi,hL6,hlen,ze,zd,hlt,hxm]
   exact ⟨_,_,x,rfl,by simp [gp_sp,h240],hE,by simp [gp_sp,h5],hx1,by omega⟩
 ·simp -implicitDefEqProofs [zd0,zcv,gp_sp,hg2,h6,zi,hL6,hlen,ze,zd,hlt]
  exact ⟨_,_,x,rfl,by simp [gp_sp,h240],hE,by simp [gp_sp,h5],hx1,by omega⟩
theorem zBL {s:S} {c:List V} {k a:Int} {zs:List Int} {m:Int} (h:ShAt s c k a zs) (h1:1≤m) (h2:m≤1000)
  (hC:zs≠[]→∀ z s,∀ m:Int,okSy z→1≤m→m≤1000→At1 157 [.ls 0 (prC z),iv .i64 m] s):At1 157 [.ls 0 c,iv .i64 m] s:=by
 suffices hh:∃ s',∃ n:Int,(fnC pc0 157).run (Rk Tryz.prog K2 fun _=>ltCnt s c m zs.length) [.ls 0 c,iv .i64 m] s=.ret (iv .i64 n) s'∧Ext s s'∧1≤n∧n≤1+zs.length by
  obtain ⟨s',n,g1,g2,g3,g4⟩:=hh
  refine ⟨_,s',fn_k2 g1,fun c' k' a' zs' m' e h'=>?_⟩
  simp only [List.cons.injEq,V.ls.injEq,true_and,and_true] at e
  obtain ⟨rfl,e⟩:=e
  obtain ⟨rfl,rfl,rfl⟩:=h.uniq h'
  exact ⟨g2,n,rfl,g3,g4⟩
 have hL:=zNe h h1 h2 hC
 generalize Rk Tryz.prog _ _=r at hL ⊢
 obtain ⟨b1,b2,b3⟩:=qK s (el:=35) h.cells.1 h.cells.2
 simp -implicitDefEqProofs [zcv,gp_sp,qf h,b3,zd]
 generalize hA:w9.run r _ _=y
 have:=hA▸hL _ _ ⟨b2,by simp [gp_sp],by simp [gp_sp],⟨s.nx,by simp [gp_sp],b1⟩,0,1,Nat.zero_le _,by simp [gp_sp],by simp [gp_sp],by omega,by omega⟩
 obtain ⟨tm',s',n,rfl,k1,hE,k5,g1,g2⟩:=this
 exact ⟨s',n,by simp [zf,gp_sp,k1,k5],hE,g1,g2⟩
theorem zLl:Holds Tryz.prog K2 157:=by
 rintro a s ⟨c,k,x,zs,m,rfl,h,h1,h2⟩
 exact zBL h h1 h2 fun _ z s m hz h1 h2=>zBL (qZ s hz) h1 h2 fun h=>absurd rfl h
theorem zNj:Holds Tryz.prog K2 108:=by
 rintro a s ⟨c,k,x,zs,rfl,h⟩
 suffices hh:∃ s',∃ n:Int,(fnC pc0 108).run (Rk Tryz.prog K2 noL) [.ls 0 c] s=.ret (iv .i64 n) s'∧Ext s s'∧n≤1+zs.length by
  obtain ⟨s',n,g1,g2,g3⟩:=hh
  refine ⟨_,s',fn_k2 g1,fun c' k' a' zs' e h'=>?_⟩
  cases e
  obtain ⟨rfl,rfl,rfl⟩:=h.uniq h'
  exact ⟨g2,n,rfl,g3⟩
 have hN:=zn (L:=noL) zLl
 generalize Rk Tryz.prog _ _=r at hN ⊢
 obtain ⟨b1,b2,b3⟩:=qK s (el:=35) h.cells.1 h.cells.2
 obtain ⟨w,s2,e,hp⟩:=hN [.ls 0 c,iv .i64 501] (addB s (.row c 7 35 false 0 0 0)) ⟨c,k,x,zs,501,rfl,h.ext b2,by omega,by omega⟩
 obtain ⟨hE,n,rfl,hn1,hn2⟩:=hp _ _ _ _ _ rfl (h.ext b2)
 have hA:=fun k=>b1.all k
 exact ⟨s2,n,by simp -implicitDefEqProofs [zKz,gp_sp,qf h,b3,hA,e,zd],b2.trans hE,hn2⟩
theorem zLe:Holds Tryz.prog K2 196:=by
 rintro a s ⟨k,rfl,hk⟩
 suffices h:(fnC pc0 196).run (Rk Tryz.prog K2 noL) [iv .i64 k] s=.ret (if k=5 then .ls 1 [iv .i64 2,iv .i64 500,.bool true] else .ls 1 [iv .i64 0,iv .i64 0,.bool true]) s from
  ⟨_,_,fn_k2 h,fun k' e=>by
   simp only [List.cons.injEq,and_true] at e
   obtain rfl:=ww e
   exact ⟨rfl,rfl⟩⟩
 generalize Rk Tryz.prog _ _=r
 rcases hk with rfl | rfl | rfl<;>simp -implicitDefEqProofs [zIj,gp_sp,qD,zd]
theorem zNr:Holds Tryz.prog K2 158:=by
 rintro a s ⟨c,k,x,zs,rfl,h⟩
 suffices hh:∃ s',(fnC pc0 158).run (Rk Tryz.prog K2 noL) [.ls 0 c] s=.ret (.bool true) s'∧Ext s s' by
  obtain ⟨s',g1,g2⟩:=hh
  exact ⟨_,s',fn_k2 g1,fun c' k' a' zs' e h'=>⟨g2,rfl⟩⟩
 have hN:=zn (L:=noL) zLe
 generalize Rk Tryz.prog _ _=r at hN ⊢
 obtain ⟨b1,b2,b3⟩:=qK s (el:=35) h.cells.1 h.cells.2
 have hcc:=qf h
 obtain ⟨p,rfl,hP,hK⟩:=h
 generalize addB s (.row (shC k x p) 7 35 false 0 0 0)=s1 at *
 have F0:∀ f:V→S→Go.Ev.A,xLoad false 1 (.ptr s.nx 0 0) s1 f=f (iv .i64 k) s1:=b1.fld 0 (by omega)
 have F1:∀ f:V→S→Go.Ev.A,xLoad false 1 (.ptr s.nx 0 1) s1 f=f (iv .i64 x) s1:=b1.fld 1 (by omega)
 have F2:∀ f:V→S→Go.Ev.A,xLoad false 1 (.ptr s.nx 0 2) s1 f=f (iv .i64 x) s1:=b1.fld 2 (by omega)
 have F3:∀ f:V→S→Go.Ev.A,xLoad false 1 (.ptr s.nx 0 3) s1 f=f (.str []) s1:=b1.fld 3 (by omega)
 have F4:∀ f:V→S→Go.Ev.A,xLoad false 1 (.ptr s.nx 0 4) s1 f=f (iv .i64 0) s1:=b1.fld 4 (by omega)
 have F5:∀ f:V→S→Go.Ev.A,xLoad false 1 (.ptr s.nx 0 5) s1 f=f (iv .i64 0) s1:=b1.fld 5 (by omega)
 have F6:∀ f:V→S→Go.Ev.A,xLoad false 1 (.ptr s.nx 0 6) s1 f=f p s1:=b1.fld 6 (by omega)
 have hlen:∀ f:V→Go.Ev.A,xLenS p f=f (iv .i64 (zs.length:Int)):=fun f=>by rw [hP.1.len,hP.2.1]
 have e2:∀ (x y z:V) (c:V→Go.Ev.A),z7 2 (.ls 1 [x,y,z]) c=c z:=fun _ _ _ _=>rfl
 have heq:∀ (f:V→Go.Ev.A),xBin ⟨8,[]⟩ true .eql (.str []) (.str []) f=f (.bool true):=fun f=>rfl
 obtain ⟨w,s2,e,hp⟩:=hN [iv .i64 k] s1 ⟨k,rfl,by rcases hK with ⟨h,_⟩ | ⟨h,_⟩ | ⟨h,_⟩<;>simp [h]⟩
 obtain ⟨rfl,rfl⟩:=hp _ rfl
 refine ⟨s2,?_,b2⟩
 rcases hK with ⟨rfl,rfl,rfl⟩ | ⟨rfl,⟨h1,h2⟩,rfl⟩ | ⟨rfl,rfl,h1,h2,-⟩
 ·simp at e hlen
  simp -implicitDefEqProofs [zl9,gp_sp,hcc,b3,e,e2,heq,F0,F1,F2,F3,F4,F5,F6,zi,hlen,ze,zw,zdN,qx,qD,yZ,zo,zd]
 ·simp at e hlen
  have g0:(0:Int)≤x:=by omega
  have g3:(0:Int)<x+x:=by omega
  have w:IntKind.i64.wrap (x+x)=x+x:=zD (by omega) (by omega)
  simp -implicitDefEqProofs [zl9,gp_sp,hcc,b3,e,e2,heq,F0,F1,F2,F3,F4,F5,F6,zi,hlen,ze,zw,zdN,qx,qD,yZ,zo,zd,g0,h2,w,g3]
 ·simp at e
  have g1:¬(zs.length:Int)<2:=by omega
  have g2:¬(500:Int)<zs.length:=by omega
  simp -implicitDefEqProofs [zl9,gp_sp,hcc,b3,e,e2,heq,F0,F1,F2,F3,F4,F5,F6,zi,hlen,ze,zw,zdN,qx,qD,yZ,zo,zd,g1,g2]
def AllE (s:S) (a:Go.Ev.A):Prop:=∃ tm' s',a=.ext 0 tm' s'∧gp 240 tm'=.bad∧Ext s s'
theorem AllE.nb {s:S} {a:Go.Ev.A} (h:AllE s a):¬a.isBad:=by obtain ⟨_,_,rfl,_⟩:=h;exact fun h=>h
def ltAll (s:S) (c:List V) (n:Nat):Lt:=⟨fun tm s'=>Ext s s'∧gp 240 tm=.bad∧(∃ a,gp 1 tm=.ptr a 0 0∧Bx s' a c 7 35)∧∃ i:Nat,i≤n∧gp 3 tm=iv .i64 (i:Int),fun _ _ a=>AllE s a⟩
theorem zcG {k a:Int} {zs:List Int} (hK:ShK k a zs) {i:Nat} (hlt:i<zs.length):okSy (zs.getD i 0):=by
 rcases hK with ⟨_,_,h⟩ | ⟨_,_,h⟩ | ⟨_,_,_,_,h⟩
 ·rw [h] at hlt;cases hlt
 ·rw [h] at hlt;cases hlt
 ·rw [List.getD_eq_getElem?_getD,List.getElem?_eq_getElem hlt];exact h _ (List.getElem_mem _)
theorem ShK.le {k a:Int} {zs:List Int} (hK:ShK k a zs):zs.length≤20:=by
 rcases hK with ⟨_,_,h⟩ | ⟨_,_,h⟩ | ⟨_,_,_,h,_⟩<;>first | (rw [h];exact Nat.zero_le _) | exact h
theorem zKB {s:S} {c:List V} {k a:Int} {zs:List Int} (h:ShAt s c k a zs) (hC:zs≠[]→∀ z s,okSy z→At1 109 [.ls 0 (prC z)] s) :
  ∀ tm s',(ltAll s c zs.length).pre tm s'→(ltAll s c zs.length).post tm s' (wm.run (Rk Tryz.prog K2 fun _=>ltAll s c zs.length) tm s'):=by
 refine zC (L:=fun _=>ltAll s c zs.length) pcOk0.1 pcOk0.2 zDs (fun tm _=>zs.length - (toI (gp 3 tm)).toNat) (fun _ _ _ _ (h:AllE _ _)=>h.nb) ?_
 rintro tm s' ⟨hE,h240,⟨b,hg1,hB⟩,i,hi,h3⟩ IH
 show AllE _ (wm.run _ tm s')
 have hC':zs≠[]→∀ z s1,okSy z→∃ s2,(Rk Tryz.prog K2 fun _=>ltAll s c zs.length).call 109 [.ls 0 (prC z)] s1=.ret (.bool true) s2∧Ext s1 s2:=by
  intro hz z s1 hz1
  obtain ⟨v,s2,e,hp⟩:=Rk_at (L:=fun _=>ltAll s c zs.length) (hC hz z s1 hz1) ⟨_,_,_,_,rfl,qZ s1 hz1⟩
  obtain ⟨hE2,rfl⟩:=hp _ _ _ _ rfl (qZ s1 hz1)
  exact ⟨s2,e,hE2⟩
 generalize Rk Tryz.prog _ _=r at IH hC' ⊢
 obtain ⟨p,rfl,hP,hK⟩:=h.ext hE
 have hl20:=hK.le
 have hL6:∀ f:V→S→Go.Ev.A,xLoad false 1 (.ptr b 0 6) s' f=f p s':=hB.fld 6 (by omega)
 have hlen:∀ c:V→Go.Ev.A,xLenS p c=c (iv .i64 (zs.length:Int)):=fun c=>by rw [hP.1.len,hP.2.1]
 by_cases hlt:i<zs.length
 ·obtain ⟨q,hq,hQ⟩:=hP.at_ hlt
  have hz:zs≠[]:=fun h=>by rw [h] at hlt;cases hlt
  have hok:=zcG hK hlt
  generalize zs.getD i 0=z0 at hQ hok
  obtain ⟨s2,e2,hE2⟩:=hC' hz z0 s' hok
  have w2:IntKind.i64.wrap ((i:Int)+1)=(i:Int)+1:=zD (by omega) (by omega)
  simp -implicitDefEqProofs [zkM,zhC,gp_sp,hg1,h3,zi,hL6,hlen,ze,zo,hq,hQ,w2,e2,zd,hlt]
  exact IH _ _ (by simp [gp_sp,h3,zp];omega) ⟨hE.trans hE2,by simp [gp_sp,h240],⟨b,by simp [gp_sp,hg1],hB.ext hE2⟩,i+1,by omega,by simp [gp_sp]⟩
 ·simp -implicitDefEqProofs [zkM,zhC,gp_sp,hg1,h3,zi,hL6,hlen,ze,zd,hlt]
  exact ⟨_,_,rfl,by simp [gp_sp,h240],hE⟩
theorem zAK {s:S} {c:List V} {k a:Int} {zs:List Int} (h:ShAt s c k a zs) (hC:zs≠[]→∀ z s,okSy z→At1 109 [.ls 0 (prC z)] s):At1 109 [.ls 0 c] s:=by
 suffices hh:∃ s',(fnC pc0 109).run (Rk Tryz.prog K2 fun _=>ltAll s c zs.length) [.ls 0 c] s=.ret (.bool true) s'∧Ext s s' by
  obtain ⟨s',g1,g2⟩:=hh
  exact ⟨_,s',fn_k2 g1,fun c' k' a' zs' e h'=>⟨g2,rfl⟩⟩
 have hL:=zKB h hC
 have hN:=zn (L:=fun _=>ltAll s c zs.length) zNr
 generalize Rk Tryz.prog _ _=r at hL hN ⊢
 obtain ⟨b1,b2,b3⟩:=qK s (el:=35) h.cells.1 h.cells.2
 have hA:=fun k=>b1.all k
 obtain ⟨w,s2,e,hp⟩:=hN [.ls 0 c] _ ⟨c,k,a,zs,rfl,h.ext b2⟩
 obtain ⟨hE,rfl⟩:=hp _ _ _ _ rfl (h.ext b2)
 simp -implicitDefEqProofs [zhC,gp_sp,qf h,b3,hA,e,zd]
 generalize hA:wm.run r _ _=y
 have:=hA▸hL _ _ ⟨b2.trans hE,by simp [gp_sp],⟨s.nx,by simp [gp_sp],b1.ext hE⟩,0,Nat.zero_le _,by simp [gp_sp]⟩
 obtain ⟨tm',s',rfl,k1,hE'⟩:=this
 exact ⟨s',by simp [zf,gp_sp,k1],hE'⟩
theorem zMv:Holds Tryz.prog K2 109:=by
 rintro a s ⟨c,k,x,zs,rfl,h⟩
 exact zAK h fun _ z s hz=>zAK (qZ s hz) fun h=>absurd rfl h
theorem zNU:Holds Tryz.prog K2 67:=by
 rintro a s ⟨c,k,x,zs,rfl,h⟩
 suffices hh:∃ s',(fnC pc0 67).run (Rk Tryz.prog K2 noL) [.ls 0 c] s=.ret (.bool true) s'∧Ext s s' by
  obtain ⟨s',g1,g2⟩:=hh
  exact ⟨_,s',fn_k2 g1,fun c' k' a' zs' e h'=>⟨g2,rfl⟩⟩
 have hS:=zn (L:=noL) zNj
 have hN:=zn (L:=noL) zMv
 generalize Rk Tryz.prog _ _=r at hS hN ⊢
 obtain ⟨b1,b2,b3⟩:=qK s (el:=35) h.cells.1 h.cells.2
 have hA:=fun k=>b1.all k
 obtain ⟨w,s2,e,hp⟩:=hS [.ls 0 c] _ ⟨c,k,x,zs,rfl,h.ext b2⟩
 obtain ⟨hE,n,rfl,hn⟩:=hp _ _ _ _ rfl (h.ext b2)
 have hE2:=b2.trans hE
 have hA2:=fun k=>(b1.ext hE).all k
 obtain ⟨w,s3,e3,hp⟩:=hN [.ls 0 c] s2 ⟨c,k,x,zs,rfl,h.ext hE2⟩
 obtain ⟨hE3,rfl⟩:=hp _ _ _ _ rfl (h.ext hE2)
 have hle:n≤500:=by
  obtain ⟨_,_,_,hK⟩:=h
  have:=hK.le;omega
 exact ⟨s3,by simp -implicitDefEqProofs [zOs,gp_sp,qf h,b3,hA,e,qx,hle,hA2,e3,zd],hE2.trans hE3⟩
theorem zKK {s:S} {c:List V} {k a:Int} {zs:List Int} (h:ShAt s c k a zs) (hC:zs≠[]→∀ z s,okSy z→At1 68 [.ls 0 (prC z)] s) :
  ∀ tm s',(ltAll s c zs.length).pre tm s'→(ltAll s c zs.length).post tm s' (wg.run (Rk Tryz.prog K2 fun _=>ltAll s c zs.length) tm s'):=by
 refine zC (L:=fun _=>ltAll s c zs.length) pcOk0.1 pcOk0.2 zDS (fun tm _=>zs.length - (toI (gp 3 tm)).toNat) (fun _ _ _ _ (h:AllE _ _)=>h.nb) ?_
 rintro tm s' ⟨hE,h240,⟨b,hg1,hB⟩,i,hi,h3⟩ IH
 show AllE _ (wg.run _ tm s')
 have hC':zs≠[]→∀ z s1,okSy z→∃ s2,(Rk Tryz.prog K2 fun _=>ltAll s c zs.length).call 68 [.ls 0 (prC z)] s1=.ret (.bool true) s2∧Ext s1 s2:=by
  intro hz z s1 hz1
  obtain ⟨v,s2,e,hp⟩:=Rk_at (L:=fun _=>ltAll s c zs.length) (hC hz z s1 hz1) ⟨_,_,_,_,rfl,qZ s1 hz1⟩
  obtain ⟨hE2,rfl⟩:=hp _ _ _ _ rfl (qZ s1 hz1)
  exact ⟨s2,e,hE2⟩
 generalize Rk Tryz.prog _ _=r at IH hC' ⊢
 obtain ⟨p,rfl,hP,hK⟩:=h.ext hE
 have hl20:=hK.le
 have hL6:∀ f:V→S→Go.Ev.A,xLoad false 1 (.ptr b 0 6) s' f=f p s':=hB.fld 6 (by omega)
 have hlen:∀ c:V→Go.Ev.A,xLenS p c=c (iv .i64 (zs.length:Int)):=fun c=>by rw [hP.1.len,hP.2.1]
 by_cases hlt:i<zs.length
 ·obtain ⟨q,hq,hQ⟩:=hP.at_ hlt
  have hz:zs≠[]:=fun h=>by rw [h] at hlt;cases hlt
  have hok:=zcG hK hlt
  generalize zs.getD i 0=z0 at hQ hok
  obtain ⟨s2,e2,hE2⟩:=hC' hz z0 s' hok
  have w2:IntKind.i64.wrap ((i:Int)+1)=(i:Int)+1:=zD (by omega) (by omega)
  simp -implicitDefEqProofs [zjf,zhU,gp_sp,hg1,h3,zi,hL6,hlen,ze,zo,hq,hQ,w2,e2,zd,hlt]
  exact IH _ _ (by simp [gp_sp,h3,zp];omega) ⟨hE.trans hE2,by simp [gp_sp,h240],⟨b,by simp [gp_sp,hg1],hB.ext hE2⟩,i+1,by omega,by simp [gp_sp]⟩
 ·simp -implicitDefEqProofs [zjf,zhU,gp_sp,hg1,h3,zi,hL6,hlen,ze,zd,hlt]
  exact ⟨_,_,rfl,by simp [gp_sp,h240],hE⟩
theorem zzQ {s:S} {c:List V} {k a:Int} {zs:List Int} (h:ShAt s c k a zs) (hC:zs≠[]→∀ z s,okSy z→At1 68 [.ls 0 (prC z)] s):At1 68 [.ls 0 c] s:=by
 suffices hh:∃ s',(fnC pc0 68).run (Rk Tryz.prog K2 fun _=>ltAll s c zs.length) [.ls 0 c] s=.ret (.bool true) s'∧Ext s s' by
  obtain ⟨s',g1,g2⟩:=hh
  exact ⟨_,s',fn_k2 g1,fun c' k' a' zs' e h'=>⟨g2,rfl⟩⟩
 have hL:=zKK h hC
 generalize Rk Tryz.prog _ _=r at hL ⊢
 obtain ⟨b1,b2,b3⟩:=qK s (el:=35) h.cells.1 h.cells.2
 have hcc:=qf h
 have hK:(k≤10):=by
  obtain ⟨_,_,_,hK⟩:=h
  rcases hK with ⟨h,_⟩ | ⟨h,_⟩ | ⟨h,_⟩<;>omega
 have hK':¬(10:Int)<k:=by omega
 obtain ⟨F0,F1,F2⟩:(∀ f:V→S→Go.Ev.A,xLoad false 1 (.ptr s.nx 0 0) (addB s (.row c 7 35 false 0 0 0)) f=f (iv .i64 k) (addB s (.row c 7 35 false 0 0 0)))∧(∀ f:V→S→Go.Ev.A,xLoad false 1 (.ptr s.nx 0 1) (addB s (.row c 7 35 false 0 0 0)) f=f (iv .i64 a) (addB s (.row c 7 35 false 0 0 0)))∧(∀ f:V→S→Go.Ev.A,xLoad false 1 (.ptr s.nx 0 2) (addB s (.row c 7 35 false 0 0 0)) f=f (iv .i64 a) (addB s (.row c 7 35 false 0 0 0))):=by
  obtain ⟨p,rfl,_⟩:=h
  exact ⟨b1.fld 0 (by omega),b1.fld 1 (by omega),b1.fld 2 (by omega)⟩
 generalize addB s (.row c 7 35 false 0 0 0)=s1 at *
 simp -implicitDefEqProofs [zhU,gp_sp,hcc,b3,zi,F0,F1,F2,zw,yZ,hK',zd]
 generalize hA:wg.run r _ _=y
 have:=hA▸hL _ _ ⟨b2,by simp [gp_sp],⟨s.nx,by simp [gp_sp],b1⟩,0,Nat.zero_le _,by simp [gp_sp]⟩
 obtain ⟨tm',s',rfl,k1,hE'⟩:=this
 exact ⟨s',by simp [zf,gp_sp,k1],hE'⟩
theorem zK5:Holds Tryz.prog K2 68:=by
 rintro a s ⟨c,k,x,zs,rfl,h⟩
 exact zzQ h fun _ z s hz=>zzQ (qZ s hz) fun h=>absurd rfl h
theorem zMa:Holds Tryz.prog K2 35:=by
 rintro a s ⟨c,k,x,zs,rfl,h⟩
 suffices hh:∃ s',(fnC pc0 35).run (Rk Tryz.prog K2 noL) [.ls 0 c] s=.ret (.bool true) s'∧Ext s s' by
  obtain ⟨s',g1,g2⟩:=hh
  exact ⟨_,s',fn_k2 g1,fun c' k' a' zs' e h'=>⟨g2,rfl⟩⟩
 have hS:=zn (L:=noL) zNU
 have hN:=zn (L:=noL) zK5
 generalize Rk Tryz.prog _ _=r at hS hN ⊢
 obtain ⟨b1,b2,b3⟩:=qK s (el:=35) h.cells.1 h.cells.2
 have hA:=fun k=>b1.all k
 obtain ⟨w,s2,e,hp⟩:=hS [.ls 0 c] _ ⟨c,k,x,zs,rfl,h.ext b2⟩
 obtain ⟨hE,rfl⟩:=hp _ _ _ _ rfl (h.ext b2)
 have hE2:=b2.trans hE
 have hA2:=fun k=>(b1.ext hE).all k
 obtain ⟨w,s3,e3,hp⟩:=hN [.ls 0 c] s2 ⟨c,k,x,zs,rfl,h.ext hE2⟩
 obtain ⟨hE3,rfl⟩:=hp _ _ _ _ rfl (h.ext hE2)
 exact ⟨s3,by simp -implicitDefEqProofs [zOb,gp_sp,qf h,b3,hA,e,hA2,e3],hE2.trans hE3⟩
def ltW27 (x:V) (s:S):Lt:=⟨fun tm s'=>s'=s∧gp 0 tm=x∧gp 240 tm=.bad∧∃ i:Nat,i≤lenV x∧gp 3 tm=iv .i64 (i:Int),fun _ _ a=>∃ tm',a=.ext 0 tm' s∧gp 240 tm'=.bad∧gp 0 tm'=x⟩
theorem zMZ {x:V} {s:S} (hx:Ints s x) (h20:lenV x≤20) (hs:zHz (word s x)):∀ tm s',(ltW27 x s).pre tm s'→(ltW27 x s).post tm s' (zxi.run (Rk Tryz.prog K2 fun _=>ltW27 x s) tm s'):=by
 refine zC (L:=fun _=>ltW27 x s) pcOk0.1 pcOk0.2 zMW (fun tm _=>lenV x - (toI (gp 3 tm)).toNat) (fun _ _ _ _ h=>by obtain ⟨_,rfl,_⟩:=h;exact fun h=>h) ?_
 rintro tm s' ⟨rfl,h0,h240,i,hi,h3⟩ IH
 have IH':∀ tm' s'',lenV x - (toI (gp 3 tm')).toNat<lenV x - (toI (gp 3 tm)).toNat→(ltW27 x s').pre tm' s''→(ltW27 x s').post tm' s'' ((Rk Tryz.prog K2 fun _=>ltW27 x s').code fiW27 zDv tm' s''):=IH
 clear IH
 show (ltW27 x s').post tm s' (zxi.run _ tm s')
 generalize Rk Tryz.prog _ _=r at IH' ⊢
 by_cases hlt:i<lenV x
 ·obtain ⟨p,hp,hP⟩:=hx.at_ hlt
  have hz:=hs (intV s' x i) (zaz.2 ⟨i,hlt,rfl⟩)
  obtain ⟨z,hzz⟩:∃ z,z=intV s' x i:=⟨_,rfl⟩
  rw [←hzz] at hP hz
  have g1:¬z<1:=by have:=hz.1;omega
  have g2:¬(500:Int)<z:=by have:=hz.2;omega
  have hi40:(i:Int)≤40:=by omega
  have w2:IntKind.i64.wrap ((i:Int)+1)=(i:Int)+1:=zD (by omega) (by omega)
  simp -implicitDefEqProofs [zIv,zIa,gp_sp,h0,h3,hx.1.len,ze,qx,zw,zo,hp,hP,w2,zd,hlt,hi40,g1,g2]
  exact IH' _ _ (by simp [gp_sp,h3,zp];omega) ⟨rfl,by simp [gp_sp,h0],by simp [gp_sp,h240],i+1,by omega,by simp [gp_sp]⟩
 ·simp -implicitDefEqProofs [zIv,zIa,gp_sp,h0,h3,hx.1.len,ze,zd,hlt]
  exact ⟨_,rfl,by simp [gp_sp,h240],by simp [gp_sp,h0]⟩
theorem zOd:Holds Tryz.prog K2 36:=by
 rintro a s ⟨x,rfl,hx,h20,hs⟩
 suffices hh:(fnC pc0 36).run (Rk Tryz.prog K2 fun _=>ltW27 x s) [x] s=.ret (.bool true) s from ⟨_,s,fn_k2 hh,rfl,rfl⟩
 have hL:=zMZ hx h20 hs
 generalize Rk Tryz.prog _ _=r at hL ⊢
 have hle:(lenV x:Int)≤40:=by omega
 simp -implicitDefEqProofs [zIa,zd]
 generalize hA:zxi.run r _ _=y
 have:=hA▸hL _ _ ⟨rfl,by simp [gp_sp],by simp [gp_sp],0,Nat.zero_le _,by simp [gp_sp]⟩
 obtain ⟨tm',rfl,k1,k2⟩:=this
 simp [zf,gp_sp,k1,k2,hx.1.len,qx,hle]
def rowC (n:Nat) (g:Nat→Bool):List V:=(List.range (n+1)).map fun j=>.bool (g j)
def outC (n:Nat) (R:Nat→Go.Ev.K):List V:=(List.range (n+1)).map fun i=>.sl (R i) 0 0 (n+1) (n+1)
structure GridAt (Q:Go.Ev.K→Prop) (s:S) (A:Go.Ev.K) (R:Nat→Go.Ev.K) (n:Nat) (G:Nat→Nat→Bool):Prop where
 qA:Q A
 qR:∀ i,i≤n→Q (R i)
 ltA:A.toNat<s.nx.toNat
 ltR:∀ i,i≤n→(R i).toNat<s.nx.toNat
 getA:Tr.get B.none A s.h=.row (outC n R) (n+1) 98 false 0 0 0
 getR:∀ i,i≤n→Tr.get B.none (R i) s.h=.row (rowC n (G i)) (n+1) 4 false 0 0 0
 inj:∀ i j,i≤n→j≤n→R i=R j→i=j
 neA:∀ i,i≤n→R i≠A
def gridV (A:Go.Ev.K) (n:Nat):V:=.sl A 0 0 (n+1) (n+1)
def Grid (Q:Go.Ev.K→Prop) (s:S) (v:V) (n:Nat) (G:Nat→Nat→Bool):Prop:=∃ A R,v=gridV A n∧GridAt Q s A R n G
def anyK:Go.Ev.K→Prop:=fun _=>True
def qe (s:S):Go.Ev.K→Prop:=fun c=>s.nx.toNat≤c.toNat
theorem GridAt.mono {Q Q':Go.Ev.K→Prop} {s:S} {A:Go.Ev.K} {R:Nat→Go.Ev.K} {n:Nat} {G:Nat→Nat→Bool} (h:GridAt Q s A R n G) (hq:∀ c,c.toNat<s.nx.toNat→Q c→Q' c):GridAt Q' s A R n G :=
 ⟨hq _ h.ltA h.qA,fun i hi=>hq _ (h.ltR i hi) (h.qR i hi),h.ltA,h.ltR,h.getA,h.getR,h.inj,h.neA⟩
theorem Grid.mono {Q Q':Go.Ev.K→Prop} {s:S} {v:V} {n:Nat} {G:Nat→Nat→Bool} (h:Grid Q s v n G) (hq:∀ c,c.toNat<s.nx.toNat→Q c→Q' c):Grid Q' s v n G:=by
 obtain ⟨A,R,h1,h2⟩:=h
 exact ⟨A,R,h1,h2.mono hq⟩
theorem Grid.any {Q:Go.Ev.K→Prop} {s:S} {v:V} {n:Nat} {G:Nat→Nat→Bool} (h:Grid Q s v n G):Grid anyK s v n G:=h.mono fun _ _ _=>trivial
theorem GridAt.keep {Q:Go.Ev.K→Prop} {s s':S} {A:Go.Ev.K} {R:Nat→Go.Ev.K} {n:Nat} {G:Nat→Nat→Bool} (h:GridAt Q s A R n G) (hn:s.nx.toNat≤s'.nx.toNat) (hk:∀ c,c.toNat<s.nx.toNat→Q c→Tr.get B.none c s'.h=Tr.get B.none c s.h):GridAt Q s' A R n G :=
 ⟨h.qA,h.qR,Nat.lt_of_lt_of_le h.ltA hn,fun i hi=>Nat.lt_of_lt_of_le (h.ltR i hi) hn,(hk _ h.ltA h.qA).trans h.getA,fun i hi=>(hk _ (h.ltR i hi) (h.qR i hi)).trans (h.getR i hi),h.inj,h.neA⟩
theorem Grid.keep {Q:Go.Ev.K→Prop} {s s':S} {v:V} {n:Nat} {G:Nat→Nat→Bool} (h:Grid Q s v n G) (hn:s.nx.toNat≤s'.nx.toNat) (hk:∀ c,c.toNat<s.nx.toNat→Q c→Tr.get B.none c s'.h=Tr.get B.none c s.h):Grid Q s' v n G:=by
 obtain ⟨A,R,h1,h2⟩:=h
 exact ⟨A,R,h1,h2.keep hn hk⟩
theorem GridAt.ext {Q:Go.Ev.K→Prop} {s s':S} {A:Go.Ev.K} {R:Nat→Go.Ev.K} {n:Nat} {G:Nat→Nat→Bool} (h:GridAt Q s A R n G) (e:Ext s s'):GridAt Q s' A R n G:=h.keep e.nx fun c hc _=>e.get c hc
theorem Grid.ext {Q:Go.Ev.K→Prop} {s s':S} {v:V} {n:Nat} {G:Nat→Nat→Bool} (h:Grid Q s v n G) (e:Ext s s'):Grid Q s' v n G:=h.keep e.nx fun c hc _=>e.get c hc
theorem zsN {n:Nat} {g g':Nat→Bool} (e:∀ j,j≤n→g j=g' j):rowC n g=rowC n g':=by
 unfold rowC
 apply List.map_congr_left
 intro j hj
 rw [e j (by have:=List.mem_range.1 hj;omega)]
theorem GridAt.congr {Q:Go.Ev.K→Prop} {s:S} {A:Go.Ev.K} {R:Nat→Go.Ev.K} {n:Nat} {G G':Nat→Nat→Bool} (h:GridAt Q s A R n G) (e:∀ i j,i≤n→j≤n→G i j=G' i j):GridAt Q s A R n G' :=
 ⟨h.qA,h.qR,h.ltA,h.ltR,h.getA,fun i hi=>by rw [h.getR i hi,zsN (e i · hi)],h.inj,h.neA⟩
theorem Grid.congr {Q:Go.Ev.K→Prop} {s:S} {v:V} {n:Nat} {G G':Nat→Nat→Bool} (h:Grid Q s v n G) (e:∀ i j,i≤n→j≤n→G i j=G' i j):Grid Q s v n G':=by
 obtain ⟨A,R,h1,h2⟩:=h
 exact ⟨A,R,h1,h2.congr e⟩
theorem zL9 {n:Nat} {g g':Nat→Bool} (h:rowC n g=rowC n g') {j:Nat} (hj:j≤n):g j=g' j:=by
 have:=congrArg (fun l:List V=>l[j]?) h
 simpa [rowC,show j<n+1 by omega] using this
theorem zMB {n:Nat} {R R':Nat→Go.Ev.K} (h:outC n R=outC n R') {j:Nat} (hj:j≤n):R j=R' j:=by
 have:=congrArg (fun l:List V=>l[j]?) h
 simpa [outC,show j<n+1 by omega] using this
theorem Grid.uniq {Q Q':Go.Ev.K→Prop} {s:S} {v:V} {n n':Nat} {G G':Nat→Nat→Bool} (h:Grid Q s v n G) (h':Grid Q' s v n' G'):n=n'∧∀ i j,i≤n→j≤n→G i j=G' i j:=by
 obtain ⟨A,R,rfl,h2⟩:=h
 obtain ⟨A',R',e,h3⟩:=h'
 unfold gridV at e
 injection e with e1 _ _ e2 _
 obtain rfl:n=n':=by omega
 subst e1
 have e3:=h2.getA.symm.trans h3.getA
 injection e3 with e3
 refine ⟨rfl,fun i j hi hj=>?_⟩
 have e4:=zMB e3 hi
 have e5:=h2.getR i hi
 rw [e4,h3.getR i hi] at e5
 injection e5 with e5
 exact (zL9 e5 hj).symm
section
variable {Q:Go.Ev.K→Prop} {s:S} {A:Go.Ev.K} {R:Nat→Go.Ev.K} {n:Nat} {G:Nat→Nat→Bool}
theorem zwW (n:Nat) (g:Nat→Bool):(rowC n g).length=n+1:=by simp [rowC]
theorem zMg (n:Nat) (R:Nat→Go.Ev.K):(outC n R).length=n+1:=by simp [outC]
theorem zGZ {n j:Nat} (g:Nat→Bool) (hj:j≤n):(rowC n g).getD j .bad=.bool (g j):=by simp [rowC,List.getD_eq_getElem?_getD,show j<n+1 by omega]
theorem zE9 {n j:Nat} (R:Nat→Go.Ev.K) (hj:j≤n):(outC n R).getD j .bad=.sl (R j) 0 0 (n+1) (n+1):=by simp [outC,List.getD_eq_getElem?_getD,show j<n+1 by omega]
theorem zNc {n a j:Nat} (hj:j≤n) (b:Bool) (g:Nat→Bool):upd [.bool b] j (rowC n g)=rowC n (fun c=>if a=a∧c=j then b else g c):=by
 apply List.ext_getElem?
 intro m
 rw [zq8 _ _ _ (by rw [zwW];simp;omega)]
 simp only [rowC,List.getElem?_map,List.length_cons,List.length_nil]
 by_cases hm:m=j
 ·subst hm
  simp [show m<n+1 by omega]
 ·rw [if_neg (by omega)]
  by_cases h2:m<n+1
  ·simp [h2,hm]
  ·simp [h2]
theorem zNQ (sz:Nat) (a:Go.Ev.K) (m i:Nat) (k:IntKind) (h:i<m) (c:V→Go.Ev.A):zb sz (.sl a 0 0 m m) (iv k (i:Int)) c=c (.ptr a 0 (0+i*sz)):=by
 show (Bool.rec (motive:=fun _=>Go.Ev.A) _ _ (Nat.blt i m):Go.Ev.A)=_
 rw [show Nat.blt i m=true by rw [zwx];exact decide_eq_true h]
 first | rfl | (show fN _ _=_;rw [fN_eq];rfl)
theorem GridAt.idxA {i:Nat} (hi:i≤n) (k:IntKind) (c:V→Go.Ev.A):zb 1 (gridV A n) (iv k (i:Int)) c=c (.ptr A 0 i):=by
 rw [gridV,zNQ 1 A (n+1) i k (by omega)];simp
theorem GridAt.loadA (h:GridAt Q s A R n G) {i:Nat} (hi:i≤n) (k:V→S→Go.Ev.A):xLoad false 1 (.ptr A 0 i) s k=k (gridV (R i) n) s:=by
 rw [j4 h.getA i (zMg _ _) (by omega) (by rw [zE9 R hi];exact fun h=>by cases h) k,zE9 R hi];rfl
theorem GridAt.loadR (h:GridAt Q s A R n G) {i j:Nat} (hi:i≤n) (hj:j≤n) (k:V→S→Go.Ev.A):xLoad false 1 (.ptr (R i) 0 j) s k=k (.bool (G i j)) s:=by
 rw [j4 (h.getR i hi) j (zwW _ _) (by omega) (by rw [zGZ _ hj];exact fun h=>by cases h) k,zGZ _ hj]
theorem GridAt.store (h:GridAt Q s A R n G) {i j:Nat} (hi:i≤n) (hj:j≤n) (b:Bool):∃ s',(∀ k:V→S→Go.Ev.A,zK 1 (.ptr (R i) 0 j) (.bool b) s k=k Go.Ev.undef s')∧GridAt Q s' A R n (fun a c=>if a=i∧c=j then b else G a c)∧s'.nx=s.nx∧∀ c,c≠R i→Tr.get B.none c s'.h=Tr.get B.none c s.h:=by
 refine ⟨setB s (R i) (.row (upd [.bool b] j (rowC n (G i))) (n+1) 4 false 0 0 0),fun k=>zaA (h.getR i hi) j (.bool b) (fun c=>rfl) (by omega) k,?_,rfl,fun c hc=>by rw [zu,if_neg hc]⟩
 refine ⟨h.qA,h.qR,h.ltA,h.ltR,by rw [zu,if_neg (fun e=>h.neA i hi e.symm),h.getA],fun a ha=>?_,h.inj,h.neA⟩
 rw [zu]
 by_cases e:a=i
 ·subst e
  rw [if_pos rfl]
  congr 1
  exact zNc hj b (G a)
 ·rw [if_neg (fun h2=>e (h.inj _ _ ha hi h2)),h.getR a ha]
  congr 1
  exact zsN fun c _=>by simp [e]
end
theorem Grid.len {Q:Go.Ev.K→Prop} {s:S} {v:V} {n:Nat} {G:Nat→Nat→Bool} (h:Grid Q s v n G) (c:V→Go.Ev.A):xLenS v c=c (iv .i64 ((n+1:Nat):Int)):=by
 obtain ⟨A,R,rfl,_⟩:=h
 rfl
theorem Grid.ne {Q:Go.Ev.K→Prop} {s:S} {v:V} {n:Nat} {G:Nat→Nat→Bool} (h:Grid Q s v n G):v≠.bad:=by
 obtain ⟨A,R,rfl,_⟩:=h
 exact fun h=>by cases h
theorem Grid.read {Q:Go.Ev.K→Prop} {s:S} {v:V} {n:Nat} {G:Nat→Nat→Bool} (h:Grid Q s v n G) {i j:Nat} (hi:i≤n) (hj:j≤n):∃ p r q,(∀ k c,zb 1 v (iv k (i:Int)) c=c p)∧(∀ k:V→S→Go.Ev.A,xLoad false 1 p s k=k r s)∧(∀ k c,zb 1 r (iv k (j:Int)) c=c q)∧∀ k:V→S→Go.Ev.A,xLoad false 1 q s k=k (.bool (G i j)) s:=by
 obtain ⟨A,R,rfl,h⟩:=h
 exact ⟨_,_,_,fun k c=>GridAt.idxA hi k c,fun k=>h.loadA hi k,fun k c=>GridAt.idxA hj k c,fun k=>h.loadR hi hj k⟩
def occ (W u:List Int) (i j:Nat):Prop:=j=i+u.length∧u <+: W.drop i
theorem zDB (W:List Int) (i j:Nat):occ W [] i j↔i=j:=by simp [occ,eq_comm]
theorem zI4 (W:List Int) (z:Int) (i j:Nat):occ W [z] i j↔j=i+1∧W[i]?=some z:=by
 unfold occ
 refine and_congr Iff.rfl ?_
 constructor
 ·rintro ⟨t,e⟩
  have:=congrArg (fun l:List Int=>l[0]?) e
  simpa using this.symm
 ·intro h
  have hi:i<W.length:=by
   rcases Nat.lt_or_ge i W.length with h2 | h2
   ·exact h2
   ·rw [List.getElem?_eq_none h2] at h;cases h
  rw [List.getElem?_eq_getElem hi] at h
  exact ⟨W.drop (i+1),by rw [List.drop_eq_getElem_cons hi (l:=W)];injection h with h;rw [h];rfl⟩
theorem zME (W u v:List Int) (i j:Nat):occ W (u++v) i j↔∃ k,occ W u i k∧occ W v k j:=by
 unfold occ
 constructor
 ·rintro ⟨h1,t,e⟩
  refine ⟨i+u.length,⟨rfl,v++t,by rw [←e,List.append_assoc]⟩,by rw [h1,List.length_append];omega,t,?_⟩
  rw [←List.drop_drop,←e,List.append_assoc,List.drop_left]
 ·rintro ⟨k,⟨rfl,t,e⟩,rfl,t',e'⟩
  refine ⟨by rw [List.length_append];omega,t',?_⟩
  rw [←List.drop_drop,←e,List.drop_left] at e'
  rw [←e,←e',List.append_assoc]
open Classical in
noncomputable def pG (W u:List Int) (i j:Nat):Bool:=decide (occ W u i j)
open Classical in
noncomputable def joinG (A B:Nat→Nat→Bool) (i j:Nat):Bool:=decide (∃ k,i≤k∧k≤j∧A i k=true∧B k j=true)
theorem zL5 {W u:List Int} {i j:Nat} (h:occ W u i j):i≤j:=by rw [h.1];omega
open Classical in
theorem zNh (W u v:List Int) (i j:Nat):joinG (pG W u) (pG W v) i j=pG W (u++v) i j:=by
 unfold joinG pG
 rw [decide_eq_decide,zME]
 exact ⟨fun ⟨k,_,_,h1,h2⟩=>⟨k,of_decide_eq_true h1,of_decide_eq_true h2⟩,fun ⟨k,h1,h2⟩=>⟨k,zL5 h1,zL5 h2,decide_eq_true h1,decide_eq_true h2⟩⟩
def wOf (k a:Int) (zs:List Int):List Int:=if k=1 then [] else if k=2 then [a] else zs
open Classical in
noncomputable def K3:Nat→Ct
 | 165=>⟨fun a _=>∃ n:Nat,a=[iv .i64 (n:Int)]∧n≤20,fun a s v s'=>∀ n:Nat,a=[iv .i64 (n:Int)]→Ext s s'∧Grid (qe s) s' v n (fun _ _=>false)⟩
 | 161=>⟨fun a _=>∃ n:Nat,a=[iv .i64 (n:Int)]∧n≤20,fun a s v s'=>∀ n:Nat,a=[iv .i64 (n:Int)]→Ext s s'∧Grid (qe s) s' v n (fun i j=>decide (i=j))⟩
 | 162=>⟨fun a s=>∃ x y n A B,a=[x,y]∧Grid anyK s x n A∧Grid anyK s y n B∧n≤20,fun a s v s'=>∀ x y n A B,a=[x,y]→Grid anyK s x n A→Grid anyK s y n B→Ext s s'∧Grid (qe s) s' v n (joinG A B)⟩
 | 166=>⟨fun a s=>∃ c z l x,∃ sg:Int,∃ i j:Nat,a=[.ls 0 c,l,iv .i64 sg,x,iv .i64 (i:Int),iv .i64 (j:Int)]∧ShAt s c 2 z []∧Ints s x∧lenV x≤20∧i≤j∧j≤lenV x,fun a s v s'=>∀ c z l x,∀ sg:Int,∀ i j:Nat,a=[.ls 0 c,l,iv .i64 sg,x,iv .i64 (i:Int),iv .i64 (j:Int)]→ShAt s c 2 z []→Ext s s'∧v=.bool (pG (word s x) [z] i j)⟩
 | 111=>⟨fun a s=>∃ c k z zs x,∃ sg:Int,a=[.ls 0 c,iv .i64 sg,x]∧ShAt s c k z zs∧Ints s x∧lenV x≤20,fun a s v s'=>∀ c k z zs x,∀ sg:Int,a=[.ls 0 c,iv .i64 sg,x]→ShAt s c k z zs→Ext s s'∧Grid (qe s) s' v (lenV x) (pG (word s x) (wOf k z zs))⟩
 | f=>K2 f
theorem fn_k3 {L:Nat→Lt} {f:Nat} {a:List V} {s s':S} {v:V} (h:(fnC pc0 f).run (Rk Tryz.prog K3 L) a s=.ret v s'):CallX Tryz.prog f a s v s':=jW pcOk0.1 pcOk0.2 (Rk_ok pc0 K3 L) h
theorem hold3 {f:Nat} (h:Holds Tryz.prog K2 f) (e:K3 f=K2 f):Holds Tryz.prog K3 f:=by
 unfold Holds at h ⊢
 rw [e];exact h
def kR (A:Go.Ev.K):Nat→Go.Ev.K
 | 0=>A.succ
 | j+1=>(kR A j).succ
theorem zcC (A:Go.Ev.K):∀ j,(kR A j).toNat=A.toNat+j+1
 | 0=>by rw [kR,K.toNat_succ]
 | j+1=>by rw [kR,K.toNat_succ,zcC A j];omega
theorem zDr (x:V):∀ n,rep [x] n=List.replicate n x
 | 0=>rfl
 | n+1=>by rw [rep,zDr x n];rfl
theorem zNm (n:Nat):rep [.bool false] (n+1)=rowC n (fun _=>false):=by
 rw [zDr]
 apply List.ext_getElem (by simp [rowC])
 intro i h1 h2
 simp [rowC]
def parC (n i:Nat) (R:Nat→Go.Ev.K):List V:=(List.range (n+1)).map fun j=>if j<i then .sl (R j) 0 0 (n+1) (n+1) else .nil 1
theorem zMI (n:Nat) (R:Nat→Go.Ev.K):rep [.nil 1] (n+1)=parC n 0 R:=by
 rw [zDr]
 apply List.ext_getElem (by simp [parC])
 intro i h1 h2
 simp [parC]
theorem zD2 (n i:Nat) (R:Nat→Go.Ev.K):(parC n i R).length=n+1:=by simp [parC]
theorem zM7 {n i:Nat} (hi:i≤n) (R:Nat→Go.Ev.K):upd [.sl (R i) 0 0 (n+1) (n+1)] i (parC n i R)=parC n (i+1) R:=by
 apply List.ext_getElem?
 intro m
 rw [zq8 _ _ _ (by rw [zD2];simp;omega)]
 simp only [parC,List.getElem?_map,List.length_cons,List.length_nil]
 by_cases hm:m=i
 ·subst hm
  simp [show m<n+1 by omega]
 ·rw [if_neg (by omega)]
  by_cases h2:m<n+1
  ·simp [h2]
   by_cases h3:m<i
   ·rw [if_pos h3,if_pos (by omega)]
   ·rw [if_neg h3,if_neg (by omega)]
  ·simp [h2]
theorem zNv (n:Nat) (R:Nat→Go.Ev.K):parC n (n+1) R=outC n R:=by
 unfold parC outC
 apply List.map_congr_left
 intro j hj
 rw [if_pos (by have:=List.mem_range.1 hj;omega)]
structure ParG (s0 s:S) (A:Go.Ev.K) (n i:Nat):Prop where
 ext:Ext s0 s
 nx:s.nx.toNat=A.toNat+i+1
 base:s0.nx.toNat≤A.toNat
 getA:Tr.get B.none A s.h=.row (parC n i (kR A)) (n+1) 98 false 0 0 0
 getR:∀ j,j<i→Tr.get B.none (kR A j) s.h=.row (rowC n (fun _=>false)) (n+1) 4 false 0 0 0
theorem ParG.grid {s0 s:S} {A:Go.Ev.K} {n:Nat} (h:ParG s0 s A n (n+1)):Grid (qe s0) s (gridV A n) n (fun _ _=>false):=by
 have h1:=h.nx
 have h2:=h.base
 refine ⟨A,kR A,rfl,⟨h2,fun i hi=>?_,by omega,fun i hi=>?_,by rw [h.getA,zNv],fun i hi=>h.getR i (by omega),fun i j hi hj e=>?_,fun i hi e=>?_⟩⟩
 ·show _≤_
  rw [zcC];omega
 ·rw [zcC];omega
 ·have:=congrArg K.toNat e
  rw [zcC,zcC] at this;omega
 ·have:=congrArg K.toNat e
  rw [zcC] at this;omega
theorem toNat_inj {a b:Go.Ev.K} (h:a.toNat=b.toNat):a=b:=by
 first | exact K.toNat_inj h | exact K.ext_nat h
theorem zI8 {n m:Nat} (h:[iv .i64 (n:Int)]=[iv .i64 (m:Int)]):n=m:=by
 simp only [List.cons.injEq,and_true] at h
 have:=ww h
 omega
theorem zN1 {n:Nat} (hn:n≤20) (s:S) (k:V→S→Go.Ev.A):yy 4 1 [.bool false] (iv .i64 ((n:Int)+1)) (iv .i64 ((n:Int)+1)) s k=k (gridV s.nx n) (addB s (.row (rowC n fun _=>false) (n+1) 4 false 0 0 0)):=by
 rw [show (n:Int)+1=((n+1:Nat):Int) by omega,zIL 4 1 [.bool false] (n+1) (by omega) (by omega),qC,zNm,zwW];rfl
theorem zNE {n:Nat} (hn:n≤20) (R:Nat→Go.Ev.K) (s:S) (k:V→S→Go.Ev.A):yy 98 24 [.nil 1] (iv .i64 ((n:Int)+1)) (iv .i64 ((n:Int)+1)) s k=k (gridV s.nx n) (addB s (.row (parC n 0 R) (n+1) 98 false 0 0 0)):=by
 rw [show (n:Int)+1=((n+1:Nat):Int) by omega,zIL 98 24 [.nil 1] (n+1) (by omega) (by omega),qC,zMI n R,zD2];rfl
def NoOut (s0:S) (A:Go.Ev.K) (n:Nat) (a:Go.Ev.A):Prop:=∃ tm' s',a=.ext 0 tm' s'∧gp 240 tm'=.bad∧gp 3 tm'=gridV A n∧ParG s0 s' A n (n+1)
def ltNoP (s0:S) (A:Go.Ev.K) (n:Nat):Lt:=⟨fun tm s'=>gp 0 tm=iv .i64 (n:Int)∧gp 3 tm=gridV A n∧gp 240 tm=.bad∧∃ i:Nat,i≤n+1∧gp 4 tm=iv .i64 (i:Int)∧ParG s0 s' A n i,
 fun _ _ a=>NoOut s0 A n a⟩
theorem zNB {s0:S} {A:Go.Ev.K} {n:Nat} (hn:n≤20):∀ tm s',(ltNoP s0 A n).pre tm s'→(ltNoP s0 A n).post tm s' (ze7.run (Rk Tryz.prog K3 fun _=>ltNoP s0 A n) tm s'):=by
 refine zC (L:=fun _=>ltNoP s0 A n) pcOk0.1 pcOk0.2 zJ3 (fun tm _=>n+1 - (toI (gp 4 tm)).toNat) (fun _ _ _ _ h=>by obtain ⟨_,_,rfl,_⟩:∃ tm' s',_∧_:=h;exact fun h=>h) ?_
 rintro tm s' ⟨h0,h3,h240,i,hi,h4,hG⟩ IH
 show NoOut s0 A n (ze7.run _ tm s')
 generalize Rk Tryz.prog _ _=r at IH ⊢
 have w1:IntKind.i64.wrap ((n:Int)+1)=(n:Int)+1:=zD (by omega) (by omega)
 have w2:IntKind.i64.wrap ((i:Int)+1)=(i:Int)+1:=zD (by omega) (by omega)
 by_cases hlt:i≤n
 ·have hb:=hG.base
  have hnx:=hG.nx
  have eK:s'.nx=kR A i:=K.toNat_inj (by rw [hnx,zcC])
  have hE:=zP s' (.row (rowC n fun _=>false) (n+1) 4 false 0 0 0)
  have hA:Tr.get B.none A (addB s' (.row (rowC n fun _=>false) (n+1) 4 false 0 0 0)).h=.row (parC n i (kR A)) (n+1) 98 false 0 0 0:=(hE.get A (by omega)).trans hG.getA
  have hst:∀ k:V→S→Go.Ev.A,zK 1 (.ptr A 0 i) (gridV (kR A i) n) _ k=_:=zaA hA i (.sl (kR A i) 0 0 (n+1) (n+1)) (fun c=>rfl) (by omega)
  rw [zM7 hlt] at hst
  simp -implicitDefEqProofs [zCd,zs7,gp_sp,h0,h3,h4,qx,zo,w1,zd,hlt,zN1 hn,GridAt.idxA hlt,eK,hst,w2]
  refine IH _ _ (by simp [gp_sp,h4,zp];omega) ⟨by simp [gp_sp,h0],by simp [gp_sp,h3],by simp [gp_sp,h240],i+1,by omega,by simp [gp_sp],?_⟩
  refine ⟨⟨?_,fun c hc=>?_⟩,?_,hb,by rw [zu,if_pos rfl],fun j hj=>?_⟩
  ·have:=(hG.ext.trans hE).nx;simpa using this
  ·rw [zu,if_neg (fun e=>by rw [e] at hc;omega)];exact (hG.ext.trans hE).get c hc
  ·show s'.nx.succ.toNat=_
   rw [K.toNat_succ,hnx];omega
  ·rw [zu,if_neg (fun e=>by have:=congrArg K.toNat e;rw [zcC] at this;omega)]
   by_cases hji:j=i
   ·subst hji
    rw [←eK,zS]
   ·rw [hE.get _ (by rw [zcC,hnx];omega)]
    exact hG.getR j (by omega)
 ·simp -implicitDefEqProofs [zCd,zs7,gp_sp,h0,h4,qx,zd,hlt]
  obtain rfl:i=n+1:=by omega
  exact ⟨_,_,rfl,by simp [gp_sp,h240],by simp [gp_sp,h3],hG⟩
theorem zH7:Holds Tryz.prog K3 165:=by
 rintro a s ⟨n,rfl,hn⟩
 suffices hh:∃ v s',(fnC pc0 165).run (Rk Tryz.prog K3 fun _=>ltNoP s s.nx n) [iv .i64 (n:Int)] s=.ret v s'∧Ext s s'∧Grid (qe s) s' v n (fun _ _=>false) by
  obtain ⟨v,s',g1,g2⟩:=hh
  refine ⟨_,s',fn_k3 g1,fun n' e=>?_⟩
  cases zI8 e
  exact g2
 have hL:=zNB (s0:=s) (A:=s.nx) hn
 generalize Rk Tryz.prog _ _=r at hL ⊢
 have w1:IntKind.i64.wrap ((n:Int)+1)=(n:Int)+1:=zD (by omega) (by omega)
 simp -implicitDefEqProofs [zs7,gp_sp,zo,w1,zNE hn (kR s.nx),zd]
 generalize hA:ze7.run r _ _=y
 have:=hA▸hL _ _ ⟨by simp [gp_sp],by simp [gp_sp],by simp [gp_sp],0,by omega,by simp [gp_sp],⟨zP _ _,by show s.nx.succ.toNat=_;rw [K.toNat_succ],Nat.le_refl _,zS _ _,fun j hj=>by omega⟩⟩
 obtain ⟨tm',s',rfl,k1,k3,hG⟩:=this
 exact ⟨_,s',by simp [zf,gp_sp,k1,k3],hG.ext,hG.grid⟩
def EmOut (s0:S) (n:Nat) (a:Go.Ev.A):Prop:=∃ tm' s',a=.ext 0 tm' s'∧gp 240 tm'=.bad∧Ext s0 s'∧Grid (qe s0) s' (gp 3 tm') n (fun i j=>decide (i=j))
def ltEmP (s0:S) (n:Nat):Lt:=⟨fun tm s'=>gp 0 tm=iv .i64 (n:Int)∧gp 240 tm=.bad∧Ext s0 s'∧∃ A R,gp 3 tm=gridV A n∧∃ i:Nat,i≤n+1∧gp 4 tm=iv .i64 (i:Int)∧GridAt (qe s0) s' A R n (fun a c=>decide (a=c∧a<i)),
 fun _ _ a=>EmOut s0 n a⟩
theorem yR {s0 s s':S} {r:Go.Ev.K} (hE:Ext s0 s) (hr:s0.nx.toNat≤r.toNat) (hn:s'.nx=s.nx) (hk:∀ c,c≠r→Tr.get B.none c s'.h=Tr.get B.none c s.h):Ext s0 s' :=
 ⟨by rw [hn];exact hE.nx,fun c hc=>by rw [hk c (fun e=>by rw [e] at hc;omega)];exact hE.get c hc⟩
theorem zMU {s0:S} {n:Nat} (hn:n≤20):∀ tm s',(ltEmP s0 n).pre tm s'→(ltEmP s0 n).post tm s' (zdI.run (Rk Tryz.prog K3 fun _=>ltEmP s0 n) tm s'):=by
 refine zC (L:=fun _=>ltEmP s0 n) pcOk0.1 pcOk0.2 zJZ (fun tm _=>n+1 - (toI (gp 4 tm)).toNat) (fun _ _ _ _ h=>by obtain ⟨_,_,rfl,_⟩:∃ tm' s',_∧_:=h;exact fun h=>h) ?_
 rintro tm s' ⟨h0,h240,hE,A,R,h3,i,hi,h4,hG⟩ IH
 show EmOut s0 n (zdI.run _ tm s')
 generalize Rk Tryz.prog _ _=r at IH ⊢
 have w2:IntKind.i64.wrap ((i:Int)+1)=(i:Int)+1:=zD (by omega) (by omega)
 by_cases hlt:i≤n
 ·obtain ⟨s2,hst,hG2,hn2,hk2⟩:=hG.store hlt hlt true
  simp -implicitDefEqProofs [zz2,zxx,gp_sp,h0,h3,h4,qx,zo,zd,hlt,GridAt.idxA hlt,hG.loadA hlt,hst,w2]
  exact IH _ _ (by simp [gp_sp,h4,zp];omega) ⟨by simp [gp_sp,h0],by simp [gp_sp,h240],yR hE (hG.qR i hlt) hn2 hk2,A,R,by simp [gp_sp,h3],i+1,by omega,by simp [gp_sp],hG2.congr fun a c _ _=>by
   by_cases e:a=i∧c=i
   ·obtain ⟨rfl,rfl⟩:=e;simp
   ·rw [if_neg e,decide_eq_decide];omega⟩
 ·simp -implicitDefEqProofs [zz2,zxx,gp_sp,h0,h4,qx,zd,hlt]
  exact ⟨_,_,rfl,by simp [gp_sp,h240],hE,A,R,by simp [gp_sp,h3],hG.congr fun a c _ _=>by rw [decide_eq_decide];omega⟩
theorem zNW:Holds Tryz.prog K3 161:=by
 rintro a s ⟨n,rfl,hn⟩
 suffices hh:∃ v s',(fnC pc0 161).run (Rk Tryz.prog K3 fun _=>ltEmP s n) [iv .i64 (n:Int)] s=.ret v s'∧Ext s s'∧Grid (qe s) s' v n (fun i j=>decide (i=j)) by
  obtain ⟨v,s',g1,g2⟩:=hh
  refine ⟨_,s',fn_k3 g1,fun n' e=>?_⟩
  cases zI8 e
  exact g2
 have hL:=zMU (s0:=s) hn
 have hN:=zn (L:=fun _=>ltEmP s n) zH7
 generalize Rk Tryz.prog _ _=r at hL hN ⊢
 obtain ⟨v1,s1,e1,p1⟩:=hN [iv .i64 (n:Int)] s ⟨n,rfl,hn⟩
 obtain ⟨hE1,A,R,rfl,hG1⟩:=p1 n rfl
 simp -implicitDefEqProofs [zxx,gp_sp,e1,zd]
 generalize hA:zdI.run r _ _=y
 have:=hA▸hL _ _ ⟨by simp [gp_sp],by simp [gp_sp],hE1,A,R,by simp [gp_sp],0,by omega,by simp [gp_sp],hG1.congr fun a c _ _=>by simp⟩
 obtain ⟨tm',s',rfl,k1,hE,hG⟩:=this
 exact ⟨_,s',by simp [zf,gp_sp,k1],hE,hG⟩
open Classical in
noncomputable def jG (A B:Nat→Nat→Bool) (i k j:Nat) (a c:Nat):Bool:=decide (∃ m,a≤m∧m≤c∧A a m=true∧B m c=true∧(a<i∨a=i∧(m<k∨m=k∧c<j)))
open Classical in
theorem zNy {A B:Nat→Nat→Bool} {i k j:Nat} (hA:A i k=true) (h1:i≤k) (h2:k≤j) (a c:Nat):(if a=i∧c=j then (jG A B i k j i j || B k j) else jG A B i k j a c)=jG A B i k (j+1) a c:=by
 unfold jG
 by_cases e:a=i∧c=j
 ·obtain ⟨rfl,rfl⟩:=e
  rw [if_pos ⟨rfl,rfl⟩,Bool.eq_iff_iff,Bool.or_eq_true,decide_eq_true_eq,decide_eq_true_eq]
  constructor
  ·rintro (⟨m,q1,q2,q3,q4,q5⟩ | hB)
   ·exact ⟨m,q1,q2,q3,q4,by omega⟩
   ·exact ⟨k,h1,h2,hA,hB,by omega⟩
  ·rintro ⟨m,q1,q2,q3,q4,q5⟩
   by_cases hm:m=k
   ·subst hm;exact .inr q4
   ·exact .inl ⟨m,q1,q2,q3,q4,by omega⟩
 ·rw [if_neg e,decide_eq_decide]
  constructor
  ·rintro ⟨m,q1,q2,q3,q4,q5⟩
   exact ⟨m,q1,q2,q3,q4,by omega⟩
  ·rintro ⟨m,q1,q2,q3,q4,q5⟩
   exact ⟨m,q1,q2,q3,q4,by omega⟩
open Classical in
theorem jG_k {A B:Nat→Nat→Bool} {n i k j:Nat} (h:A i k=false∨j=n+1) (a c:Nat) (hc:c≤n):jG A B i k j a c=jG A B i (k+1) (k+1) a c:=by
 unfold jG
 rw [decide_eq_decide]
 constructor
 ·rintro ⟨m,q1,q2,q3,q4,q5⟩
  exact ⟨m,q1,q2,q3,q4,by omega⟩
 ·rintro ⟨m,q1,q2,q3,q4,q5⟩
  refine ⟨m,q1,q2,q3,q4,?_⟩
  rcases h with h | h
  ·by_cases e:a=i∧m=k
   ·obtain ⟨rfl,rfl⟩:=e
    rw [h] at q3;cases q3
   ·omega
  ·omega
open Classical in
theorem jG_i {A B:Nat→Nat→Bool} {n i j:Nat} (a c:Nat) (hc:c≤n):jG A B i (n+1) j a c=jG A B (i+1) (i+1) (i+1) a c:=by
 unfold jG
 rw [decide_eq_decide]
 constructor
 ·rintro ⟨m,q1,q2,q3,q4,q5⟩
  exact ⟨m,q1,q2,q3,q4,by omega⟩
 ·rintro ⟨m,q1,q2,q3,q4,q5⟩
  exact ⟨m,q1,q2,q3,q4,by omega⟩
open Classical in
theorem jG_0 {A B:Nat→Nat→Bool} (a c:Nat):jG A B 0 0 0 a c=false:=by
 unfold jG
 rw [decide_eq_false_iff_not]
 rintro ⟨m,q1,q2,q3,q4,q5⟩
 omega
open Classical in
theorem jG_n {A B:Nat→Nat→Bool} {n k j:Nat} (a c:Nat) (ha:a≤n):jG A B (n+1) k j a c=joinG A B a c:=by
 unfold jG joinG
 rw [decide_eq_decide]
 constructor
 ·rintro ⟨m,q1,q2,q3,q4,q5⟩
  exact ⟨m,q1,q2,q3,q4⟩
 ·rintro ⟨m,q1,q2,q3,q4⟩
  exact ⟨m,q1,q2,q3,q4,by omega⟩
structure JF (s0:S) (x y:V) (n:Nat) (G:Nat→Nat→Bool) (tm:T) (s:S):Prop where
 ext:Ext s0 s
 g0:gp 0 tm=x
 g1:gp 1 tm=y
 b:gp 240 tm=.bad
 grid:Grid (qe s0) s (gp 5 tm) n G
def JOut (s0:S) (x y:V) (n:Nat) (G:Nat→Nat→Bool) (id:Nat) (f:T→Prop) (a:Go.Ev.A):Prop:=∃ tm' s',a=.ext id tm' s'∧JF s0 x y n G tm' s'∧f tm'
theorem JOut.nb {s0:S} {x y:V} {n:Nat} {G:Nat→Nat→Bool} {id:Nat} {f:T→Prop} {a:Go.Ev.A} (h:JOut s0 x y n G id f a):¬a.isBad:=by obtain ⟨_,_,rfl,_⟩:=h;exact fun h=>h
def ltJ (s0:S) (x y:V) (n:Nat) (A B:Nat→Nat→Bool):Nat→Lt
 | 50=>⟨fun tm s=>∃ i k j:Nat,i≤k∧k≤j∧k≤n∧j≤n+1∧gp 6 tm=iv .i64 (i:Int)∧gp 7 tm=iv .i64 (k:Int)∧gp 8 tm=iv .i64 (j:Int)∧JF s0 x y n (jG A B i k j) tm s,
   fun tm _ a=>∀ i k:Nat,gp 6 tm=iv .i64 (i:Int)→gp 7 tm=iv .i64 (k:Int)→JOut s0 x y n (jG A B i (k+1) (k+1)) 4 (fun tm'=>gp 6 tm'=iv .i64 (i:Int)∧gp 7 tm'=iv .i64 (k:Int)) a⟩
 | 72=>⟨fun tm s=>∃ i k:Nat,i≤k∧k≤n+1∧i≤n∧gp 6 tm=iv .i64 (i:Int)∧gp 7 tm=iv .i64 (k:Int)∧JF s0 x y n (jG A B i k k) tm s,
   fun tm _ a=>∀ i:Nat,gp 6 tm=iv .i64 (i:Int)→JOut s0 x y n (jG A B (i+1) (i+1) (i+1)) 2 (fun tm'=>gp 6 tm'=iv .i64 (i:Int)) a⟩
 | _=>⟨fun tm s=>∃ i:Nat,i≤n+1∧gp 6 tm=iv .i64 (i:Int)∧JF s0 x y n (jG A B i i i) tm s,
   fun _ _ a=>JOut s0 x y n (joinG A B) 0 (fun _=>True) a⟩
theorem j6 {i j:Nat} (h:iv .i64 (i:Int)=iv .i64 (j:Int)):i=j:=by have:=ww h;omega
section
variable {s0:S} {x y:V} {n:Nat} {A B:Nat→Nat→Bool}
theorem zNZ (hn:n≤20) (hx:Grid anyK s0 x n A) (hy:Grid anyK s0 y n B):∀ tm s',(ltJ s0 x y n A B 50).pre tm s'→(ltJ s0 x y n A B 50).post tm s' (zbO.run (Rk Tryz.prog K3 (ltJ s0 x y n A B)) tm s'):=by
 refine zC (L:=ltJ s0 x y n A B) pcOk0.1 pcOk0.2 zHm (fun tm _=>n+1 - (toI (gp 8 tm)).toNat) ?_ ?_
 ·rintro tm s a ⟨i,k,j,_,_,_,_,h6,h7,_⟩ h
  exact (h i k h6 h7).nb
 rintro tm s' ⟨i,k,j,hik,hkj,hk,hj,h6,h7,h8,hF⟩ IH i' k' e6 e7
 obtain rfl:=j6 (h6.symm.trans e6)
 obtain rfl:=j6 (h7.symm.trans e7)
 clear e6 e7
 have IH':∀ tm' s2,n+1 - (toI (gp 8 tm')).toNat<n+1 - (toI (gp 8 tm)).toNat→gp 6 tm'=iv .i64 (i:Int)→gp 7 tm'=iv .i64 (k:Int)→(ltJ s0 x y n A B 50).pre tm' s2→JOut s0 x y n (jG A B i (k+1) (k+1)) 4 (fun tm'=>gp 6 tm'=iv .i64 (i:Int)∧gp 7 tm'=iv .i64 (k:Int)) ((Rk Tryz.prog K3 (ltJ s0 x y n A B)).code qB zbS tm' s2):=fun tm' s2 h1 h2 h3 h4=>IH tm' s2 h1 h4 i k h2 h3
 clear IH
 show JOut _ _ _ _ _ _ _ (zbO.run _ tm s')
 generalize Rk Tryz.prog _ _=r at IH' ⊢
 have w2:IntKind.i64.wrap ((j:Int)+1)=(j:Int)+1:=zD (by omega) (by omega)
 have hlen:=(hx.ext hF.ext).len
 have hi:i≤n:=by omega
 obtain ⟨p1,r1,q1,a1,a2,a3,a4⟩:=(hx.ext hF.ext).read hi hk
 by_cases hA:A i k=true
 ·rw [hA] at a4
  by_cases hlt:j≤n
  ·have hlt':(j:Int)<(n:Int)+1:=by omega
   obtain ⟨p2,r2,q2,b1,b2,b3,b4⟩:=(hy.ext hF.ext).read hk hlt
   obtain ⟨PA,PR,eP,hG⟩:=hF.grid
   obtain ⟨s2,hst,hG2,hn2,hk2⟩:=hG.store hi hlt (jG A B i k j i j || B k j)
   have hE2:=yR hF.ext (hG.qR i hi) hn2 hk2
   have next:∀ tm',gp 8 tm'=iv .i64 ((j+1:Nat):Int)→gp 6 tm'=iv .i64 (i:Int)→gp 7 tm'=iv .i64 (k:Int)→gp 0 tm'=x→gp 1 tm'=y→gp 5 tm'=gridV PA n→gp 240 tm'=.bad→JOut s0 x y n (jG A B i (k+1) (k+1)) 4 (fun tm'=>gp 6 tm'=iv .i64 (i:Int)∧gp 7 tm'=iv .i64 (k:Int)) (r.code qB zbS tm' s2):=by
    intro tm' t8 t6 t7 t0 t1 t5 tb
    refine IH' tm' s2 (by rw [t8,h8,zp,zp];omega) t6 t7 ⟨i,k,j+1,hik,by omega,hk,by omega,t6,t7,t8,hE2,t0,t1,tb,?_⟩
    exact ⟨PA,PR,t5,hG2.congr fun a c _ _=>zNy hA hik hkj a c⟩
   by_cases hT:jG A B i k j i j=true
   ·have l1:=fun k=>hG.loadR hi hlt k
    rw [hT] at l1
    rw [hT,Bool.true_or] at hst
    simp -implicitDefEqProofs [zc1,jt,gp_sp,hF.g0,eP,h6,h7,h8,hlen,ze,zo,a1,a2,a3,a4,hlt',GridAt.idxA hi,GridAt.idxA hlt,hG.loadA hi,l1,zd,hst,w2]
    exact next _ (by simp [gp_sp]) (by simp [gp_sp,h6]) (by simp [gp_sp,h7]) (by simp [gp_sp,hF.g0]) (by simp [gp_sp,hF.g1]) (by simp [gp_sp,eP]) (by simp [gp_sp,hF.b])
   ·have hT':jG A B i k j i j=false:=by simpa using hT
    have l1:=fun k=>hG.loadR hi hlt k
    rw [hT'] at l1
    rw [hT',Bool.false_or] at hst
    simp -implicitDefEqProofs [zc1,jt,gp_sp,hF.g0,hF.g1,eP,h6,h7,h8,hlen,ze,zo,a1,a2,a3,a4,hlt',GridAt.idxA hi,GridAt.idxA hlt,hG.loadA hi,l1,b1,b2,b3,b4,zd,hst,w2]
    exact next _ (by simp [gp_sp]) (by simp [gp_sp,h6]) (by simp [gp_sp,h7]) (by simp [gp_sp,hF.g0]) (by simp [gp_sp,hF.g1]) (by simp [gp_sp,eP]) (by simp [gp_sp,hF.b])
  ·have hlt':¬(j:Int)<(n:Int)+1:=by omega
   simp -implicitDefEqProofs [zc1,jt,gp_sp,hF.g0,h6,h7,h8,hlen,ze,a1,a2,a3,a4,hlt',zd]
   refine ⟨_,_,rfl,⟨hF.ext,by simp [gp_sp,hF.g0],by simp [gp_sp,hF.g1],by simp [gp_sp,hF.b],(by simpa [gp_sp] using hF.grid:Grid _ _ _ _ _).congr fun a c _ hc=>jG_k (.inr (by omega)) a c hc⟩,by simp [gp_sp,h6],by simp [gp_sp,h7]⟩
 ·have hA':A i k=false:=by simpa using hA
  rw [hA'] at a4
  simp -implicitDefEqProofs [zc1,jt,gp_sp,hF.g0,h6,h7,a1,a2,a3,a4]
  refine ⟨_,_,rfl,⟨hF.ext,by simp [gp_sp,hF.g0],by simp [gp_sp,hF.g1],by simp [gp_sp,hF.b],(by simpa [gp_sp] using hF.grid:Grid _ _ _ _ _).congr fun a c _ hc=>jG_k (n:=n) (.inl hA') a c hc⟩,by simp [gp_sp,h6],by simp [gp_sp,h7]⟩
theorem zNX (hn:n≤20) (hx:Grid anyK s0 x n A) (hy:Grid anyK s0 y n B):∀ tm s',(ltJ s0 x y n A B 72).pre tm s'→(ltJ s0 x y n A B 72).post tm s' (zcf.run (Rk Tryz.prog K3 (ltJ s0 x y n A B)) tm s'):=by
 refine zC (L:=ltJ s0 x y n A B) pcOk0.1 pcOk0.2 zIi (fun tm _=>n+1 - (toI (gp 7 tm)).toNat) ?_ ?_
 ·rintro tm s a ⟨i,k,_,_,_,h6,_⟩ h
  exact (h i h6).nb
 rintro tm s' ⟨i,k,hik,hk,hi,h6,h7,hF⟩ IH i' e6
 obtain rfl:=j6 (h6.symm.trans e6)
 clear e6
 have IH':∀ tm' s2,n+1 - (toI (gp 7 tm')).toNat<n+1 - (toI (gp 7 tm)).toNat→gp 6 tm'=iv .i64 (i:Int)→(ltJ s0 x y n A B 72).pre tm' s2→JOut s0 x y n (jG A B (i+1) (i+1) (i+1)) 2 (fun tm'=>gp 6 tm'=iv .i64 (i:Int)) ((Rk Tryz.prog K3 (ltJ s0 x y n A B)).code qB zfR tm' s2):=fun tm' s2 h1 h2 h3=>IH tm' s2 h1 h3 i h2
 clear IH
 show JOut _ _ _ _ _ _ _ (zcf.run _ tm s')
 have hIn:=zNZ hn hx hy
 generalize Rk Tryz.prog _ _=r at IH' hIn ⊢
 have w2:IntKind.i64.wrap ((k:Int)+1)=(k:Int)+1:=zD (by omega) (by omega)
 have hlen:=(hx.ext hF.ext).len
 by_cases hlt:k≤n
 ·have hlt':(k:Int)<(n:Int)+1:=by omega
  simp -implicitDefEqProofs [zv1,jt,gp_sp,hF.g0,h7,hlen,ze,hlt',zd]
  generalize hA:zbO.run r _ s'=a
  have:=(hA▸hIn _ s' ⟨i,k,k,hik,Nat.le_refl _,hlt,by omega,by simp [gp_sp,h6],by simp [gp_sp,h7],by simp [gp_sp],hF.ext,by simp [gp_sp,hF.g0],by simp [gp_sp,hF.g1],by simp [gp_sp,hF.b],by simpa [gp_sp] using hF.grid⟩) i k (by simp [gp_sp,h6]) (by simp [gp_sp,h7])
  obtain ⟨tm',s2,rfl,hF2,t6,t7⟩:=this
  simp [zf,t7,zo,w2]
  exact IH' _ s2 (by simp [gp_sp,h7,zp];omega) (by simp [gp_sp,t6]) ⟨i,k+1,by omega,by omega,hi,by simp [gp_sp,t6],by simp [gp_sp],hF2.ext,by simp [gp_sp,hF2.g0],by simp [gp_sp,hF2.g1],by simp [gp_sp,hF2.b],by simpa [gp_sp] using hF2.grid⟩
 ·have hlt':¬(k:Int)<(n:Int)+1:=by omega
  obtain rfl:k=n+1:=by omega
  simp -implicitDefEqProofs [zv1,jt,gp_sp,hF.g0,h7,hlen,ze,zd]
  exact ⟨_,_,rfl,⟨hF.ext,by simp [gp_sp,hF.g0],by simp [gp_sp,hF.g1],by simp [gp_sp,hF.b],(by simpa [gp_sp] using hF.grid:Grid _ _ _ _ _).congr fun a c _ hc=>jG_i a c hc⟩,by simp [gp_sp,h6]⟩
theorem zNI (hn:n≤20) (hx:Grid anyK s0 x n A) (hy:Grid anyK s0 y n B):∀ tm s',(ltJ s0 x y n A B 94).pre tm s'→(ltJ s0 x y n A B 94).post tm s' (zeQ.run (Rk Tryz.prog K3 (ltJ s0 x y n A B)) tm s'):=by
 refine zC (L:=ltJ s0 x y n A B) pcOk0.1 pcOk0.2 zKl (fun tm _=>n+1 - (toI (gp 6 tm)).toNat) (fun _ _ _ _ (h:JOut _ _ _ _ _ _ _ _)=>h.nb) ?_
 rintro tm s' ⟨i,hi,h6,hF⟩ IH
 show JOut _ _ _ _ _ _ _ (zeQ.run _ tm s')
 have hIn:=zNX hn hx hy
 generalize Rk Tryz.prog _ _=r at IH hIn ⊢
 have w2:IntKind.i64.wrap ((i:Int)+1)=(i:Int)+1:=zD (by omega) (by omega)
 have hlen:=(hx.ext hF.ext).len
 by_cases hlt:i≤n
 ·have hlt':(i:Int)<(n:Int)+1:=by omega
  simp -implicitDefEqProofs [zBY,jt,gp_sp,hF.g0,h6,hlen,ze,hlt',zd]
  generalize hA:zcf.run r _ s'=a
  have:=(hA▸hIn _ s' ⟨i,i,Nat.le_refl _,by omega,hlt,by simp [gp_sp,h6],by simp [gp_sp],hF.ext,by simp [gp_sp,hF.g0],by simp [gp_sp,hF.g1],by simp [gp_sp,hF.b],by simpa [gp_sp] using hF.grid⟩) i (by simp [gp_sp,h6])
  obtain ⟨tm',s2,rfl,hF2,t6⟩:=this
  simp [zf,t6,zo,w2]
  exact IH _ s2 (by simp [gp_sp,h6,zp];omega) ⟨i+1,by omega,by simp [gp_sp],hF2.ext,by simp [gp_sp,hF2.g0],by simp [gp_sp,hF2.g1],by simp [gp_sp,hF2.b],by simpa [gp_sp] using hF2.grid⟩
 ·have hlt':¬(i:Int)<(n:Int)+1:=by omega
  simp -implicitDefEqProofs [zBY,jt,gp_sp,hF.g0,h6,hlen,ze,zd,hlt']
  obtain rfl:i=n+1:=by omega
  exact ⟨_,_,rfl,⟨hF.ext,by simp [gp_sp,hF.g0],by simp [gp_sp,hF.g1],by simp [gp_sp,hF.b],(by simpa [gp_sp] using hF.grid:Grid _ _ _ _ _).congr fun a c ha hc=>jG_n a c ha⟩,trivial⟩
end
open Classical in
theorem zFC {n:Nat} {A B A' B':Nat→Nat→Bool} (hA:∀ i j,i≤n→j≤n→A i j=A' i j) (hB:∀ i j,i≤n→j≤n→B i j=B' i j) (i j:Nat) (hi:i≤n) (hj:j≤n):joinG A B i j=joinG A' B' i j:=by
 unfold joinG
 rw [decide_eq_decide]
 exact ⟨fun ⟨k,h1,h2,h3,h4⟩=>⟨k,h1,h2,by rw [←hA i k hi (by omega)];exact h3,by rw [←hB k j (by omega) hj];exact h4⟩,fun ⟨k,h1,h2,h3,h4⟩=>⟨k,h1,h2,by rw [hA i k hi (by omega)];exact h3,by rw [hB k j (by omega) hj];exact h4⟩⟩
theorem zOc:Holds Tryz.prog K3 162:=by
 rintro a s ⟨x,y,n,A,B,rfl,hx,hy,hn⟩
 suffices hh:∃ v s',(fnC pc0 162).run (Rk Tryz.prog K3 (ltJ s x y n A B)) [x,y] s=.ret v s'∧Ext s s'∧Grid (qe s) s' v n (joinG A B) by
  obtain ⟨v,s',g1,g2,g3⟩:=hh
  refine ⟨_,s',fn_k3 g1,fun x' y' n' A' B' e hx' hy'=>?_⟩
  cases e
  obtain ⟨rfl,u1⟩:=hx.uniq hx'
  obtain ⟨_,u2⟩:=hy.uniq hy'
  exact ⟨g2,g3.congr fun i j hi hj=>zFC u1 u2 i j hi hj⟩
 have hL:=zNI hn hx hy
 have hN:=zn (L:=ltJ s x y n A B) zH7
 generalize Rk Tryz.prog _ _=r at hL hN ⊢
 obtain ⟨v1,s1,e1,p1⟩:=hN [iv .i64 (n:Int)] s ⟨n,rfl,hn⟩
 obtain ⟨hE1,hG1⟩:=p1 n rfl
 have w1:IntKind.i64.wrap (n:Int)=(n:Int):=zD (by omega) (by omega)
 simp -implicitDefEqProofs [jt,gp_sp,hx.len,zDH,w1,e1,zd]
 generalize hA:zeQ.run r _ _=y
 have:=hA▸hL _ _ ⟨0,by omega,by simp [gp_sp],hE1,by simp [gp_sp],by simp [gp_sp],by simp [gp_sp],by simpa [gp_sp] using hG1.congr fun a c _ _=>(jG_0 a c).symm⟩
 obtain ⟨tm',s',rfl,hF,-⟩:=this
 exact ⟨gp 5 tm',s',by simp [zf,gp_sp,hF.b],hF.ext,hF.grid⟩
def BelP (a:Go.Ev.A) (b:Go.Ev.K) (x:V) (i j:Nat) (s:S):Prop:=∃ tm',a=.ext 0 tm' s∧gp 240 tm'=.bad∧gp 3 tm'=x∧gp 4 tm'=iv .i64 (i:Int)∧gp 5 tm'=iv .i64 (j:Int)∧gp 6 tm'=.ptr b 0 0
def ltBel (b:Go.Ev.K) (x:V) (sg:Int) (i j:Nat) (s:S):Lt:=⟨fun tm s'=>s'=s∧gp 2 tm=iv .i64 sg∧gp 3 tm=x∧gp 4 tm=iv .i64 (i:Int)∧gp 5 tm=iv .i64 (j:Int)∧gp 6 tm=.ptr b 0 0∧gp 240 tm=.bad∧∃ k:Nat,∃ lo:Bool,k≤j∧gp 14 tm=iv .i64 (k:Int)∧gp 13 tm=.bool lo,
 fun _ _ a=>BelP a b x i j s⟩
theorem zNa {b:Go.Ev.K} {x:V} {sg:Int} {i j:Nat} {s:S} (hx:Ints s x) (h20:lenV x≤20) (hj:j≤lenV x):∀ tm s',(ltBel b x sg i j s).pre tm s'→(ltBel b x sg i j s).post tm s' (zfh.run (Rk Tryz.prog K3 fun _=>ltBel b x sg i j s) tm s'):=by
 refine zC (L:=fun _=>ltBel b x sg i j s) pcOk0.1 pcOk0.2 zKo (fun tm _=>j - (toI (gp 14 tm)).toNat) (fun _ _ _ _ h=>by obtain ⟨_,rfl,_⟩:∃ tm',_∧_:=h;exact fun h=>h) ?_
 rintro tm s' ⟨rfl,h2,h3,h4,h5,h6,h240,k,lo,hk,h14,h13⟩ IH
 show BelP (zfh.run _ tm s') b x i j s'
 generalize Rk Tryz.prog _ _=r at IH ⊢
 have w2:IntKind.i64.wrap ((k:Int)+1)=(k:Int)+1:=zD (by omega) (by omega)
 by_cases hlt:k<j
 ·obtain ⟨p,hp,hP⟩:=hx.at_ (i:=k) (by omega)
  cases lo
  ·simp -implicitDefEqProofs [zmb,zbR,gp_sp,h5,h13,h14,ze,zo,zd,hlt,w2]
   exact IH _ _ (by simp [gp_sp,h14,zp];omega) ⟨rfl,by simp [gp_sp,h2],by simp [gp_sp,h3],by simp [gp_sp,h4],by simp [gp_sp,h5],by simp [gp_sp,h6],by simp [gp_sp,h240],k+1,false,by omega,by simp [gp_sp],by simp [gp_sp]⟩
  ·simp -implicitDefEqProofs [zmb,zbR,gp_sp,h2,h3,h5,h13,h14,ze,qx,zo,zd,hlt,w2,hp,hP]
   exact IH _ _ (by simp [gp_sp,h14,zp];omega) ⟨rfl,by simp [gp_sp,h2],by simp [gp_sp,h3],by simp [gp_sp,h4],by simp [gp_sp,h5],by simp [gp_sp,h6],by simp [gp_sp,h240],k+1,_,by omega,by simp [gp_sp],by simp [gp_sp];rfl⟩
 ·simp -implicitDefEqProofs [zmb,zbR,gp_sp,h5,h14,ze,zd,hlt]
  exact ⟨_,rfl,by simp [gp_sp,h240],by simp [gp_sp,h3],by simp [gp_sp,h4],by simp [gp_sp,h5],by simp [gp_sp,h6]⟩
open Classical in
theorem zN6:Holds Tryz.prog K3 166:=by
 rintro a s ⟨c,z,l,x,sg,i,j,rfl,h,hx,h20,hij,hj⟩
 have e0:=h.cells
 suffices hh:∃ s',(fnC pc0 166).run (Rk Tryz.prog K3 fun _=>ltBel s.nx x sg i j (addB s (.row c 7 35 false 0 0 0))) [.ls 0 c,l,iv .i64 sg,x,iv .i64 (i:Int),iv .i64 (j:Int)] s=.ret (.bool (pG (word s x) [z] i j)) s'∧Ext s s' by
  obtain ⟨s',g1,g2⟩:=hh
  refine ⟨_,s',fn_k3 g1,fun c' z' l' x' sg' i' j' e h'=>⟨g2,?_⟩⟩
  simp only [List.cons.injEq,V.ls.injEq,true_and,and_true] at e
  obtain ⟨rfl,_,_,rfl,e1,e2⟩:=e
  obtain rfl:=j6 e1
  obtain rfl:=j6 e2
  obtain ⟨_,rfl,_⟩:=h.uniq h'
  rfl
 obtain ⟨b1,b2,b3⟩:=qK s (el:=35) h.cells.1 h.cells.2
 have hL:=zNa (b:=s.nx) (sg:=sg) (i:=i) (hx.ext b2).1 h20 hj
 generalize Rk Tryz.prog _ _=r at hL ⊢
 have hcc:=qf h
 obtain ⟨F0,F1,F2⟩:(∀ f:V→S→Go.Ev.A,xLoad false 1 (.ptr s.nx 0 0) (addB s (.row c 7 35 false 0 0 0)) f=f (iv .i64 2) (addB s (.row c 7 35 false 0 0 0)))∧(∀ f:V→S→Go.Ev.A,xLoad false 1 (.ptr s.nx 0 1) (addB s (.row c 7 35 false 0 0 0)) f=f (iv .i64 z) (addB s (.row c 7 35 false 0 0 0)))∧(∀ f:V→S→Go.Ev.A,xLoad false 1 (.ptr s.nx 0 2) (addB s (.row c 7 35 false 0 0 0)) f=f (iv .i64 z) (addB s (.row c 7 35 false 0 0 0))):=by
  obtain ⟨p,rfl,_⟩:=h
  exact ⟨b1.fld 0 (by omega),b1.fld 1 (by omega),b1.fld 2 (by omega)⟩
 have hw:word (addB s (.row c 7 35 false 0 0 0)) x=word s x:=hx.word b2
 have hx1:=(hx.ext b2).1
 generalize addB s (.row c 7 35 false 0 0 0)=s1 at *
 simp -implicitDefEqProofs [zbR,gp_sp,hcc,b3,zd]
 generalize hA:zfh.run r _ _=y
 have:=hA▸hL _ _ ⟨rfl,by simp [gp_sp],by simp [gp_sp],by simp [gp_sp],by simp [gp_sp],by simp [gp_sp],by simp [gp_sp],i,true,hij,by simp [gp_sp],by simp [gp_sp]⟩
 obtain ⟨tm',rfl,k240,k3,k4,k5,k6⟩:=this
 have w2:IntKind.i64.wrap ((i:Int)+1)=(i:Int)+1:=zD (by omega) (by omega)
 rw [←hw]
 by_cases e1:j=i+1
 ·have e1':(j:Int)=(i:Int)+1:=by omega
  obtain ⟨p,hp,hP⟩:=hx1.at_ (i:=i) (by omega)
  have hv:pG (word s1 x) [z] i j=decide (intV s1 x i=z):=by
   unfold pG
   rw [decide_eq_decide,zI4,qP (by omega)]
   simp [e1]
  refine ⟨s1,?_,b2⟩
  simp -implicitDefEqProofs [zf,zbR,gp_sp,k240,k3,k4,k5,k6,zi,F0,F1,F2,qD,zo,w2,e1',hp,hP,zd,hv]
 ·have e1':¬(j:Int)=(i:Int)+1:=by omega
  have hv:pG (word s1 x) [z] i j=false:=by
   unfold pG
   rw [decide_eq_false_iff_not,zI4]
   exact fun h=>e1 h.1
  refine ⟨s1,?_,b2⟩
  simp -implicitDefEqProofs [zf,zbR,gp_sp,k240,k3,k4,k5,k6,zi,F0,F1,F2,qD,zo,w2,e1',zd,hv]
def zrX (b:S) (l:V):Go.Ev.K→Prop:=fun c=>b.nx.toNat≤c.toNat∧blkOf l≠some c
theorem Grid.app {b s s':S} {l l' g:V} {n:Nat} {G:Nat→Nat→Bool} (h:Grid (zrX b l) s g n G) (hn:s.nx.toNat≤s'.nx.toNat) (hk:∀ c,c.toNat<s.nx.toNat→blkOf l≠some c→Tr.get B.none c s'.h=Tr.get B.none c s.h) (hl:blkOf l'=blkOf l∨∀ c,blkOf l'=some c→s.nx.toNat≤c.toNat):Grid (zrX b l') s' g n G:=by
 have h1:Grid (fun c=>zrX b l c∧c.toNat<s.nx.toNat) s g n G:=h.mono fun c hc hq=>⟨hq,hc⟩
 have h2:=h1.keep hn fun c hc hq=>hk c hc hq.1.2
 refine h2.mono fun c _ hq=>⟨hq.1.1,fun e=>?_⟩
 rcases hl with h | h
 ·exact hq.1.2 (by rw [←h];exact e)
 ·have:=h c e
  have:=hq.2
  omega
structure GList (el:Nat) (b s:S) (l:V) (n m:Nat) (G:Nat→Nat→Nat→Bool):Prop where
 ext:Ext b s
 vs:∃ gs:List V,gs.length=m∧Gz el 1 b s l (gs.map fun g=>[g])∧∀ i,i<m→Grid (zrX b l) s (gs.getD i .bad) n (G i)
theorem GList.nil (el:Nat) (b:S) (n:Nat) (G:Nat→Nat→Nat→Bool):GList el b b (.nil 1) n 0 G:=⟨Ext.refl b,[],rfl,.inl ⟨rfl,rfl⟩,fun i hi=>by omega⟩
theorem GList.ext' {el:Nat} {b s s':S} {l:V} {n m:Nat} {G:Nat→Nat→Nat→Bool} (h:GList el b s l n m G) (e:Ext s s'):GList el b s' l n m G:=by
 obtain ⟨h1,gs,h2,h3,h4⟩:=h
 exact ⟨h1.trans e,gs,h2,h3.ext e,fun i hi=>(h4 i hi).ext e⟩
theorem GList.app {el:Nat} {b s:S} {l g:V} {n m:Nat} {G:Nat→Nat→Nat→Bool} {s0:S} (h:GList el b s0 l n m G) (hE:Ext s0 s) (hg:Grid (qe s0) s g n (G m)) (hm:m<1000) :
  ∃ l' s',(∀ k:V→S→Go.Ev.A,zM el 1 l (.sl s.nx 0 0 1 1) (addB s (.row [g] 1 el false 0 0 0)) k=k l' s')∧GList el b s' l' n (m+1) G:=by
 obtain ⟨h1,gs,h2,h3,h4⟩:=h
 obtain ⟨l',s',a1,a2,a3,a4,a5⟩:=(h3.ext hE).app1 (h1.trans hE).nx (by omega) (x:=[g]) (fun y hy=>by simp at hy;subst hy;exact hg.ne) rfl (by simp;omega)
 refine ⟨l',s',a1,zcB (D:=fun c=>blkOf l=some c) (h1.trans hE) a3 a4 (fun c hc=>(h3.blk hc).1),gs++[g],by simp [h2],by simpa using a2,fun i hi=>?_⟩
 by_cases e:i<m
 ·rw [List.getD_eq_getElem?_getD,List.getElem?_append_left (by omega),←List.getD_eq_getElem?_getD]
  exact ((h4 i e).ext hE).app a3 a4 a5
 ·obtain rfl:i=m:=by omega
  rw [List.getD_eq_getElem?_getD,List.getElem?_append_right (by omega),h2,Nat.sub_self]
  refine (hg.mono (Q':=zrX b l) fun c _ hc=>⟨Nat.le_trans h1.nx hc,fun e=>?_⟩).app a3 a4 a5
  have:=(h3.blk e).2
  have:s0.nx.toNat≤c.toNat:=hc
  omega
theorem GList.len {el:Nat} {b s:S} {l:V} {n m:Nat} {G:Nat→Nat→Nat→Bool} (h:GList el b s l n m G) (c:V→Go.Ev.A):xLenS l c=c (iv .i64 (m:Int)):=by
 obtain ⟨h1,gs,h2,h3,h4⟩:=h
 rw [h3.len];simp [h2]
theorem GList.at_ {el:Nat} {b s:S} {l:V} {n m:Nat} {G:Nat→Nat→Nat→Bool} (h:GList el b s l n m G) {i:Nat} (hi:i<m):∃ p g,(∀ k c,zb 1 l (iv k (i:Int)) c=c p)∧(∀ k:V→S→Go.Ev.A,xLoad false 1 p s k=k g s)∧Grid (qe b) s g n (G i):=by
 obtain ⟨h1,gs,h2,h3,h4⟩:=h
 obtain ⟨q1,q2,q3⟩:=h3.sl
 obtain ⟨p,e1,e2⟩:=q1.idx (i:=(i:Int)) (by omega) (by rw [q2];simp;omega)
 have e3:cellV s l ((i:Int).toNat*1+0)=gs.getD i .bad:=by
  rw [Int.toNat_natCast,q3 i 0 (by simp;omega) (by omega)]
  simp [List.getD_eq_getElem?_getD,show i<gs.length by omega]
 refine ⟨p,gs.getD i .bad,e1,fun k=>?_,(h4 i hi).mono fun c _ hq=>hq.1⟩
 rw [e2.load1 (by omega) (by rw [e3];exact (h4 i hi).ne) k,e3]
theorem zLD (a:Go.Ev.K) (n:Nat):beqV (gridV a n) (gridV a n)=true:=by
 show andB (K.beq a a) _=true
 rw [zmy]
 simp [ziu,Nat.beq_refl]
theorem ztH (a:Go.Ev.K) (n:Nat) (c:List V→Go.Ev.A):zk 1 (gridV a n) c=c [gridV a n]:=rfl
open Classical in
noncomputable def pgG (W:List Int) (z:Int) (i j a c:Nat):Bool:=decide (occ W [z] a c∧(a<i∨a=i∧c<j))
structure PF (b1:S) (b:Go.Ev.K) (c:List V) (x:V) (sg:Int) (n:Nat) (G:Nat→Nat→Bool) (tm:T) (s:S):Prop where
 ext:Ext b1 s
 g1:gp 1 tm=iv .i64 sg
 g2:gp 2 tm=x
 g3:gp 3 tm=.ptr b 0 0
 g7:gp 7 tm=iv .i64 (n:Int)
 bd:gp 240 tm=.bad
 grid:Grid (qe b1) s (gp 13 tm) n G
def POut (b1:S) (b:Go.Ev.K) (c:List V) (x:V) (sg:Int) (n:Nat) (G:Nat→Nat→Bool) (id:Nat) (f:T→Prop) (a:Go.Ev.A):Prop:=∃ tm' s',a=.ext id tm' s'∧PF b1 b c x sg n G tm' s'∧f tm'
theorem POut.nb {b1:S} {b:Go.Ev.K} {c:List V} {x:V} {sg:Int} {n:Nat} {G:Nat→Nat→Bool} {id:Nat} {f:T→Prop} {a:Go.Ev.A} (h:POut b1 b c x sg n G id f a):¬a.isBad:=by obtain ⟨_,_,rfl,_⟩:=h;exact fun h=>h
noncomputable def ltP (b1:S) (b:Go.Ev.K) (c:List V) (x:V) (sg:Int) (n:Nat) (W:List Int) (z:Int):Nat→Lt
 | 31=>⟨fun tm s=>∃ i j:Nat,i≤j∧i≤n∧j≤n+1∧gp 14 tm=iv .i64 (i:Int)∧gp 15 tm=iv .i64 (j:Int)∧PF b1 b c x sg n (pgG W z i j) tm s,
   fun tm _ a=>∀ i:Nat,gp 14 tm=iv .i64 (i:Int)→POut b1 b c x sg n (pgG W z (i+1) (i+1)) 7 (fun tm'=>gp 14 tm'=iv .i64 (i:Int)) a⟩
 | _=>⟨fun tm s=>∃ i:Nat,i≤n+1∧gp 14 tm=iv .i64 (i:Int)∧PF b1 b c x sg n (pgG W z i i) tm s,
   fun _ _ a=>POut b1 b c x sg n (pG W [z]) 5 (fun _=>True) a⟩
section
variable {b1:S} {b:Go.Ev.K} {c:List V} {x:V} {sg:Int} {n:Nat} {W:List Int} {z:Int}
open Classical in
theorem zN3 (hn:n≤20) (hx:Ints b1 x) (hxn:lenV x=n) (hW:word b1 x=W) (hB:Bx b1 b c 7 35) (hS:ShAt b1 c 2 z []):∀ tm s',(ltP b1 b c x sg n W z 31).pre tm s'→(ltP b1 b c x sg n W z 31).post tm s' (y6.run (Rk Tryz.prog K3 (ltP b1 b c x sg n W z)) tm s'):=by
 refine zC (L:=ltP b1 b c x sg n W z) pcOk0.1 pcOk0.2 zxt (fun tm _=>n+1 - (toI (gp 15 tm)).toNat) ?_ ?_
 ·rintro tm s a ⟨i,j,_,_,_,h14,_⟩ h
  exact (h i h14).nb
 rintro tm s' ⟨i,j,hij,hi,hj,h14,h15,hF⟩ IH i' e6
 obtain rfl:=j6 (h14.symm.trans e6)
 clear e6
 have IH':∀ tm' s2,n+1 - (toI (gp 15 tm')).toNat<n+1 - (toI (gp 15 tm)).toNat→gp 14 tm'=iv .i64 (i:Int)→(ltP b1 b c x sg n W z 31).pre tm' s2→POut b1 b c x sg n (pgG W z (i+1) (i+1)) 7 (fun tm'=>gp 14 tm'=iv .i64 (i:Int)) ((Rk Tryz.prog K3 (ltP b1 b c x sg n W z)).code qd j0 tm' s2):=fun tm' s2 h1 h2 h3=>IH tm' s2 h1 h3 i h2
 clear IH
 show POut _ _ _ _ _ _ _ _ _ (y6.run _ tm s')
 have hBel:=zn (L:=ltP b1 b c x sg n W z) zN6
 generalize Rk Tryz.prog _ _=r at IH' hBel ⊢
 have w2:IntKind.i64.wrap ((j:Int)+1)=(j:Int)+1:=zD (by omega) (by omega)
 by_cases hlt:j≤n
 ·obtain ⟨PA,PR,eP,hG⟩:=hF.grid
  have hS':=hS.ext hF.ext
  have hx':=(hx.ext hF.ext).1
  obtain ⟨v,s2,e2,p2⟩:=hBel [.ls 0 c,gp 9 tm,iv .i64 sg,x,iv .i64 (i:Int),iv .i64 (j:Int)] s' ⟨c,z,gp 9 tm,x,sg,i,j,rfl,hS',hx',by omega,hij,by omega⟩
  obtain ⟨hE2,rfl⟩:=p2 _ _ _ _ _ _ _ rfl hS'
  rw [hx.word hF.ext,hW] at e2
  have hG':=hG.ext hE2
  obtain ⟨s3,hst,hG3,hn3,hk3⟩:=hG'.store hi hlt (pG W [z] i j)
  have hE3:=yR (hF.ext.trans hE2) (hG.qR i hi) hn3 hk3
  have hall:=fun k=>(hB.ext hF.ext).all k
  simp -implicitDefEqProofs [zdJ,zV,gp_sp,hF.g1,hF.g2,hF.g3,hF.g7,eP,h14,h15,qx,zo,zd,hlt,w2,GridAt.idxA hi,GridAt.idxA hlt,hG.loadA hi,hG'.loadA hi,hall,e2,zLD,hst,qg]
  refine IH' _ s3 (by simp [gp_sp,h15,zp];omega) (by simp [gp_sp,h14]) ⟨i,j+1,by omega,hi,by omega,by simp [gp_sp,h14],by simp [gp_sp],hE3,by simp [gp_sp,hF.g1],by simp [gp_sp,hF.g2],by simp [gp_sp,hF.g3],by simp [gp_sp,hF.g7],by simp [gp_sp,hF.bd],?_⟩
  refine ⟨PA,PR,by simp [gp_sp,eP],hG3.congr fun a d _ _=>?_⟩
  by_cases e:a=i∧d=j
  ·obtain ⟨rfl,rfl⟩:=e
   rw [if_pos ⟨rfl,rfl⟩]
   unfold pG pgG
   rw [decide_eq_decide]
   exact ⟨fun h=>⟨h,by omega⟩,fun h=>h.1⟩
  ·rw [if_neg e]
   unfold pgG
   rw [decide_eq_decide]
   exact and_congr_right fun _=>by omega
 ·simp -implicitDefEqProofs [zdJ,zV,gp_sp,hF.g7,h15,qx,zd,hlt]
  refine ⟨_,_,rfl,⟨hF.ext,by simp [gp_sp,hF.g1],by simp [gp_sp,hF.g2],by simp [gp_sp,hF.g3],by simp [gp_sp,hF.g7],by simp [gp_sp,hF.bd],(by simpa [gp_sp] using hF.grid:Grid _ _ _ _ _).congr fun a d _ hd=>?_⟩,by simp [gp_sp,h14]⟩
  unfold pgG
  rw [decide_eq_decide]
  exact and_congr_right fun h=>by have:=h.1;simp at this;omega
open Classical in
theorem zNO (hn:n≤20) (hx:Ints b1 x) (hxn:lenV x=n) (hW:word b1 x=W) (hB:Bx b1 b c 7 35) (hS:ShAt b1 c 2 z []):∀ tm s',(ltP b1 b c x sg n W z 52).pre tm s'→(ltP b1 b c x sg n W z 52).post tm s' (y7.run (Rk Tryz.prog K3 (ltP b1 b c x sg n W z)) tm s'):=by
 refine zC (L:=ltP b1 b c x sg n W z) pcOk0.1 pcOk0.2 zxB (fun tm _=>n+1 - (toI (gp 14 tm)).toNat) (fun _ _ _ _ (h:POut _ _ _ _ _ _ _ _ _ _)=>h.nb) ?_
 rintro tm s' ⟨i,hi,h14,hF⟩ IH
 show POut _ _ _ _ _ _ _ _ _ (y7.run _ tm s')
 have hIn:=zN3 (sg:=sg) hn hx hxn hW hB hS
 generalize Rk Tryz.prog _ _=r at IH hIn ⊢
 have w2:IntKind.i64.wrap ((i:Int)+1)=(i:Int)+1:=zD (by omega) (by omega)
 by_cases hlt:i≤n
 ·simp -implicitDefEqProofs [zel,zV,gp_sp,hF.g7,h14,qx,zd,hlt]
  generalize hA:y6.run r _ s'=a
  have:=(hA▸hIn _ s' ⟨i,i,Nat.le_refl _,hlt,by omega,by simp [gp_sp,h14],by simp [gp_sp],hF.ext,by simp [gp_sp,hF.g1],by simp [gp_sp,hF.g2],by simp [gp_sp,hF.g3],by simp [gp_sp,hF.g7],by simp [gp_sp,hF.bd],by simpa [gp_sp] using hF.grid⟩) i (by simp [gp_sp,h14])
  obtain ⟨tm',s2,rfl,hF2,t14⟩:=this
  simp [zf,t14,zo,w2]
  exact IH _ s2 (by simp [gp_sp,h14,zp];omega) ⟨i+1,by omega,by simp [gp_sp],hF2.ext,by simp [gp_sp,hF2.g1],by simp [gp_sp,hF2.g2],by simp [gp_sp,hF2.g3],by simp [gp_sp,hF2.g7],by simp [gp_sp,hF2.bd],by simpa [gp_sp] using hF2.grid⟩
 ·simp -implicitDefEqProofs [zel,zV,gp_sp,hF.g7,h14,qx,zd,hlt]
  refine ⟨_,_,rfl,⟨hF.ext,by simp [gp_sp,hF.g1],by simp [gp_sp,hF.g2],by simp [gp_sp,hF.g3],by simp [gp_sp,hF.g7],by simp [gp_sp,hF.bd],(by simpa [gp_sp] using hF.grid:Grid _ _ _ _ _).congr fun a d ha _=>?_⟩,trivial⟩
  unfold pgG pG
  rw [decide_eq_decide]
  exact ⟨fun h=>h.1,fun h=>⟨h,by omega⟩⟩
end
open Classical in
def AtP (c:List V) (sg:Int) (x:V) (u:List Int) (s:S):Prop:=∃ v s',CallX Tryz.prog 111 [.ls 0 c,iv .i64 sg,x] s v s'∧Ext s s'∧Grid (qe s) s' v (lenV x) (pG (word s x) u)
open Classical in
theorem znO {c:List V} {z:Int} {x:V} {sg:Int} {s:S} (h:ShAt s c 2 z []) (hx:Ints s x) (h20:lenV x≤20):AtP c sg x [z] s:=by
 obtain ⟨b1,b2,b3⟩:=qK s (el:=35) h.cells.1 h.cells.2
 have hcc:=qf h
 obtain ⟨p,hp0,hp1⟩:∃ p,(∀ f:V→S→Go.Ev.A,xLoad false 1 (.ptr s.nx 0 6) (addB s (.row c 7 35 false 0 0 0)) f=f p (addB s (.row c 7 35 false 0 0 0)))∧∀ c:V→Go.Ev.A,xLenS p c=c (iv .i64 0):=by
  obtain ⟨p,rfl,hP,_⟩:=h
  exact ⟨p,b1.fld 6 (by omega),fun c=>by rw [hP.1.len,hP.2.1];rfl⟩
 have F0:∀ f:V→S→Go.Ev.A,xLoad false 1 (.ptr s.nx 0 0) (addB s (.row c 7 35 false 0 0 0)) f=f (iv .i64 2) (addB s (.row c 7 35 false 0 0 0)):=by
  obtain ⟨p,rfl,_⟩:=h
  exact b1.fld 0 (by omega)
 have hw:word (addB s (.row c 7 35 false 0 0 0)) x=word s x:=hx.word b2
 have hx1:=(hx.ext b2).1
 have hS1:=h.ext b2
 have hnx:qe (addB s (.row c 7 35 false 0 0 0))=fun d=>s.nx.toNat+1≤d.toNat:=by
  funext d;show (s.nx.succ.toNat≤_)=_;rw [K.toNat_succ]
 generalize addB s (.row c 7 35 false 0 0 0)=s1 at *
 suffices hh:∃ v s',(fnC pc0 111).run (Rk Tryz.prog K3 (ltP s1 s.nx c x sg (lenV x) (word s x) z)) [.ls 0 c,iv .i64 sg,x] s=.ret v s'∧Ext s1 s'∧Grid (qe s1) s' v (lenV x) (pG (word s x) [z]) by
  obtain ⟨v,s',g1,g2,g3⟩:=hh
  exact ⟨v,s',fn_k3 g1,b2.trans g2,g3.mono fun d _ hd=>by rw [hnx] at hd;exact Nat.le_of_succ_le hd⟩
 have hL:=zNO (sg:=sg) h20 hx1 rfl hw b1 hS1
 have hN:=zn (L:=ltP s1 s.nx c x sg (lenV x) (word s x) z) zH7
 generalize Rk Tryz.prog _ _=r at hL hN ⊢
 obtain ⟨v1,s2,e1,p1⟩:=hN [iv .i64 (lenV x:Int)] s1 ⟨_,rfl,h20⟩
 obtain ⟨hE1,hG1⟩:=p1 _ rfl
 simp -implicitDefEqProofs [zV,wd,gp_sp,hcc,b3,hx1.1.len,zi,F0,hp0,hp1,qD,ze,e1,zf,zd]
 generalize hA:y7.run r _ _=y
 have:=hA▸hL _ _ ⟨0,by omega,by simp [gp_sp],hE1,by simp [gp_sp],by simp [gp_sp],by simp [gp_sp],by simp [gp_sp],by simp [gp_sp],(by simpa [gp_sp] using hG1:Grid _ _ _ _ _).congr fun a d _ _=>by
  unfold pgG
  exact (decide_eq_false (fun h=>by omega)).symm⟩
 obtain ⟨tm',s',rfl,hF,-⟩:=this
 exact ⟨gp 13 tm',s',by simp [zf,gp_sp,hF.bd],hF.ext,hF.grid⟩
structure CF (b1:S) (b:Go.Ev.K) (x:V) (sg:Int) (n m:Nat) (W:List Int) (zs:List Int) (tm:T) (s:S):Prop where
 g1:gp 1 tm=iv .i64 sg
 g3:gp 3 tm=.ptr b 0 0
 g8:gp 8 tm=x
 bd:gp 240 tm=.bad
 gs:GList 233 b1 s (gp 9 tm) n m (fun i=>pG W [zs.getD i 0])
def COut (b1:S) (b:Go.Ev.K) (x:V) (sg:Int) (n m:Nat) (W:List Int) (zs:List Int) (id:Nat) (f:T→S→Prop) (a:Go.Ev.A):Prop:=∃ tm' s',a=.ext id tm' s'∧CF b1 b x sg n m W zs tm' s'∧f tm' s'
theorem COut.nb {b1:S} {b:Go.Ev.K} {x:V} {sg:Int} {n m:Nat} {W zs:List Int} {id:Nat} {f:T→S→Prop} {a:Go.Ev.A} (h:COut b1 b x sg n m W zs id f a):¬a.isBad:=by obtain ⟨_,_,rfl,_⟩:=h;exact fun h=>h
noncomputable def ltC (b1:S) (b:Go.Ev.K) (x:V) (sg:Int) (n:Nat) (W zs:List Int):Nat→Lt
 | 31=>⟨fun tm s=>∃ m:Nat,m≤zs.length∧gp 10 tm=iv .i64 (m:Int)∧CF b1 b x sg n m W zs tm s,fun _ _ a=>COut b1 b x sg n zs.length W zs 0 (fun _ _=>True) a⟩
 | _=>⟨fun tm s=>∃ m:Nat,1≤m∧m≤zs.length∧gp 12 tm=iv .i64 (m:Int)∧CF b1 b x sg n zs.length W zs tm s∧Grid (qe b1) s (gp 11 tm) n (pG W (zs.take m)),fun _ _ a=>COut b1 b x sg n zs.length W zs 3 (fun tm' s'=>Grid (qe b1) s' (gp 11 tm') n (pG W zs)) a⟩
section
variable {b1:S} {b:Go.Ev.K} {c:List V} {x:V} {sg:Int} {n:Nat} {W:List Int} {k a:Int} {zs:List Int}
theorem zOk (hx:Ints b1 x) (hxn:lenV x=n) (hn:n≤20) (hW:word b1 x=W) (hB:Bx b1 b c 7 35) (hS:ShAt b1 c k a zs):∀ tm s',(ltC b1 b x sg n W zs 31).pre tm s'→(ltC b1 b x sg n W zs 31).post tm s' (jD.run (Rk Tryz.prog K3 (ltC b1 b x sg n W zs)) tm s'):=by
 refine zC (L:=ltC b1 b x sg n W zs) pcOk0.1 pcOk0.2 zxG (fun tm _=>zs.length - (toI (gp 10 tm)).toNat) (fun _ _ _ _ (h:COut _ _ _ _ _ _ _ _ _ _ _)=>h.nb) ?_
 rintro tm s' ⟨m,hm,h10,hF⟩ IH
 show COut _ _ _ _ _ _ _ _ _ _ (jD.run _ tm s')
 have hE:=hF.gs.ext
 have hC:∀ z,okSy z→∃ v s2,(Rk Tryz.prog K3 (ltC b1 b x sg n W zs)).call 111 [.ls 0 (prC z),iv .i64 sg,x] s'=.ret v s2∧Ext s' s2∧Grid (qe s') s2 v n (pG W [z]):=by
  intro z hz
  have hx':=(hx.ext hE).1
  obtain ⟨v0,s0,c0,e0,g0⟩:=znO (sg:=sg) (qZ s' hz) hx' (by omega)
  obtain ⟨v,s2,e,hp⟩:=Rk_at (K:=K3) (L:=ltC b1 b x sg n W zs) ⟨v0,s0,c0,fun c' k' z' zs' x' sg' e h'=>by
   simp only [List.cons.injEq,V.ls.injEq,true_and,and_true] at e
   obtain ⟨rfl,e1,rfl⟩:=e
   obtain ⟨rfl,rfl,rfl⟩:=(qZ s' hz).uniq h'
   exact ⟨e0,g0⟩⟩ ⟨_,_,_,_,_,_,rfl,qZ s' hz,hx',by omega⟩
  obtain ⟨hE2,hG⟩:=hp _ _ _ _ _ _ rfl (qZ s' hz)
  rw [hx.word hE,hW,hxn] at hG
  exact ⟨v,s2,e,hE2,hG⟩
 generalize Rk Tryz.prog _ _=r at IH hC ⊢
 have w2:IntKind.i64.wrap ((m:Int)+1)=(m:Int)+1:=by
  have:=hS
  obtain ⟨p,rfl,hP,hK⟩:=hS
  have:=hK.le
  exact zD (by omega) (by omega)
 obtain ⟨p,rfl,hP,hK⟩:=hS.ext hE
 have hl20:=hK.le
 have hL6:∀ f:V→S→Go.Ev.A,xLoad false 1 (.ptr b 0 6) s' f=f p s':=(hB.ext hE).fld 6 (by omega)
 have hlen:∀ c:V→Go.Ev.A,xLenS p c=c (iv .i64 (zs.length:Int)):=fun c=>by rw [hP.1.len,hP.2.1]
 by_cases hlt:m<zs.length
 ·obtain ⟨q,hq,hQ⟩:=hP.at_ hlt
  have hok:=zcG hK hlt
  obtain ⟨v,s2,e2,hE2,hG⟩:=hC _ hok
  obtain ⟨gA,gR,rfl,_⟩:=hG
  obtain ⟨l',s3,ha,hg⟩:=hF.gs.app hE2 (g:=gridV gA n) ⟨gA,gR,rfl,‹_›⟩ (by omega)
  generalize zs.getD m 0=z0 at hQ e2
  simp -implicitDefEqProofs [wd,zV,gp_sp,hF.g1,hF.g3,hF.g8,h10,zi,hL6,hlen,ze,zo,hq,hQ,w2,e2,qC,rep,ztH,qz,upd,put,zr,ha,zd,hlt]
  exact IH _ _ (by simp [gp_sp,h10,zp];omega) ⟨m+1,by omega,by simp [gp_sp],by simp [gp_sp,hF.g1],by simp [gp_sp,hF.g3],by simp [gp_sp,hF.g8],by simp [gp_sp,hF.bd],by simpa [gp_sp] using hg⟩
 ·simp -implicitDefEqProofs [wd,zV,gp_sp,hF.g3,h10,zi,hL6,hlen,ze,zd,hlt]
  obtain rfl:m=zs.length:=by omega
  exact ⟨_,_,rfl,⟨by simp [gp_sp,hF.g1],by simp [gp_sp,hF.g3],by simp [gp_sp,hF.g8],by simp [gp_sp,hF.bd],by simpa [gp_sp] using hF.gs⟩,trivial⟩
theorem zOm (hn:n≤20) (hB:Bx b1 b c 7 35) (hS:ShAt b1 c 5 a zs):∀ tm s',(ltC b1 b x sg n W zs 39).pre tm s'→(ltC b1 b x sg n W zs 39).post tm s' (jC.run (Rk Tryz.prog K3 (ltC b1 b x sg n W zs)) tm s'):=by
 refine zC (L:=ltC b1 b x sg n W zs) pcOk0.1 pcOk0.2 zxN (fun tm _=>zs.length - (toI (gp 12 tm)).toNat) (fun _ _ _ _ (h:COut _ _ _ _ _ _ _ _ _ _ _)=>h.nb) ?_
 rintro tm s' ⟨m,hm1,hm,h12,hF,hP⟩ IH
 show COut _ _ _ _ _ _ _ _ _ _ (jC.run _ tm s')
 have hE:=hF.gs.ext
 have hJ:=zn (L:=ltC b1 b x sg n W zs) zOc
 generalize Rk Tryz.prog _ _=r at IH hJ ⊢
 have hl20:zs.length≤20:=by obtain ⟨_,_,_,hK⟩:=hS;exact hK.le
 have w2:IntKind.i64.wrap ((m:Int)+1)=(m:Int)+1:=zD (by omega) (by omega)
 have F0:∀ f:V→S→Go.Ev.A,xLoad false 1 (.ptr b 0 0) s' f=f (iv .i64 5) s':=by
  obtain ⟨p,rfl,_⟩:=hS
  exact (hB.ext hE).fld 0 (by omega)
 have hlen:=hF.gs.len
 by_cases hlt:m<zs.length
 ·obtain ⟨q,g,a1,a2,a3⟩:=hF.gs.at_ hlt
  obtain ⟨v,s2,e2,p2⟩:=hJ [gp 11 tm,g] s' ⟨_,_,n,_,_,rfl,hP.any,a3.any,hn⟩
  obtain ⟨hE2,hG⟩:=p2 _ _ _ _ _ rfl hP.any a3.any
  simp -implicitDefEqProofs [zg6,zV,gp_sp,hF.g3,h12,zi,F0,hlen,ze,qD,zo,a1,a2,e2,w2,zd,hlt]
  refine IH _ _ (by simp [gp_sp,h12,zp];omega) ⟨m+1,by omega,by omega,by simp [gp_sp],⟨by simp [gp_sp,hF.g1],by simp [gp_sp,hF.g3],by simp [gp_sp,hF.g8],by simp [gp_sp,hF.bd],by simpa [gp_sp] using hF.gs.ext' hE2⟩,?_⟩
  have e3:zs.take (m+1)=zs.take m++[zs.getD m 0]:=by
   rw [List.getD_eq_getElem?_getD,List.getElem?_eq_getElem hlt,Option.getD_some,List.take_succ_eq_append_getElem hlt]
  rw [e3]
  have:=(hG.mono (Q':=qe b1) fun d _ hd=>Nat.le_trans hE.nx hd).congr fun i j _ _=>zNh W (zs.take m) [zs.getD m 0] i j
  simpa [gp_sp] using this
 ·simp -implicitDefEqProofs [zg6,zV,gp_sp,h12,hlen,ze,zd,hlt]
  obtain rfl:m=zs.length:=by omega
  refine ⟨_,_,rfl,⟨by simp [gp_sp,hF.g1],by simp [gp_sp,hF.g3],by simp [gp_sp,hF.g8],by simp [gp_sp,hF.bd],by simpa [gp_sp] using hF.gs⟩,?_⟩
  rw [List.take_length] at hP
  simpa [gp_sp] using hP
end
open Classical in
theorem zH0 {c:List V} {k z:Int} {zs:List Int} {x:V} {sg:Int} {s:S} (h:ShAt s c k z zs) (hx:Ints s x) (h20:lenV x≤20):AtP c sg x (wOf k z zs) s:=by
 have hK:ShK k z zs:=by obtain ⟨_,_,_,h⟩:=h;exact h
 rcases hK with ⟨rfl,rfl,rfl⟩ | ⟨rfl,hz,rfl⟩ | ⟨rfl,rfl,h2,h3,hz⟩
 ·obtain ⟨b1,b2,b3⟩:=qK s (el:=35) h.cells.1 h.cells.2
  have hcc:=qf h
  obtain ⟨p,hp0,hp1⟩:∃ p,(∀ f:V→S→Go.Ev.A,xLoad false 1 (.ptr s.nx 0 6) (addB s (.row c 7 35 false 0 0 0)) f=f p (addB s (.row c 7 35 false 0 0 0)))∧∀ c:V→Go.Ev.A,xLenS p c=c (iv .i64 0):=by
   obtain ⟨p,rfl,hP,_⟩:=h
   exact ⟨p,b1.fld 6 (by omega),fun c=>by rw [hP.1.len,hP.2.1];rfl⟩
  have F0:∀ f:V→S→Go.Ev.A,xLoad false 1 (.ptr s.nx 0 0) (addB s (.row c 7 35 false 0 0 0)) f=f (iv .i64 1) (addB s (.row c 7 35 false 0 0 0)):=by
   obtain ⟨p,rfl,_⟩:=h
   exact b1.fld 0 (by omega)
  have hx1:=(hx.ext b2).1
  have hnx:qe (addB s (.row c 7 35 false 0 0 0))=fun d=>s.nx.toNat+1≤d.toNat:=by
   funext d;show (s.nx.succ.toNat≤_)=_;rw [K.toNat_succ]
  generalize addB s (.row c 7 35 false 0 0 0)=s1 at *
  suffices hh:∃ v s',(fnC pc0 111).run (Rk Tryz.prog K3 noL) [.ls 0 c,iv .i64 sg,x] s=.ret v s'∧Ext s1 s'∧Grid (qe s1) s' v (lenV x) (fun i j=>decide (i=j)) by
   obtain ⟨v,s',g1,g2,g3⟩:=hh
   refine ⟨v,s',fn_k3 g1,b2.trans g2,(g3.mono fun d _ hd=>by rw [hnx] at hd;exact Nat.le_of_succ_le hd).congr fun i j _ _=>?_⟩
   unfold pG
   rw [decide_eq_decide]
   exact (zDB _ _ _).symm
  have hN:=zn (L:=noL) zNW
  generalize Rk Tryz.prog _ _=r at hN ⊢
  obtain ⟨v1,s2,e1,p1⟩:=hN [iv .i64 (lenV x:Int)] s1 ⟨_,rfl,h20⟩
  obtain ⟨hE1,hG1⟩:=p1 _ rfl
  refine ⟨v1,s2,?_,hE1,hG1⟩
  simp -implicitDefEqProofs [zV,wd,gp_sp,hcc,b3,hx1.1.len,zi,F0,hp0,hp1,qD,ze,e1,zf,zd]
 ·exact znO h hx h20
 ·obtain ⟨b1,b2,b3⟩:=qK s (el:=35) h.cells.1 h.cells.2
  have hcc:=qf h
  have F0:∀ s',Ext (addB s (.row c 7 35 false 0 0 0)) s'→∀ f:V→S→Go.Ev.A,xLoad false 1 (.ptr s.nx 0 0) s' f=f (iv .i64 5) s':=by
   obtain ⟨p,rfl,_⟩:=h
   exact fun s' e=>(b1.ext e).fld 0 (by omega)
  have hw:word (addB s (.row c 7 35 false 0 0 0)) x=word s x:=hx.word b2
  have hx1:=(hx.ext b2).1
  have hS1:=h.ext b2
  have hnx:qe (addB s (.row c 7 35 false 0 0 0))=fun d=>s.nx.toNat+1≤d.toNat:=by
   funext d;show (s.nx.succ.toNat≤_)=_;rw [K.toNat_succ]
  generalize addB s (.row c 7 35 false 0 0 0)=s1 at *
  suffices hh:∃ v s',(fnC pc0 111).run (Rk Tryz.prog K3 (ltC s1 s.nx x sg (lenV x) (word s x) zs)) [.ls 0 c,iv .i64 sg,x] s=.ret v s'∧Ext s1 s'∧Grid (qe s1) s' v (lenV x) (pG (word s x) zs) by
   obtain ⟨v,s',g1,g2,g3⟩:=hh
   exact ⟨v,s',fn_k3 g1,b2.trans g2,g3.mono fun d _ hd=>by rw [hnx] at hd;exact Nat.le_of_succ_le hd⟩
  have hL:=zOk (sg:=sg) hx1 rfl h20 hw b1 hS1
  have hL3:=zOm (x:=x) (sg:=sg) (W:=word s x) h20 b1 hS1
  generalize Rk Tryz.prog _ _=r at hL hL3 ⊢
  have F0':=F0 _ (Ext.refl s1)
  simp -implicitDefEqProofs [zV,gp_sp,hcc,b3,hx1.1.len,zi,F0',qD,zd]
  generalize hA:jD.run r _ _=y
  have:=hA▸hL _ _ ⟨0,by omega,by simp [gp_sp],by simp [gp_sp],by simp [gp_sp],by simp [gp_sp],by simp [gp_sp],by simpa [gp_sp] using GList.nil 233 s1 (lenV x) (fun i=>pG (word s x) [zs.getD i 0])⟩
  obtain ⟨tm',s',rfl,hF,-⟩:=this
  obtain ⟨q,g,a1,a2,a3⟩:=hF.gs.at_ (i:=0) (by omega)
  have F0'':=F0 _ hF.gs.ext
  have a1':∀ k c,zb 1 (gp 9 tm') (iv k 0) c=c q:=a1
  simp -implicitDefEqProofs [zf,gp_sp,hF.g3,zi,F0'',qD,a1',a2]
  generalize hA2:jC.run r _ _=y2
  have:=hA2▸hL3 _ _ ⟨1,by omega,by omega,by simp [gp_sp],⟨by simp [gp_sp,hF.g1],by simp [gp_sp,hF.g3],by simp [gp_sp,hF.g8],by simp [gp_sp,hF.bd],by simpa [gp_sp] using hF.gs⟩,by
   have e3:zs.take 1=[zs.getD 0 0]:=by cases zs with
    | nil=>simp at h2
    | cons z t=>rfl
   rw [e3]
   simpa [gp_sp] using a3⟩
  obtain ⟨tm2,s2,rfl,hF2,hG2⟩:=this
  exact ⟨gp 11 tm2,s2,by simp [zf,gp_sp,hF2.bd],hF2.gs.ext,hG2⟩
theorem zmt:Holds Tryz.prog K3 111:=by
 rintro a s ⟨c,k,z,zs,x,sg,rfl,h,hx,h20⟩
 obtain ⟨v0,s0,c0,e0,g0⟩:=zH0 (sg:=sg) h hx h20
 refine ⟨v0,s0,c0,fun c' k' z' zs' x' sg' e h'=>?_⟩
 simp only [List.cons.injEq,V.ls.injEq,true_and,and_true] at e
 obtain ⟨rfl,e1,rfl⟩:=e
 obtain ⟨rfl,rfl,rfl⟩:=h.uniq h'
 exact ⟨e0,g0⟩
theorem Bx.seg {s:S} {a:Go.Ev.K} {c:List V} {n el:Nat} (h:Bx s a c n el) (o m:Nat) (hm:o+m≤n) (k:V→S→Go.Ev.A):xLoad true m (.ptr a 0 o) s k=k (.ls 0 ((c.drop o).take m)) s:=by
 have hP:Pt s (.ptr a 0 o) m (fun j=>c.getD (o+j) .bad):=⟨a,0,o,c,n,el,false,0,0,0,rfl,h.1,h.2.1,yn.2 (.inr ⟨rfl,by omega⟩),fun j _=>rfl⟩
 have hne:∀ j,j<m→c.getD (o+j) .bad≠.bad:=fun j hj=>by
  rw [List.getD_eq_getElem?_getD,List.getElem?_eq_getElem (by rw [h.2.1];omega)]
  exact h.2.2.1 _ (List.getElem_mem _)
 rw [hP.loadN m (Nat.le_refl _) hne k,zh9 (f:=fun j=>c.getD (o+j) .bad) (by rw [h.2.1];omega) (fun j _=>rfl)]
def paC (e:List V) (B:V):List V:=e++[.bool false,B,.nil 1]
def ShW (s:S) (e:List V) (F:List Int):Prop:=∃ k a zs,ShAt s e k a zs∧wOf k a zs=F
def PaAt (s:S) (c:List V) (F T:List Int):Prop:=∃ e B,c=paC e B∧ShW s e F∧Ints s B∧word s B=T
theorem ShW.ext {s s':S} {e:List V} {F:List Int} (h:ShW s e F) (x:Ext s s'):ShW s' e F:=by
 obtain ⟨k,a,zs,h1,h2⟩:=h
 exact ⟨k,a,zs,h1.ext x,h2⟩
theorem PaAt.ext {s s':S} {c:List V} {F T:List Int} (h:PaAt s c F T) (x:Ext s s'):PaAt s' c F T:=by
 obtain ⟨e,B,h1,h2,h3,h4⟩:=h
 exact ⟨e,B,h1,h2.ext x,(h3.ext x).1,by rw [h3.word x,h4]⟩
noncomputable def paV (s:S) (p:V) (i:Nat):List V:=(List.range 10).map fun j=>cellV s p (i*10+j)
structure RuA (s:S) (p:V) (F T:Nat→List Int) (N:Nat):Prop where
 sl:Sl s 10 p
 len:lenV p=N
 part:∀ i,i<N→PaAt s (paV s p i) (F i) (T i)
theorem RuA.ext {s s':S} {p:V} {F T:Nat→List Int} {N:Nat} (h:RuA s p F T N) (x:Ext s s'):RuA s' p F T N:=by
 obtain ⟨h1,h2⟩:=h.sl.ext x
 refine ⟨h1,h.len,fun i hi=>?_⟩
 have e:paV s' p i=paV s p i:=by unfold paV;simp [h2]
 rw [e]
 exact (h.part i hi).ext x
theorem ShW.cells {s:S} {e:List V} {F:List Int} (h:ShW s e F):e.length=7∧∀ x∈e,x≠.bad:=by
 obtain ⟨k,a,zs,h,_⟩:=h
 exact h.cells
theorem zfz {s:S} {e:List V} {B:V} {F:List Int} (h:ShW s e F) (hB:Ints s B):(paC e B).length=10∧∀ x∈paC e B,x≠.bad:=by
 refine ⟨by simp [paC,h.cells.1],fun x hx=>?_⟩
 simp only [paC,List.mem_append,List.mem_cons,List.not_mem_nil,or_false] at hx
 rcases hx with hx | rfl | rfl | rfl
 ·exact h.cells.2 x hx
 ·exact fun h=>by cases h
 ·exact hB.ne
 ·exact fun h=>by cases h
theorem RuA.at_ {s:S} {p:V} {F T:Nat→List Int} {N:Nat} (h:RuA s p F T N) {i:Nat} (hi:i<N):∃ q q0 e B,(∀ k c,zb 10 p (iv k (i:Int)) c=c q)∧(∀ k:V→S→Go.Ev.A,xLoad true 10 q s k=k (.ls 0 (paC e B)) s)∧(∀ c,za 0 q c=c q0)∧(∀ k:V→S→Go.Ev.A,xLoad true 7 q0 s k=k (.ls 0 e) s)∧ShW s e (F i)∧Ints s B∧word s B=T i:=by
 obtain ⟨e,B,h1,h2,h3,h4⟩:=h.part i hi
 obtain ⟨q,e1,hP⟩:=h.sl.idx (i:=(i:Int)) (by omega) (by rw [h.len];omega)
 rw [Int.toNat_natCast] at hP
 have hc:=zfz h2 h3
 have hcell:∀ j,j<10→cellV s p (i*10+j)=(paC e B).getD j .bad:=fun j hj=>by
  have:=congrArg (fun l:List V=>l.getD j .bad) h1
  simpa [paV,hj] using this
 have hne:∀ j,j<10→cellV s p (i*10+j)≠.bad:=fun j hj=>by
  rw [hcell j hj,List.getD_eq_getElem?_getD,List.getElem?_eq_getElem (by rw [hc.1];exact hj)]
  exact hc.2 _ (List.getElem_mem _)
 obtain ⟨q0,f1,hP0⟩:=hP.field 0 (by omega)
 refine ⟨q,q0,e,B,e1,fun k=>?_,f1,fun k=>?_,h2,h3,h4⟩
 ·rw [hP.loadN 10 (Nat.le_refl _) hne k]
  show k (.ls 0 (paV s p i)) s=_
  rw [h1]
 ·rw [hP0.loadN 7 (by omega) (fun j hj=>by simpa using hne j (by omega)) k]
  congr 2
  apply List.ext_getElem (by simp [h2.cells.1])
  intro j g1 g2
  have hj:j<7:=by simpa using g1
  simp only [List.getElem_map,List.getElem_range,Nat.zero_add]
  rw [hcell j (by omega),paC,List.getD_eq_getElem?_getD,List.getElem?_append_left g2,List.getElem?_eq_getElem g2];rfl
theorem em_sh (s:S):ShW s emC []:=⟨1,0,[],⟨.nil 1,rfl,⟨.inl (.inl rfl),rfl,fun i hi=>by cases hi⟩,.inl ⟨rfl,rfl,rfl⟩⟩,rfl⟩
theorem zb1 {s:S} {p:V} (h:Sl s 10 p):(ruC p).length=16∧∀ x∈ruC p,x≠.bad:=by
 refine ⟨rfl,fun x hx=>?_⟩
 have he:=(em_sh s).cells.2
 simp only [ruC,List.mem_append,List.mem_cons,List.not_mem_nil,or_false] at hx
 rcases hx with ((rfl | rfl) | hx) | hx
 ·exact iv_ne _ _
 ·exact sl_ne h
 ·exact he x hx
 ·exact he x hx
theorem yU (p:V) (f:List V→Go.Ev.A):zk 16 (.ls 0 (ruC p)) f=f (ruC p):=qQ 16 _ rfl f
structure RBx (s:S) (b:Go.Ev.K) (p:V):Prop where
 bx:Bx s b (ruC p) 16 37
 f0:∀ k:V→S→Go.Ev.A,xLoad false 1 (.ptr b 0 0) s k=k (iv .i64 3) s
 f1:∀ k:V→S→Go.Ev.A,xLoad false 1 (.ptr b 0 1) s k=k p s
 f2:∀ k:V→S→Go.Ev.A,xLoad true 7 (.ptr b 0 2) s k=k (.ls 0 emC) s
 f9:∀ k:V→S→Go.Ev.A,xLoad true 7 (.ptr b 0 9) s k=k (.ls 0 emC) s
 fA:∀ k:V→S→Go.Ev.A,xLoad true 16 (.ptr b 0 0) s k=k (.ls 0 (ruC p)) s
theorem Bx.ru {s:S} {b:Go.Ev.K} {p:V} (h:Bx s b (ruC p) 16 37):RBx s b p :=
 ⟨h,h.fld 0 (by omega),h.fld 1 (by omega),h.seg 2 7 (by omega),h.seg 9 7 (by omega),h.all⟩
theorem RBx.ext {s s':S} {b:Go.Ev.K} {p:V} (h:RBx s b p) (e:Ext s s'):RBx s' b p:=(h.bx.ext e).ru
theorem zbe {s:S} {p:V} (h:Sl s 10 p):RBx (addB s (.row (ruC p) 16 37 false 0 0 0)) s.nx p∧Ext s (addB s (.row (ruC p) 16 37 false 0 0 0))∧∀ k:Go.Ev.K→Nat→S→Go.Ev.A,Go.Ev.newRow s 37 (ruC p) false k=k s.nx 16 (addB s (.row (ruC p) 16 37 false 0 0 0)):=by
 obtain ⟨b1,b2,b3⟩:=qK s (el:=37) (zb1 h).1 (zb1 h).2
 exact ⟨b1.ru,b2,b3⟩
def paZ:List V:=[iv .i64 0,iv .i64 0,iv .i64 0,.str [],iv .i64 0,iv .i64 0,.nil 1,.bool false,.nil 1,.nil 1]
structure PBx (s:S) (b:Go.Ev.K) (e:List V) (B:V):Prop where
 bx:Bx s b (paC e B) 10 65
 f0:∀ k:V→S→Go.Ev.A,xLoad true 7 (.ptr b 0 0) s k=k (.ls 0 e) s
 f7:∀ k:V→S→Go.Ev.A,xLoad false 1 (.ptr b 0 7) s k=k (.bool false) s
 f8:∀ k:V→S→Go.Ev.A,xLoad false 1 (.ptr b 0 8) s k=k B s
 f9:∀ k:V→S→Go.Ev.A,xLoad false 1 (.ptr b 0 9) s k=k (.nil 1) s
theorem Bx.pa {s:S} {b:Go.Ev.K} {e:List V} {B:V} (h:Bx s b (paC e B) 10 65) (he:e.length=7):PBx s b e B:=by
 have hg:∀ j,(paC e B).getD (7+j) .bad=[V.bool false,B,.nil 1].getD j .bad:=fun j=>by
  rw [paC,List.getD_eq_getElem?_getD,List.getElem?_append_right (by omega),he,Nat.add_sub_cancel_left,←List.getD_eq_getElem?_getD]
 refine ⟨h,fun k=>?_,fun k=>?_,fun k=>?_,fun k=>?_⟩
 ·rw [h.seg 0 7 (by omega) k,paC,List.drop_zero,List.take_append_of_le_length (by omega),List.take_of_length_le (by omega)]
 ·rw [h.fld 7 (by omega) k,hg 0];rfl
 ·rw [h.fld 8 (by omega) k,hg 1];rfl
 ·rw [h.fld 9 (by omega) k,hg 2];rfl
theorem PBx.ext {s s':S} {b:Go.Ev.K} {e:List V} {B:V} (h:PBx s b e B) (he:e.length=7) (x:Ext s s'):PBx s' b e B:=(h.bx.ext x).pa he
theorem zHu {s:S} {e:List V} {B:V} {F:List Int} (h:ShW s e F) (hB:Ints s B):PBx (addB s (.row (paC e B) 10 65 false 0 0 0)) s.nx e B∧Ext s (addB s (.row (paC e B) 10 65 false 0 0 0)) ∧
  (∀ k:Go.Ev.K→Nat→S→Go.Ev.A,Go.Ev.newRow s 65 [iv .i64 0,iv .i64 0,iv .i64 0,.str [],iv .i64 0,iv .i64 0,.nil 1,.bool false,.nil 1,.nil 1] false k=k s.nx 10 (addB s (.row paZ 10 65 false 0 0 0))) ∧
  ∀ k:V→S→Go.Ev.A,zK 10 (.ptr s.nx 0 0) (.ls 0 (paC e B)) (addB s (.row paZ 10 65 false 0 0 0)) k=k Go.Ev.undef (addB s (.row (paC e B) 10 65 false 0 0 0)):=by
 have hc:=zfz h hB
 obtain ⟨b1,b2,b3⟩:=qK s (el:=65) hc.1 hc.2
 exact ⟨b1.pa h.cells.1,b2,fun k=>zr _ _ _ _ _,fun k=>yN s 65 10 paZ _ rfl hc.1 k⟩
theorem zkx (a b:Nat) (c:V→Go.Ev.A):ya false [iv .i64 (a:Int)] (iv .i64 (b:Int)) c=c (iv .i64 ((max b a:Nat):Int)):=by
 show min2 false (.nat .i64 b) (.nat .i64 a) _=_
 show min3 false (Nat.blt a b) (.nat .i64 b) (.nat .i64 a) _=_
 unfold min3
 rw [zwx]
 by_cases h:a<b
 ·rw [decide_eq_true h,Nat.max_eq_left (by omega)];rfl
 ·rw [decide_eq_false h,Nat.max_eq_right (by omega)];rfl
structure Hyp (F T:Nat→List Int) (N:Nat) (sg:Int) (W:List Int):Prop where
 n1:1≤N
 n2:N≤20
 f1:∀ i,i<N→F i≠[]
 f2:∀ i,i<N→(F i).length≤20
 t2:∀ i,i<N→(T i).length≤20
 fs:∀ i,i<N→∀ z∈F i,1≤z∧z≤sg
 ts:∀ i,i<N→∀ z∈T i,1≤z∧z≤sg
 fd:∀ i j,i<N→j<N→F i=F j→i=j
 s1:1≤sg
 s2:sg≤10
 w1:W.length≤8
 ws:∀ z∈W,1≤z∧z≤sg
abbrev Spn:=Nat × Nat × Nat
def spC (c:Spn):List V:=[iv .i64 (c.1:Int),iv .i64 (c.2.1:Int),iv .i64 (c.2.2:Int)]
noncomputable def spV (s:S) (v:V) (i:Nat):List V:=(List.range 3).map fun j=>cellV s v (i*3+j)
structure SpA (s:S) (v:V) (cs:List Spn):Prop where
 sl:Sl s 3 v
 len:lenV v=cs.length
 at_:∀ i,i<cs.length→spV s v i=spC (cs.getD i (0,0,0))
def okSp (n N:Nat) (c:Spn):Prop:=c.1<c.2.1∧c.2.1≤n∧c.2.2<N
open Classical in
noncomputable def candP (F:Nat→List Int) (W:List Int) (lo hi:Nat):Nat→List Spn
 | 0=>[]
 | p+1=>candP F W lo hi p++if occ W (F p) lo hi then [(lo,hi,p)] else []
noncomputable def candH (F:Nat→List Int) (N:Nat) (W:List Int) (lo:Nat):Nat→List Spn
 | 0=>[]
 | d+1=>candH F N W lo d++candP F W lo (lo+1+d) N
noncomputable def candO (F:Nat→List Int) (N:Nat) (W:List Int):Nat→List Spn
 | 0=>[]
 | lo+1=>candO F N W lo++candH F N W lo (W.length - lo)
noncomputable def candL (F:Nat→List Int) (N:Nat) (W:List Int):List Spn:=candO F N W W.length
theorem zmc (F:Nat→List Int) (W:List Int) (lo hi:Nat):∀ p,(candP F W lo hi p).length≤p
 | 0=>Nat.zero_le _
 | p+1=>by
  have:=zmc F W lo hi p
  rw [candP,List.length_append]
  split<;>simp<;>omega
theorem zmg (F:Nat→List Int) (N:Nat) (W:List Int) (lo:Nat):∀ d,(candH F N W lo d).length≤d*N
 | 0=>Nat.zero_le _
 | d+1=>by
  have:=zmg F N W lo d
  have:=zmc F W lo (lo+1+d) N
  rw [candH,List.length_append,Nat.add_mul];omega
theorem zlY (F:Nat→List Int) (N:Nat) (W:List Int):∀ lo,(candO F N W lo).length≤lo*(W.length*N)
 | 0=>Nat.zero_le _
 | lo+1=>by
  have h1:=zlY F N W lo
  have h2:=zmg F N W lo (W.length - lo)
  have h3:(W.length - lo)*N≤W.length*N:=Nat.mul_le_mul_right _ (Nat.sub_le _ _)
  rw [candO,List.length_append,Nat.add_mul];omega
theorem zCE (F:Nat→List Int) (W:List Int) (lo hi:Nat) (c:Spn):∀ p,c∈candP F W lo hi p↔c.1=lo∧c.2.1=hi∧c.2.2<p∧occ W (F c.2.2) lo hi
 | 0=>by simp [candP]
 | p+1=>by
  rw [candP,List.mem_append,zCE F W lo hi c p]
  constructor
  ·rintro (⟨h1,h2,h3,h4⟩ | h)
   ·exact ⟨h1,h2,by omega,h4⟩
   ·split at h
    ·rename_i ho
     rw [List.mem_singleton] at h
     subst h
     exact ⟨rfl,rfl,Nat.lt_succ_self _,ho⟩
    ·cases h
  ·rintro ⟨h1,h2,h3,h4⟩
   by_cases e:c.2.2=p
   ·refine .inr ?_
    rw [if_pos (e▸h4),List.mem_singleton]
    rw [←h1,←h2,←e]
   ·exact .inl ⟨h1,h2,by omega,h4⟩
theorem zz1 (F:Nat→List Int) (N:Nat) (W:List Int) (lo:Nat) (c:Spn):∀ d,c∈candH F N W lo d↔c.1=lo∧lo<c.2.1∧c.2.1≤lo+d∧c.2.2<N∧occ W (F c.2.2) c.1 c.2.1
 | 0=>by simp [candH];intros;omega
 | d+1=>by
  rw [candH,List.mem_append,zz1 F N W lo c d,zCE]
  constructor
  ·rintro (⟨h1,h2,h3,h4,h5⟩ | ⟨h1,h2,h3,h4⟩)
   ·exact ⟨h1,h2,by omega,h4,h5⟩
   ·exact ⟨h1,by omega,by omega,h3,by rw [h1,h2];exact h4⟩
  ·rintro ⟨h1,h2,h3,h4,h5⟩
   by_cases e:c.2.1=lo+1+d
   ·exact .inr ⟨h1,e,h4,by rw [←e,←h1];exact h5⟩
   ·exact .inl ⟨h1,h2,by omega,h4,h5⟩
theorem zza (F:Nat→List Int) (N:Nat) (W:List Int) (c:Spn):∀ lo,lo≤W.length→(c∈candO F N W lo↔c.1<lo∧c.1<c.2.1∧c.2.1≤W.length∧c.2.2<N∧occ W (F c.2.2) c.1 c.2.1)
 | 0,_=>by simp [candO]
 | lo+1,hl=>by
  rw [candO,List.mem_append,zza F N W c lo (by omega),zz1]
  constructor
  ·rintro (⟨h1,h2,h3,h4,h5⟩ | ⟨h1,h2,h3,h4,h5⟩)
   ·exact ⟨by omega,h2,h3,h4,h5⟩
   ·exact ⟨by omega,by omega,by omega,h4,h5⟩
  ·rintro ⟨h1,h2,h3,h4,h5⟩
   by_cases e:c.1=lo
   ·exact .inr ⟨e,by omega,by omega,h4,h5⟩
   ·exact .inl ⟨by omega,h2,h3,h4,h5⟩
theorem zfu (F:Nat→List Int) (N:Nat) (W:List Int) (c:Spn):c∈candL F N W↔c.1<c.2.1∧c.2.1≤W.length∧c.2.2<N∧occ W (F c.2.2) c.1 c.2.1:=by
 rw [candL,zza F N W c _ (Nat.le_refl _)]
 exact ⟨fun h=>h.2,fun h=>⟨by omega,h⟩⟩
inductive Div (cs:List Spn):Nat→List Spn→Prop
 | nil {at_:Nat}:(∀ c∈cs,c.1<at_)→Div cs at_ []
 | cons {at_:Nat} {f:Spn} {d:List Spn}:f∈cs→at_≤f.1→(∀ c∈cs,at_≤c.1→f.1<c.1∨(f.1=c.1∧c.2.1≤f.2.1))→Div cs f.2.1 d→Div cs at_ (f::d)
def outL (T:Nat→List Int) (W:List Int):Nat→List Spn→List Int
 | at_,[]=>W.drop at_
 | at_,c::d=>(W.drop at_).take (c.1 - at_)++T c.2.2++outL T W c.2.1 d
def chain (n N:Nat):Nat→List Spn→Prop
 | _,[]=>True
 | at_,c::d=>at_≤c.1∧okSp n N c∧chain n N c.2.1 d
def zdj (a b:Spn):Bool:=if a.2.1 - a.1=b.2.1 - b.1 then decide (a.2.2<b.2.2) else decide (b.2.1 - b.1<a.2.1 - a.1)
def One (s:S) (v:V) (g:V):Prop:=∃ q,lenV v=1∧(∀ c:V→Go.Ev.A,xLenS v c=c (iv .i64 1))∧(∀ k c,zb 1 v (iv k 0) c=c q)∧∀ s',Ext s s'→∀ k:V→S→Go.Ev.A,xLoad false 1 q s' k=k g s'
open Classical in
noncomputable def K4 (F T:Nat→List Int) (N:Nat) (sg:Int) (W:List Int):Nat→Ct
 | 18=>⟨fun a s=>∃ p,a=[.ls 0 (ruC p)]∧RuA s p F T N,fun _ s v s'=>Ext s s'∧v=.bool true⟩
 | 159=>⟨fun a s=>∃ e u,a=[.ls 0 e]∧ShW s e u∧∀ z∈u,1≤z∧z≤sg,fun _ s v s'=>Ext s s'∧∃ g:Nat,v=iv .i64 (g:Int)∧(g:Int)≤sg⟩
 | 110=>⟨fun a s=>∃ p,a=[.ls 0 (ruC p)]∧RuA s p F T N,fun _ s v s'=>Ext s s'∧∃ g:Nat,v=iv .i64 (g:Int)∧(g:Int)≤sg⟩
 | 69=>⟨fun a s=>∃ p,a=[.ls 0 (ruC p),iv .i64 sg]∧RuA s p F T N,fun _ s v s'=>Ext s s'∧v=.bool true⟩
 | 70=>⟨fun a s=>∃ x,a=[iv .i64 sg,x]∧Ints s x∧word s x=W,fun _ s v s'=>s'=s∧v=.bool true⟩
 | 37=>⟨fun a s=>∃ p x,∃ m:Int,a=[.ls 0 (ruC p),iv .i64 sg,x,iv .i64 m]∧RuA s p F T N∧Ints s x∧word s x=W∧0≤m∧m≤500,fun _ s v s'=>Ext s s'∧v=.bool false⟩
 | 71=>⟨fun a s=>∃ p x,a=[.ls 0 (ruC p),iv .i64 sg,x]∧RuA s p F T N∧Ints s x∧word s x=W,fun _ s v s'=>Ext s s'∧SpA s' v (candL F N W)⟩
 | 112=>⟨fun a _=>∃ c d:Spn,a=[iv .i64 3,.ls 0 (spC c),.ls 0 (spC d)]∧okSp W.length N c∧okSp W.length N d,fun a s v s'=>∀ c d:Spn,a=[iv .i64 3,.ls 0 (spC c),.ls 0 (spC d)]→Ext s s'∧v=.bool (zdj c d)⟩
 | 72=>⟨fun a s=>∃ l,a=[iv .i64 3,l,iv .i64 (W.length:Int)]∧SpA s l (candL F N W),fun _ s v s'=>Ext s s'∧∃ d,SpA s' v d∧(∀ c,blkOf v=some c→s.nx.toNat≤c.toNat)∧Div (candL F N W) 0 d⟩
 | 75=>⟨fun a s=>∃ p x v d,a=[.ls 0 (ruC p),x,v]∧RuA s p F T N∧Ints s x∧Fx x∧word s x=W∧SpA s v d∧chain W.length N 0 d,fun a s y s'=>∀ p x v d,a=[.ls 0 (ruC p),x,v]→SpA s v d→Ext s s'∧Ints s' y∧word s' y=outL T W 0 d⟩
 | 74=>⟨fun a s=>∃ y,a=[.nil 1,y]∧Ints s y,fun a s v s'=>∀ y,a=[.nil 1,y]→Ext s s'∧One s' v y⟩
 | 39=>⟨fun a s=>∃ p x l v d,a=[.ls 0 (ruC p),x,l]∧RuA s p F T N∧Ints s x∧Fx x∧word s x=W∧One s l v∧SpA s v d∧chain W.length N 0 d,fun a s r s'=>∀ p x l v d,a=[.ls 0 (ruC p),x,l]→One s l v→SpA s v d→Ext s s'∧∃ y,One s' r y∧Ints s' y∧word s' y=outL T W 0 d⟩
 | 38=>⟨fun a s=>∃ p x,∃ m:Int,a=[.ls 0 (ruC p),iv .i64 sg,x,iv .i64 m]∧RuA s p F T N∧Ints s x∧word s x=W∧1≤m∧m≤500,fun _ s v s'=>Ext s s'∧∃ l w d,v=.ls 1 [l,iv .i64 0]∧One s' l w∧SpA s' w d∧Div (candL F N W) 0 d⟩
 | 19=>⟨fun a s=>∃ p x,∃ m:Int,a=[.ls 0 (ruC p),iv .i64 sg,x,iv .i64 m]∧RuA s p F T N∧Ints s x∧Fx x∧word s x=W∧1≤m∧m≤500,fun _ s v s'=>Ext s s'∧∃ l y d,v=.ls 1 [l,iv .i64 0]∧One s' l y∧Ints s' y∧word s' y=outL T W 0 d∧Div (candL F N W) 0 d⟩
 | f=>K3 f
theorem fn_k4 {F T:Nat→List Int} {N:Nat} {sg:Int} {W:List Int} {L:Nat→Lt} {f:Nat} {a:List V} {s s':S} {v:V} (h:(fnC pc0 f).run (Rk Tryz.prog (K4 F T N sg W) L) a s=.ret v s'):CallX Tryz.prog f a s v s':=jW pcOk0.1 pcOk0.2 (Rk_ok pc0 _ L) h
theorem hold4 {F T:Nat→List Int} {N:Nat} {sg:Int} {W:List Int} {f:Nat} (h:Holds Tryz.prog K3 f) (e:K4 F T N sg W f=K3 f):Holds Tryz.prog (K4 F T N sg W) f:=by
 unfold Holds at h ⊢
 rw [e];exact h
section
variable {F T:Nat→List Int} {N:Nat} {sg:Int} {W:List Int}
theorem hold2 {f:Nat} (h:Holds Tryz.prog K f) (e:K2 f=K f):Holds Tryz.prog K2 f:=by
 unfold Holds at h ⊢
 rw [e];exact h
theorem ShW.nat {s:S} {e:List V} {k a:Int} {zs:List Int} (h:ShAt s e k a zs) (hu:∀ z∈wOf k a zs,1≤z∧z≤sg) (h0:0≤sg):(∃ m:Nat,a=m∧(m:Int)≤sg)∧∀ i,i<zs.length→∃ m:Nat,zs.getD i 0=m∧1≤(m:Int)∧(m:Int)≤sg:=by
 obtain ⟨_,_,_,hK⟩:=h
 rcases hK with ⟨rfl,rfl,rfl⟩ | ⟨rfl,hz,rfl⟩ | ⟨rfl,rfl,_,_,hz⟩
 ·exact ⟨⟨0,rfl,h0⟩,fun i hi=>by cases hi⟩
 ·have:=hu a (by simp [wOf])
  exact ⟨⟨a.toNat,by omega,by omega⟩,fun i hi=>by cases hi⟩
 ·refine ⟨⟨0,rfl,h0⟩,fun i hi=>?_⟩
  have hm:zs.getD i 0∈zs:=by rw [List.getD_eq_getElem?_getD,List.getElem?_eq_getElem hi];exact List.getElem_mem _
  have:=hu (zs.getD i 0) (by show _∈wOf 5 0 zs;exact hm)
  exact ⟨(zs.getD i 0).toNat,by omega,by omega,by omega⟩
def GrOut (s:S) (sg:Int) (a:Go.Ev.A):Prop:=∃ tm' s',∃ g:Nat,a=.ext 0 tm' s'∧gp 240 tm'=.bad∧Ext s s'∧gp 3 tm'=iv .i64 (g:Int)∧(g:Int)≤sg
def ltGr (s:S) (c:List V) (n:Nat) (sg:Int):Lt:=⟨fun tm s'=>Ext s s'∧gp 240 tm=.bad∧(∃ b,gp 1 tm=.ptr b 0 0∧Bx s' b c 7 35)∧∃ i g:Nat,i≤n∧gp 4 tm=iv .i64 (i:Int)∧gp 3 tm=iv .i64 (g:Int)∧(g:Int)≤sg,
 fun _ _ a=>GrOut s sg a⟩
def At4 (F T:Nat→List Int) (N:Nat) (sg:Int) (W:List Int) (f:Nat) (args:List V) (s:S):Prop:=∃ v s',CallX Tryz.prog f args s v s'∧(K4 F T N sg W f).post args s v s'
theorem zNP {s:S} {c:List V} {k a:Int} {zs:List Int} (h:ShAt s c k a zs) (hu:∀ z∈wOf k a zs,1≤z∧z≤sg) (h0:0≤sg)
  (hC:zs≠[]→∀ z s,okSy z→z≤sg→At4 F T N sg W 159 [.ls 0 (prC z)] s) :
  ∀ tm s',(ltGr s c zs.length sg).pre tm s'→(ltGr s c zs.length sg).post tm s' (zaC.run (Rk Tryz.prog (K4 F T N sg W) fun _=>ltGr s c zs.length sg) tm s'):=by
 refine zC (L:=fun _=>ltGr s c zs.length sg) pcOk0.1 pcOk0.2 zGT (fun tm _=>zs.length - (toI (gp 4 tm)).toNat) (fun _ _ _ _ h=>by obtain ⟨_,_,_,rfl,_⟩:∃ tm' s',∃ g:Nat,_∧_:=h;exact fun h=>h) ?_
 rintro tm s' ⟨hE,h240,⟨b,hg1,hB⟩,i,g,hi,h4,h3,hg⟩ IH
 show GrOut _ _ (zaC.run _ tm s')
 have hC':zs≠[]→∀ z s1,okSy z→z≤sg→∃ s2,∃ g:Nat,(Rk Tryz.prog (K4 F T N sg W) fun _=>ltGr s c zs.length sg).call 159 [.ls 0 (prC z)] s1=.ret (iv .i64 (g:Int)) s2∧Ext s1 s2∧(g:Int)≤sg:=by
  intro hz z s1 hz1 hz2
  obtain ⟨v,s2,e,hp⟩:=Rk_at (L:=fun _=>ltGr s c zs.length sg) (hC hz z s1 hz1 hz2) ⟨_,[z],rfl,⟨2,z,[],qZ s1 hz1,rfl⟩,fun y hy=>by simp at hy;subst hy;exact ⟨hz1.1,hz2⟩⟩
  obtain ⟨hE2,g,rfl,hg⟩:=hp
  exact ⟨s2,g,e,hE2,hg⟩
 generalize Rk Tryz.prog _ _=r at IH hC' ⊢
 have hnat:=(ShW.nat h hu h0).2
 obtain ⟨p,rfl,hP,hK⟩:=h.ext hE
 have hl20:=hK.le
 have hL6:∀ f:V→S→Go.Ev.A,xLoad false 1 (.ptr b 0 6) s' f=f p s':=hB.fld 6 (by omega)
 have hlen:∀ c:V→Go.Ev.A,xLenS p c=c (iv .i64 (zs.length:Int)):=fun c=>by rw [hP.1.len,hP.2.1]
 have w2:IntKind.i64.wrap ((i:Int)+1)=(i:Int)+1:=zD (by omega) (by omega)
 by_cases hlt:i<zs.length
 ·obtain ⟨q,hq,hQ⟩:=hP.at_ hlt
  have hz:zs≠[]:=fun h=>by rw [h] at hlt;cases hlt
  have hok:=zcG hK hlt
  have hn:=hnat i hlt
  generalize zs.getD i 0=z0 at hQ hok hn
  obtain ⟨m,hm,_,hm2⟩:=hn
  obtain ⟨s2,g2,e2,hE2,hg2⟩:=hC' hz z0 s' hok (by omega)
  simp -implicitDefEqProofs [zn9,zhu,gp_sp,hg1,h3,h4,zi,hL6,hlen,ze,zo,hq,hQ,w2,e2,zkx,zd,hlt]
  exact IH _ _ (by simp [gp_sp,h4,zp];omega) ⟨hE.trans hE2,by simp [gp_sp,h240],⟨b,by simp [gp_sp,hg1],hB.ext hE2⟩,i+1,max g g2,by omega,by simp [gp_sp],by simp [gp_sp],by omega⟩
 ·simp -implicitDefEqProofs [zn9,zhu,gp_sp,hg1,h4,zi,hL6,hlen,ze,zd,hlt]
  exact ⟨_,_,g,rfl,by simp [gp_sp,h240],hE,by simp [gp_sp,h3],hg⟩
theorem zMy {s:S} {c:List V} {k a:Int} {zs:List Int} (h:ShAt s c k a zs) (hu:∀ z∈wOf k a zs,1≤z∧z≤sg) (h0:0≤sg) (hC:zs≠[]→∀ z s,okSy z→z≤sg→At4 F T N sg W 159 [.ls 0 (prC z)] s):At4 F T N sg W 159 [.ls 0 c] s:=by
 suffices hh:∃ s',∃ g:Nat,(fnC pc0 159).run (Rk Tryz.prog (K4 F T N sg W) fun _=>ltGr s c zs.length sg) [.ls 0 c] s=.ret (iv .i64 (g:Int)) s'∧Ext s s'∧(g:Int)≤sg by
  obtain ⟨s',g,g1,g2,g3⟩:=hh
  exact ⟨_,s',fn_k4 g1,g2,g,rfl,g3⟩
 have hL:=zNP h hu h0 hC
 generalize Rk Tryz.prog _ _=r at hL ⊢
 obtain ⟨b1,b2,b3⟩:=qK s (el:=35) h.cells.1 h.cells.2
 have hcc:=qf h
 obtain ⟨⟨m,rfl,hm⟩,-⟩:=ShW.nat h hu h0
 obtain ⟨F1,F2⟩:(∀ f:V→S→Go.Ev.A,xLoad false 1 (.ptr s.nx 0 1) (addB s (.row c 7 35 false 0 0 0)) f=f (iv .i64 (m:Int)) (addB s (.row c 7 35 false 0 0 0)))∧(∀ f:V→S→Go.Ev.A,xLoad false 1 (.ptr s.nx 0 2) (addB s (.row c 7 35 false 0 0 0)) f=f (iv .i64 (m:Int)) (addB s (.row c 7 35 false 0 0 0))):=by
  obtain ⟨p,rfl,_⟩:=h
  exact ⟨b1.fld 1 (by omega),b1.fld 2 (by omega)⟩
 generalize addB s (.row c 7 35 false 0 0 0)=s1 at *
 simp -implicitDefEqProofs [zhu,gp_sp,hcc,b3,zi,F1,F2,zkx,zd]
 generalize hA:zaC.run r _ _=y
 have:=hA▸hL _ _ ⟨b2,by simp [gp_sp],⟨s.nx,by simp [gp_sp],b1⟩,0,m,Nat.zero_le _,by simp [gp_sp],by simp [gp_sp],hm⟩
 obtain ⟨tm',s',g,rfl,k1,hE',k3,hg⟩:=this
 exact ⟨s',g,by simp [zf,gp_sp,k1,k3],hE',hg⟩
theorem zub (h0:0≤sg):Holds Tryz.prog (K4 F T N sg W) 159:=by
 rintro a s ⟨c,u,rfl,⟨k,x,zs,h,rfl⟩,hu⟩
 exact zMy h hu h0 fun _ z s hz hz2=>zMy (qZ s hz) (fun y hy=>by simp [wOf] at hy;subst hy;exact ⟨hz.1,hz2⟩) h0 fun h=>absurd rfl h
def ltW28 (s:S) (x:V) (sg:Int):Lt:=⟨fun tm s'=>s'=s∧gp 240 tm=.bad∧gp 0 tm=iv .i64 sg∧gp 1 tm=x∧∃ i:Nat,i≤lenV x∧gp 5 tm=iv .i64 (i:Int),fun _ _ a=>∃ tm',a=.ext 0 tm' s∧gp 240 tm'=.bad⟩
theorem zNo {s:S} {x:V} (hx:Ints s x) (h8:lenV x≤8) (hw:∀ z∈word s x,z≤sg):∀ tm s',(ltW28 s x sg).pre tm s'→(ltW28 s x sg).post tm s' (zaE.run (Rk Tryz.prog (K4 F T N sg W) fun _=>ltW28 s x sg) tm s'):=by
 refine zC (L:=fun _=>ltW28 s x sg) pcOk0.1 pcOk0.2 zE8 (fun tm _=>lenV x - (toI (gp 5 tm)).toNat) (fun _ _ _ _ h=>by obtain ⟨_,rfl,_⟩:∃ tm',_∧_:=h;exact fun h=>h) ?_
 rintro tm s' ⟨rfl,h240,h0,h1,i,hi,h5⟩ IH
 show ∃ tm',zaE.run _ tm s'=.ext 0 tm' s'∧gp 240 tm'=.bad
 generalize Rk Tryz.prog _ _=r at IH ⊢
 have w2:IntKind.i64.wrap ((i:Int)+1)=(i:Int)+1:=zD (by omega) (by omega)
 by_cases hlt:i<lenV x
 ·obtain ⟨p,hp,hP⟩:=hx.at_ hlt
  have hz:¬sg<intV s' x i:=by have:=hw (intV s' x i) (zaz.2 ⟨i,hlt,rfl⟩);omega
  simp -implicitDefEqProofs [zpr,zmi,gp_sp,h0,h1,h5,hx.1.len,ze,zw,zo,hp,hP,hz,w2,zd,hlt]
  exact IH _ _ (by simp [gp_sp,h5,zp];omega) ⟨rfl,by simp [gp_sp,h240],by simp [gp_sp,h0],by simp [gp_sp,h1],i+1,by omega,by simp [gp_sp]⟩
 ·simp -implicitDefEqProofs [zpr,zmi,gp_sp,h1,h5,hx.1.len,ze,zd,hlt]
  simp [h240]
open Classical in
theorem zKF (hH:Hyp F T N sg W):Holds Tryz.prog (K4 F T N sg W) 70:=by
 rintro a s ⟨x,rfl,hx,hW⟩
 suffices hh:(fnC pc0 70).run (Rk Tryz.prog (K4 F T N sg W) fun _=>ltW28 s x sg) [iv .i64 sg,x] s=.ret (.bool true) s from ⟨_,_,fn_k4 hh,rfl,rfl⟩
 have hlen:lenV x≤8:=by have:=hH.w1;rw [←hW,zq] at this;exact this
 have hok:jq (word s x):=by
  rw [hW]
  exact ⟨by have:=hH.w1;omega,fun z hz=>by have:=hH.ws z hz;have:=hH.s2;omega⟩
 have hL:=zNo (F:=F) (T:=T) (N:=N) (W:=W) (sg:=sg) hx hlen (fun z hz=>(hH.ws z (hW▸hz)).2)
 have hR:Kept (K4 F T N sg W) (Rk Tryz.prog (K4 F T N sg W) fun _=>ltW28 s x sg) 14:=zn (hold4 (hold3 (hold2 zxf rfl) rfl) rfl)
 generalize Rk Tryz.prog _ _=r at hL hR ⊢
 obtain ⟨w,s1,e1,p1⟩:=hR [x] s ⟨x,rfl,hx⟩
 obtain ⟨rfl,rfl⟩:=p1 x rfl
 rw [decide_eq_true hok] at e1
 simp -implicitDefEqProofs [zmi,gp_sp,e1,zd]
 generalize hA:zaE.run r _ _=y
 have:=hA▸hL _ _ ⟨rfl,by simp [gp_sp],by simp [gp_sp],by simp [gp_sp],0,Nat.zero_le _,by simp [gp_sp]⟩
 obtain ⟨tm',rfl,k1⟩:=this
 simp [zf,gp_sp,k1]
theorem zN5:beqV (.ls 0 emC) (.ls 0 emC)=true:=by kernel_rfl
theorem zHe (c:V→Go.Ev.A):xLenS (.nil 1) c=c (iv .i64 0):=rfl
def G5 (i:Nat) (tm':Go.Ev.T) (s':S):Prop:=gp 4 tm'=iv .i64 (i:Int)∧∃ b e B,e.length=7∧gp 5 tm'=.ptr b 0 0∧PBx s' b e B
structure GF (s:S) (p:V) (sg:Int) (tm:Go.Ev.T) (s':S):Prop where
 ext:Ext s s'
 bd:gp 240 tm=.bad
 bx:∃ b,gp 1 tm=.ptr b 0 0∧RBx s' b p
 g:∃ g:Nat,gp 3 tm=iv .i64 (g:Int)∧(g:Int)≤sg
def GOut (s:S) (p:V) (sg:Int) (id:Nat) (f:Go.Ev.T→S→Prop) (a:Go.Ev.A):Prop:=∃ tm' s',a=.ext id tm' s'∧GF s p sg tm' s'∧f tm' s'
theorem GOut.nb {s:S} {p:V} {sg:Int} {id:Nat} {f:Go.Ev.T→S→Prop} {a:Go.Ev.A} (h:GOut s p sg id f a):¬a.isBad:=by obtain ⟨_,_,rfl,_⟩:=h;exact fun h=>h
end
section
variable {F T:Nat→List Int} {N:Nat} {sg:Int} {W:List Int}
def ltG28 (s:S) (p:V) (_ _:Nat→List Int) (N:Nat) (sg:Int):Nat→Lt
 | 27=>⟨fun tm s'=>GF s p sg tm s'∧∃ b e B,∃ i:Nat,gp 4 tm=iv .i64 (i:Int)∧gp 5 tm=.ptr b 0 0∧e.length=7∧PBx s' b e B∧Ints s' B∧lenV B≤20∧(∀ z∈word s' B,1≤z∧z≤sg)∧∃ j:Nat,j≤lenV B∧gp 6 tm=iv .i64 (j:Int),
   fun tm _ a=>∀ i:Nat,gp 4 tm=iv .i64 (i:Int)→GOut s p sg 2 (G5 i) a⟩
 | _=>⟨fun tm s'=>GF s p sg tm s'∧∃ i:Nat,i≤N∧gp 4 tm=iv .i64 (i:Int),fun _ _ a=>GOut s p sg 0 (fun _ _=>True) a⟩
theorem zNF {s:S} {p:V}:∀ tm s',(ltG28 s p F T N sg 27).pre tm s'→(ltG28 s p F T N sg 27).post tm s' (wi.run (Rk Tryz.prog (K4 F T N sg W) (ltG28 s p F T N sg)) tm s'):=by
 refine zC (L:=ltG28 s p F T N sg) pcOk0.1 pcOk0.2 zDi (fun tm s'=>100 - (toI (gp 6 tm)).toNat) ?_ ?_
 ·rintro tm s' a ⟨_,_,_,_,i,h4,_⟩ h
  exact (h i h4).nb
 rintro tm s' ⟨hF,b,e,B,i,h4,h5,he,hB,hI,h20,hw,j,hj,h6⟩ IH i' e6
 obtain rfl:=j6 (h4.symm.trans e6)
 clear e6
 have IH':∀ tm' s2,100 - (toI (gp 6 tm')).toNat<100 - (toI (gp 6 tm)).toNat→gp 4 tm'=iv .i64 (i:Int)→(ltG28 s p F T N sg 27).pre tm' s2→GOut s p sg 2 (G5 i) ((Rk Tryz.prog (K4 F T N sg W) (ltG28 s p F T N sg)).code yf za2 tm' s2):=fun tm' s2 h1 h2 h3=>IH tm' s2 h1 h3 i h2
 clear IH
 show GOut _ _ _ _ _ (wi.run _ tm s')
 generalize Rk Tryz.prog _ _=r at IH' ⊢
 have w2:IntKind.i64.wrap ((j:Int)+1)=(j:Int)+1:=zD (by omega) (by omega)
 obtain ⟨g,hg,hgs⟩:=hF.g
 obtain ⟨b0,hb0,hR⟩:=hF.bx
 by_cases hlt:j<lenV B
 ·obtain ⟨q,hq,hQ⟩:=hI.at_ hlt
  have hz:=hw (intV s' B j) (zaz.2 ⟨j,hlt,rfl⟩)
  generalize intV s' B j=z at hQ hz
  obtain ⟨m,rfl⟩:∃ m:Nat,z=m:=⟨z.toNat,by omega⟩
  simp -implicitDefEqProofs [zjo,jU,gp_sp,h5,h6,hg,zi,hB.f8,hI.1.len,ze,zo,hq,hQ,w2,zkx,zd,hlt]
  exact IH' _ _ (by simp [gp_sp,h6,zp];omega) (by simp [gp_sp,h4]) ⟨⟨hF.ext,by simp [gp_sp,hF.bd],⟨b0,by simp [gp_sp,hb0],hR⟩,max g m,by simp [gp_sp],by omega⟩,b,e,B,i,by simp [gp_sp,h4],by simp [gp_sp,h5],he,hB,hI,h20,hw,j+1,by omega,by simp [gp_sp]⟩
 ·simp -implicitDefEqProofs [zjo,jU,gp_sp,h5,h6,zi,hB.f8,hI.1.len,ze,zd,hlt]
  exact ⟨_,_,rfl,⟨hF.ext,by simp [gp_sp,hF.bd],⟨b0,by simp [gp_sp,hb0],hR⟩,g,by simp [gp_sp,hg],hgs⟩,by simp [gp_sp,h4],b,e,B,he,by simp [gp_sp,h5],hB⟩
theorem zOo (hH:Hyp F T N sg W) {s:S} {p:V} (hp:RuA s p F T N):∀ tm s',(ltG28 s p F T N sg 98).pre tm s'→(ltG28 s p F T N sg 98).post tm s' (zaN.run (Rk Tryz.prog (K4 F T N sg W) (ltG28 s p F T N sg)) tm s'):=by
 refine zC (L:=ltG28 s p F T N sg) pcOk0.1 pcOk0.2 zEH (fun tm _=>N - (toI (gp 4 tm)).toNat) (fun _ _ _ _ (h:GOut _ _ _ _ _ _)=>h.nb) ?_
 rintro tm s' ⟨hF,i,hi,h4⟩ IH
 show GOut _ _ _ _ _ (zaN.run _ tm s')
 have hIn:=zNF (F:=F) (T:=T) (N:=N) (sg:=sg) (W:=W) (s:=s) (p:=p)
 have hGr:Kept (K4 F T N sg W) (Rk Tryz.prog (K4 F T N sg W) (ltG28 s p F T N sg)) 159:=zn (zub (by have:=hH.s1;omega))
 generalize Rk Tryz.prog _ _=r at IH hIn hGr ⊢
 have hn2:=hH.n2
 have w2:IntKind.i64.wrap ((i:Int)+1)=(i:Int)+1:=zD (by omega) (by omega)
 obtain ⟨g,hg,hgs⟩:=hF.g
 obtain ⟨b0,hb0,hR⟩:=hF.bx
 have hp':=hp.ext hF.ext
 have hlen:∀ c:V→Go.Ev.A,xLenS p c=c (iv .i64 (N:Int)):=fun c=>by rw [hp.sl.len,hp.len]
 by_cases hlt:i<N
 ·obtain ⟨q,q0,e,B,a1,a2,-,-,a5,a6,a7⟩:=hp'.at_ hlt
  obtain ⟨b1,b2,b3,b4⟩:=zHu a5 a6
  have he:=a5.cells.1
  obtain ⟨w,s2,e2,p2⟩:=hGr [.ls 0 e] _ ⟨e,F i,rfl,a5.ext b2,hH.fs i hlt⟩
  obtain ⟨hE2,g2,rfl,hg2⟩:=p2
  have hE3:=b2.trans hE2
  have hB2:=b1.ext he hE2
  simp -implicitDefEqProofs [zod,jU,gp_sp,hb0,h4,hg,zi,hR.f1,hlen,ze,a1,a2,b3,b4,b1.f0,e2,zkx,zd,hlt]
  generalize hA:wi.run r _ s2=a
  have hBl:lenV B≤20:=by have:=hH.t2 i hlt;rw [←a7,zq] at this;exact this
  have:=(hA▸hIn _ s2 ⟨⟨hF.ext.trans hE3,by simp [gp_sp,hF.bd],⟨b0,by simp [gp_sp,hb0],hR.ext hE3⟩,max g g2,by simp [gp_sp],by omega⟩,s'.nx,e,B,i,by simp [gp_sp,h4],by simp [gp_sp],he,hB2,(a6.ext hE3).1,hBl,by rw [a6.word hE3,a7];exact hH.ts i hlt,0,Nat.zero_le _,by simp [gp_sp]⟩) i (by simp [gp_sp,h4])
  obtain ⟨tm',s3,rfl,hF3,t4,b3,e3,B3,he3,t5,hB3⟩:=this
  obtain ⟨g3,hg3,hgs3⟩:=hF3.g
  obtain ⟨b0',hb0',hR'⟩:=hF3.bx
  simp -implicitDefEqProofs [zf,zDj,jU,gp_sp,t4,t5,zi,hB3.f9,ze,zo,w2,zd,zHe]
  exact IH _ s3 (by simp [gp_sp,h4,zp];omega) ⟨⟨hF3.ext,by simp [gp_sp,hF3.bd],⟨b0',by simp [gp_sp,hb0'],hR'⟩,g3,by simp [gp_sp,hg3],hgs3⟩,i+1,by omega,by simp [gp_sp]⟩
 ·simp -implicitDefEqProofs [zod,jU,gp_sp,hb0,h4,zi,hR.f1,hlen,ze,zd,hlt]
  exact ⟨_,_,rfl,⟨hF.ext,by simp [gp_sp,hF.bd],⟨b0,by simp [gp_sp,hb0],hR⟩,g,by simp [gp_sp,hg],hgs⟩,trivial⟩
theorem zHS (hH:Hyp F T N sg W):Holds Tryz.prog (K4 F T N sg W) 110:=by
 rintro a s ⟨p,rfl,hp⟩
 suffices hh:∃ s',∃ g:Nat,(fnC pc0 110).run (Rk Tryz.prog (K4 F T N sg W) (ltG28 s p F T N sg)) [.ls 0 (ruC p)] s=.ret (iv .i64 (g:Int)) s'∧Ext s s'∧(g:Int)≤sg by
  obtain ⟨s',g,g1,g2,g3⟩:=hh
  exact ⟨_,s',fn_k4 g1,g2,g,rfl,g3⟩
 have hL:=zOo hH hp
 have hGr:Kept (K4 F T N sg W) (Rk Tryz.prog (K4 F T N sg W) (ltG28 s p F T N sg)) 159:=zn (zub (by have:=hH.s1;omega))
 generalize Rk Tryz.prog _ _=r at hL hGr ⊢
 obtain ⟨b1,b2,b3⟩:=zbe hp.sl
 have hcc:=yU p
 generalize addB s (.row (ruC p) 16 37 false 0 0 0)=s1 at *
 obtain ⟨w,s2,e2,p2⟩:=hGr [.ls 0 emC] s1 ⟨emC,[],rfl,em_sh s1,fun z hz=>by cases hz⟩
 obtain ⟨hE2,g2,rfl,hg2⟩:=p2
 obtain ⟨w,s3,e3,p3⟩:=hGr [.ls 0 emC] s2 ⟨emC,[],rfl,em_sh s2,fun z hz=>by cases hz⟩
 obtain ⟨hE3,g3,rfl,hg3⟩:=p3
 have hR2:=b1.ext hE2
 simp -implicitDefEqProofs [jU,gp_sp,hcc,b3,zi,b1.f2,b1.f9,hR2.f9,e2,e3,zN5,zkx,zd,qg]
 generalize hA:zaN.run r _ _=y
 have:=hA▸hL _ _ ⟨⟨b2.trans (hE2.trans hE3),by simp [gp_sp],⟨s.nx,by simp [gp_sp],hR2.ext hE3⟩,max g2 g3,by simp [gp_sp],by omega⟩,0,Nat.zero_le _,by simp [gp_sp]⟩
 obtain ⟨tm',s',rfl,hF,-⟩:=this
 obtain ⟨g,hg,hgs⟩:=hF.g
 exact ⟨s',g,by simp [zf,gp_sp,hF.bd,hg],hF.ext,hgs⟩
end
theorem zlH (s:S):Ints s (.nil 1):=⟨.inl (.inl rfl),by simp [lenV],fun j hj=>by simp [lenV] at hj⟩
section
variable {F T:Nat→List Int} {N:Nat} {sg:Int} {W:List Int}
def PrOut (s:S) (a:Go.Ev.A):Prop:=∃ tm' s',a=.ext 0 tm' s'∧gp 240 tm'=.bad∧Ext s s'
def ltPr (s:S) (p:V) (N:Nat) (sg:Int):Lt:=⟨fun tm s'=>Ext s s'∧gp 240 tm=.bad∧gp 1 tm=iv .i64 sg∧(∃ b,gp 2 tm=.ptr b 0 0∧RBx s' b p)∧∃ i:Nat,i≤N∧gp 5 tm=iv .i64 (i:Int),fun _ _ a=>PrOut s a⟩
open Classical in
theorem zOn (hH:Hyp F T N sg W) {s:S} {p:V} (hp:RuA s p F T N):∀ tm s',(ltPr s p N sg).pre tm s'→(ltPr s p N sg).post tm s' (jB.run (Rk Tryz.prog (K4 F T N sg W) fun _=>ltPr s p N sg) tm s'):=by
 refine zC (L:=fun _=>ltPr s p N sg) pcOk0.1 pcOk0.2 zxI (fun tm _=>N - (toI (gp 5 tm)).toNat) (fun _ _ _ _ h=>by obtain ⟨_,_,rfl,_⟩:∃ tm' s',_∧_:=h;exact fun h=>h) ?_
 rintro tm s' ⟨hE,h240,h1,⟨b,h2,hR⟩,i,hi,h5⟩ IH
 show PrOut _ (jB.run _ tm s')
 have hPi:Kept (K4 F T N sg W) (Rk Tryz.prog (K4 F T N sg W) fun _=>ltPr s p N sg) 111:=zn (hold4 zmt rfl)
 generalize Rk Tryz.prog _ _=r at IH hPi ⊢
 have hn2:=hH.n2
 have w2:IntKind.i64.wrap ((i:Int)+1)=(i:Int)+1:=zD (by omega) (by omega)
 have hp':=hp.ext hE
 have hlen:∀ c:V→Go.Ev.A,xLenS p c=c (iv .i64 (N:Int)):=fun c=>by rw [hp.sl.len,hp.len]
 by_cases hlt:i<N
 ·obtain ⟨q,q0,e,B,a1,-,a3,a4,a5,a6,a7⟩:=hp'.at_ hlt
  obtain ⟨k,z,zs,hS,hw⟩:=a5
  obtain ⟨v,s2,e2,p2⟩:=hPi [.ls 0 e,iv .i64 sg,.nil 1] s' ⟨e,k,z,zs,_,sg,rfl,hS,zlH s',by simp [lenV]⟩
  obtain ⟨hE2,hG⟩:=p2 _ _ _ _ _ _ rfl hS
  obtain ⟨p1,r1,q1,c1,c2,c3,c4⟩:=hG.read (i:=0) (j:=0) (by omega) (by omega)
  have hf:pG (word s' (.nil 1)) (wOf k z zs) 0 0=false:=by
   unfold pG
   rw [decide_eq_false_iff_not,hw]
   intro h
   have:=h.1
   have h3:=hH.f1 i hlt
   exact h3 (List.eq_nil_of_length_eq_zero (by omega))
  rw [hf] at c4
  have c1':∀ k c,zb 1 v (iv k 0) c=c p1:=c1
  have c3':∀ k c,zb 1 r1 (iv k 0) c=c q1:=c3
  simp -implicitDefEqProofs [zgw,zeR,gp_sp,h1,h2,h5,zi,hR.f1,hlen,ze,zo,a1,a3,a4,e2,c1',c2,c3',c4,w2,zd,hlt]
  exact IH _ _ (by simp [gp_sp,h5,zp];omega) ⟨hE.trans hE2,by simp [gp_sp,h240],by simp [gp_sp,h1],⟨b,by simp [gp_sp,h2],hR.ext hE2⟩,i+1,by omega,by simp [gp_sp]⟩
 ·simp -implicitDefEqProofs [zgw,zeR,gp_sp,h2,h5,zi,hR.f1,hlen,ze,zd,hlt]
  exact ⟨_,_,rfl,by simp [gp_sp,h240],hE⟩
theorem zEd (hH:Hyp F T N sg W):Holds Tryz.prog (K4 F T N sg W) 69:=by
 rintro a s ⟨p,rfl,hp⟩
 suffices hh:∃ s',(fnC pc0 69).run (Rk Tryz.prog (K4 F T N sg W) fun _=>ltPr s p N sg) [.ls 0 (ruC p),iv .i64 sg] s=.ret (.bool true) s'∧Ext s s' by
  obtain ⟨s',g1,g2⟩:=hh
  exact ⟨_,s',fn_k4 g1,g2,rfl⟩
 have hL:=zOn hH hp
 have hGr:Kept (K4 F T N sg W) (Rk Tryz.prog (K4 F T N sg W) fun _=>ltPr s p N sg) 110:=zn (zHS hH)
 generalize Rk Tryz.prog _ _=r at hL hGr ⊢
 obtain ⟨b1,b2,b3⟩:=zbe hp.sl
 have hcc:=yU p
 generalize addB s (.row (ruC p) 16 37 false 0 0 0)=s1 at *
 obtain ⟨w,s2,e2,p2⟩:=hGr [.ls 0 (ruC p)] s1 ⟨p,rfl,hp.ext b2⟩
 obtain ⟨hE2,g2,rfl,hg2⟩:=p2
 have hg:¬sg<(g2:Int):=by omega
 simp -implicitDefEqProofs [zeR,gp_sp,hcc,b3,b1.fA,e2,zw,hg,zd]
 generalize hA:jB.run r _ _=y
 have:=hA▸hL _ _ ⟨b2.trans hE2,by simp [gp_sp],by simp [gp_sp],⟨s.nx,by simp [gp_sp],b1.ext hE2⟩,0,Nat.zero_le _,by simp [gp_sp]⟩
 obtain ⟨tm',s',rfl,k1,hE⟩:=this
 exact ⟨s',by simp [zf,gp_sp,k1],hE⟩
def ltV27 (s:S) (p:V) (N:Nat):Lt:=⟨fun tm s'=>Ext s s'∧gp 240 tm=.bad∧(∃ b,gp 1 tm=.ptr b 0 0∧RBx s' b p)∧∃ i:Nat,i≤N∧gp 3 tm=iv .i64 (i:Int),fun _ _ a=>PrOut s a⟩
theorem zMM (hH:Hyp F T N sg W) {s:S} {p:V} (hp:RuA s p F T N):∀ tm s',(ltV27 s p N).pre tm s'→(ltV27 s p N).post tm s' (zi7.run (Rk Tryz.prog (K4 F T N sg W) fun _=>ltV27 s p N) tm s'):=by
 refine zC (L:=fun _=>ltV27 s p N) pcOk0.1 pcOk0.2 zLG (fun tm _=>N - (toI (gp 3 tm)).toNat) (fun _ _ _ _ h=>by obtain ⟨_,_,rfl,_⟩:∃ tm' s',_∧_:=h;exact fun h=>h) ?_
 rintro tm s' ⟨hE,h240,⟨b,h1,hR⟩,i,hi,h3⟩ IH
 show PrOut _ (zi7.run _ tm s')
 have hX:Kept (K4 F T N sg W) (Rk Tryz.prog (K4 F T N sg W) fun _=>ltV27 s p N) 35:=zn (hold4 (hold3 zMa rfl) rfl)
 have hW2:Kept (K4 F T N sg W) (Rk Tryz.prog (K4 F T N sg W) fun _=>ltV27 s p N) 36:=zn (hold4 (hold3 zOd rfl) rfl)
 generalize Rk Tryz.prog _ _=r at IH hX hW2 ⊢
 have hn2:=hH.n2
 have w2:IntKind.i64.wrap ((i:Int)+1)=(i:Int)+1:=zD (by omega) (by omega)
 have hp':=hp.ext hE
 have hlen:∀ c:V→Go.Ev.A,xLenS p c=c (iv .i64 (N:Int)):=fun c=>by rw [hp.sl.len,hp.len]
 by_cases hlt:i<N
 ·obtain ⟨q,q0,e,B,a1,a2,-,-,a5,a6,a7⟩:=hp'.at_ hlt
  obtain ⟨b1,b2,b3,b4⟩:=zHu a5 a6
  have he:=a5.cells.1
  obtain ⟨k,z,zs,hS,hw⟩:=a5
  obtain ⟨v,s2,e2,p2⟩:=hX [.ls 0 e] _ ⟨e,k,z,zs,rfl,hS.ext b2⟩
  obtain ⟨hE2,rfl⟩:=p2 _ _ _ _ rfl (hS.ext b2)
  have hE3:=b2.trans hE2
  have hB2:=b1.ext he hE2
  have hBl:lenV B≤20:=by have:=hH.t2 i hlt;rw [←a7,zq] at this;exact this
  have hsy:zHz (word s2 B):=by
   rw [a6.word hE3,a7]
   exact fun z hz=>⟨(hH.ts i hlt z hz).1,by have:=(hH.ts i hlt z hz).2;have:=hH.s2;omega⟩
  obtain ⟨v,s3,e3,p3⟩:=hW2 [B] s2 ⟨B,rfl,(a6.ext hE3).1,hBl,hsy⟩
  obtain ⟨rfl,rfl⟩:=p3
  obtain ⟨v,s4,e4,p4⟩:=hW2 [.nil 1] s3 ⟨.nil 1,rfl,zlH s3,by simp [lenV],fun z hz=>by simp [word,lenV] at hz⟩
  obtain ⟨rfl,rfl⟩:=p4
  simp -implicitDefEqProofs [zF8,zHO,gp_sp,h1,h3,zi,hR.f1,hlen,ze,zw,zo,a1,a2,b3,b4,b1.f0,e2,hB2.f8,hB2.f9,hB2.f7,e3,e4,zHe,w2,zd,hlt]
  exact IH _ _ (by simp [gp_sp,h3,zp];omega) ⟨hE.trans hE3,by simp [gp_sp,h240],⟨b,by simp [gp_sp,h1],hR.ext hE3⟩,i+1,by omega,by simp [gp_sp]⟩
 ·simp -implicitDefEqProofs [zF8,zHO,gp_sp,h1,h3,zi,hR.f1,hlen,ze,zd,hlt]
  exact ⟨_,_,rfl,by simp [gp_sp,h240],hE⟩
theorem zKT (hH:Hyp F T N sg W):Holds Tryz.prog (K4 F T N sg W) 18:=by
 rintro a s ⟨p,rfl,hp⟩
 suffices hh:∃ s',(fnC pc0 18).run (Rk Tryz.prog (K4 F T N sg W) fun _=>ltV27 s p N) [.ls 0 (ruC p)] s=.ret (.bool true) s'∧Ext s s' by
  obtain ⟨s',g1,g2⟩:=hh
  exact ⟨_,s',fn_k4 g1,g2,rfl⟩
 have hL:=zMM hH hp
 have hX:Kept (K4 F T N sg W) (Rk Tryz.prog (K4 F T N sg W) fun _=>ltV27 s p N) 35:=zn (hold4 (hold3 zMa rfl) rfl)
 generalize Rk Tryz.prog _ _=r at hL hX ⊢
 obtain ⟨b1,b2,b3⟩:=zbe hp.sl
 have hcc:=yU p
 generalize addB s (.row (ruC p) 16 37 false 0 0 0)=s1 at *
 have hem:∀ s,ShAt s emC 1 0 []:=fun s=>⟨.nil 1,rfl,⟨.inl (.inl rfl),rfl,fun i hi=>by cases hi⟩,.inl ⟨rfl,rfl,rfl⟩⟩
 obtain ⟨w,s2,e2,p2⟩:=hX [.ls 0 emC] s1 ⟨emC,1,0,[],rfl,hem s1⟩
 obtain ⟨hE2,rfl⟩:=p2 _ _ _ _ rfl (hem s1)
 obtain ⟨w,s3,e3,p3⟩:=hX [.ls 0 emC] s2 ⟨emC,1,0,[],rfl,hem s2⟩
 obtain ⟨hE3,rfl⟩:=p3 _ _ _ _ rfl (hem s2)
 have hR2:=b1.ext hE2
 have hlen:∀ c:V→Go.Ev.A,xLenS p c=c (iv .i64 (N:Int)):=fun c=>by rw [hp.sl.len,hp.len]
 have g1:¬(N:Int)<1:=by have:=hH.n1;omega
 have g2:¬(20:Int)<N:=by have:=hH.n2;omega
 have g1':¬N=0:=by have:=hH.n1;omega
 have g2':¬20<N:=by have:=hH.n2;omega
 simp -implicitDefEqProofs [zHO,gp_sp,hcc,b3,zi,b1.f0,b1.f1,b1.f2,hR2.f9,hlen,e2,e3,ze,zw,g1,g2,zd]
 generalize hA:zi7.run r _ _=y
 have:=hA▸hL _ _ ⟨b2.trans (hE2.trans hE3),by simp [gp_sp],⟨s.nx,by simp [gp_sp],hR2.ext hE3⟩,0,Nat.zero_le _,by simp [gp_sp]⟩
 obtain ⟨tm',s',rfl,k1,hE⟩:=this
 exact ⟨s',by simp [zf,gp_sp,k1],hE⟩
theorem zuV (hH:Hyp F T N sg W):Holds Tryz.prog (K4 F T N sg W) 37:=by
 rintro a s ⟨p,x,m,rfl,hp,hx,hW,hm0,hm1⟩
 suffices hh:∃ s',(fnC pc0 37).run (Rk Tryz.prog (K4 F T N sg W) noL) [.ls 0 (ruC p),iv .i64 sg,x,iv .i64 m] s=.ret (.bool false) s'∧Ext s s' by
  obtain ⟨s',g1,g2⟩:=hh
  exact ⟨_,s',fn_k4 g1,g2,rfl⟩
 have hV:Kept (K4 F T N sg W) (Rk Tryz.prog (K4 F T N sg W) noL) 18:=zn (zKT hH)
 have hP:Kept (K4 F T N sg W) (Rk Tryz.prog (K4 F T N sg W) noL) 69:=zn (zEd hH)
 have hWd:Kept (K4 F T N sg W) (Rk Tryz.prog (K4 F T N sg W) noL) 70:=zn (zKF hH)
 generalize Rk Tryz.prog _ _=r at hV hP hWd ⊢
 obtain ⟨b1,b2,b3⟩:=zbe hp.sl
 have hcc:=yU p
 generalize addB s (.row (ruC p) 16 37 false 0 0 0)=s1 at *
 obtain ⟨w,s2,e2,p2⟩:=hV [.ls 0 (ruC p)] s1 ⟨p,rfl,hp.ext b2⟩
 obtain ⟨hE2,rfl⟩:=p2
 obtain ⟨w,s3,e3,p3⟩:=hP [.ls 0 (ruC p),iv .i64 sg] s2 ⟨p,rfl,hp.ext (b2.trans hE2)⟩
 obtain ⟨hE3,rfl⟩:=p3
 have hE:=b2.trans (hE2.trans hE3)
 obtain ⟨w,s4,e4,p4⟩:=hWd [iv .i64 sg,x] s3 ⟨x,rfl,(hx.ext hE).1,by rw [hx.word hE,hW]⟩
 obtain ⟨rfl,rfl⟩:=p4
 have g1:¬sg<0:=by have:=hH.s1;omega
 have g2:¬(500:Int)<sg:=by have:=hH.s2;omega
 have g3:¬m<0:=by omega
 have g4:¬(500:Int)<m:=by omega
 refine ⟨s4,?_,hE⟩
 simp -implicitDefEqProofs [zH1,gp_sp,hcc,b3,b1.fA,(b1.ext hE2).fA,e2,e3,e4,ze,zw,g1,g2,g3,g4,zd]
end
theorem Gz.spA {b s:S} {v:V} {cs:List Spn} (h:Gz 154 3 b s v (cs.map spC)):SpA s v cs:=by
 obtain ⟨h1,h2,h3⟩:=h.sl
 rw [List.length_map] at h2 h3
 refine ⟨h1,h2,fun i hi=>?_⟩
 have e:(cs.map spC).getD i []=spC (cs.getD i (0,0,0)):=by simp [List.getD_eq_getElem?_getD,hi]
 have h4:=h3 i
 rw [e] at h4
 unfold spV
 rw [show List.range 3=[0,1,2] from rfl]
 simp only [List.map_cons,List.map_nil]
 rw [h4 0 hi (by omega),h4 1 hi (by omega),h4 2 hi (by omega)]
 rfl
theorem zmp (c:Spn):(∀ y∈spC c,y≠V.bad)∧(spC c).length=3:=by
 refine ⟨fun y hy=>?_,rfl⟩
 simp [spC] at hy
 rcases hy with rfl | rfl | rfl<;>exact iv_ne _ _
section
variable {F T:Nat→List Int} {N:Nat} {sg:Int} {W:List Int}
def ltI {α:Type} (I:α→Go.Ev.T→S→Prop) (O:α→Go.Ev.A→Prop):Lt:=⟨fun tm s=>∃ x,I x tm s,fun tm s a=>∀ x,I x tm s→O x a⟩
def GL (b1 s:S) (l:V) (n m:Nat) (G:Nat→Nat→Nat→Bool):Prop:=∃ b3,Ext b1 b3∧GList 197 b3 s l n m G
theorem GL.ext {b1 s:S} {l:V} {n m:Nat} {G:Nat→Nat→Nat→Bool} (h:GL b1 s l n m G):Ext b1 s:=by
 obtain ⟨b3,h1,h2⟩:=h
 exact h1.trans h2.ext
theorem GL.ext' {b1 s s':S} {l:V} {n m:Nat} {G:Nat→Nat→Nat→Bool} (h:GL b1 s l n m G) (e:Ext s s'):GL b1 s' l n m G:=by
 obtain ⟨b3,h1,h2⟩:=h
 exact ⟨b3,h1,h2.ext' e⟩
theorem GL.at_ {b1 s:S} {l:V} {n m:Nat} {G:Nat→Nat→Nat→Bool} (h:GL b1 s l n m G) {i:Nat} (hi:i<m):∃ p g,(∀ k c,zb 1 l (iv k (i:Int)) c=c p)∧(∀ k:V→S→Go.Ev.A,xLoad false 1 p s k=k g s)∧Grid anyK s g n (G i):=by
 obtain ⟨b3,h1,h2⟩:=h
 obtain ⟨p,g,e1,e2,e3⟩:=h2.at_ hi
 exact ⟨p,g,e1,e2,e3.any⟩
structure CC (b1:S) (b:Go.Ev.K) (p x:V) (F:Nat→List Int) (N:Nat) (W:List Int) (s2:S) (cs:List Spn) (tm:Go.Ev.T) (s:S):Prop where
 ext:Ext s2 s
 bd:gp 240 tm=.bad
 g2:gp 2 tm=x
 g3:gp 3 tm=.ptr b 0 0
 g7:Grid anyK s2 (gp 7 tm) W.length (pG W [])
 g8:Grid anyK s2 (gp 8 tm) W.length (pG W [])
 g9:GL b1 s2 (gp 9 tm) W.length N (fun i=>pG W (F i))
 gz:Gz 154 3 s2 s (gp 11 tm) (cs.map spC)
structure CX (sg:Int) (x:V) (W:List Int) (F:Nat→List Int) (N:Nat) (s b1:S) (b:Go.Ev.K) (p:V):Prop where
 hH:∃ T,Hyp F T N sg W
 hp:∃ T,RuA b1 p F T N
 hx:Ints b1 x
 hW:word b1 x=W
 hR:RBx b1 b p
 hE:Ext s b1
abbrev CA:=S × List Spn × Nat × Nat × Nat
def cO (b1:S) (b:Go.Ev.K) (p x:V) (F:Nat→List Int) (N:Nat) (W:List Int) (id:Nat) (s2:S) (cs:List Spn) (f:Go.Ev.T→Prop) (a:Go.Ev.A):Prop:=∃ tm' s',a=.ext id tm' s'∧CC b1 b p x F N W s2 cs tm' s'∧f tm'
theorem cO.nb {b1:S} {b:Go.Ev.K} {p x:V} {F:Nat→List Int} {N:Nat} {W:List Int} {id:Nat} {s2:S} {cs:List Spn} {f:Go.Ev.T→Prop} {a:Go.Ev.A} (h:cO b1 b p x F N W id s2 cs f a):¬a.isBad:=by obtain ⟨_,_,rfl,_⟩:=h;exact fun h=>h
def fLH (lo hi:Nat) (tm:Go.Ev.T):Prop:=gp 12 tm=iv .i64 (lo:Int)∧gp 13 tm=iv .i64 (hi:Int)
def fBB (lo hi:Nat) (u v:Bool) (tm:Go.Ev.T):Prop:=fLH lo hi tm∧gp 14 tm=.bool u∧gp 15 tm=.bool v
def fLo (lo:Nat) (tm:Go.Ev.T):Prop:=gp 12 tm=iv .i64 (lo:Int)
def dO (b1:S) (b:Go.Ev.K) (x:V) (F:Nat→List Int) (N:Nat) (W:List Int) (a:Go.Ev.A):Prop:=∃ tm' s',a=.ext 0 tm' s'∧gp 240 tm'=.bad∧gp 2 tm'=x∧gp 3 tm'=.ptr b 0 0∧Grid anyK s' (gp 7 tm') W.length (pG W [])∧Grid anyK s' (gp 8 tm') W.length (pG W [])∧GL b1 s' (gp 9 tm') W.length N (fun i=>pG W (F i))
noncomputable def ltCd (b1:S) (b:Go.Ev.K) (p x:V) (F:Nat→List Int) (N:Nat) (sg:Int) (W:List Int):Nat→Lt
 | 32=>ltI (fun (q:S × Nat) tm s=>Ext b1 q.1∧q.2≤N∧gp 10 tm=iv .i64 (q.2:Int)∧gp 1 tm=iv .i64 sg∧gp 240 tm=.bad∧gp 2 tm=x∧gp 3 tm=.ptr b 0 0∧Grid anyK q.1 (gp 7 tm) W.length (pG W [])∧Grid anyK q.1 (gp 8 tm) W.length (pG W [])∧GList 197 q.1 s (gp 9 tm) W.length q.2 (fun i=>pG W (F i)))
   (fun _ a=>dO b1 b x F N W a)
 | 28=>ltI (fun (q:CA) tm s=>CC b1 b p x F N W q.1 q.2.1 tm s∧q.2.2.1<q.2.2.2.1∧q.2.2.2.1≤W.length∧q.2.2.2.2≤q.2.2.1+1∧gp 16 tm=iv .i64 (q.2.2.2.2:Int)∧fBB q.2.2.1 q.2.2.2.1 (decide (q.2.2.1<q.2.2.2.2)) false tm)
   (fun q a=>cO b1 b p x F N W 6 q.1 q.2.1 (fBB q.2.2.1 q.2.2.2.1 true false) a)
 | 29=>ltI (fun (q:CA) tm s=>CC b1 b p x F N W q.1 q.2.1 tm s∧q.2.2.1<q.2.2.2.1∧q.2.2.2.1≤q.2.2.2.2∧q.2.2.2.1≤W.length∧q.2.2.2.2≤W.length+1∧gp 17 tm=iv .i64 (q.2.2.2.2:Int)∧fBB q.2.2.1 q.2.2.2.1 true (decide (q.2.2.2.1<q.2.2.2.2)) tm)
   (fun q a=>cO b1 b p x F N W 8 q.1 q.2.1 (fBB q.2.2.1 q.2.2.2.1 true true) a)
 | 47=>ltI (fun (q:CA) tm s=>CC b1 b p x F N W q.1 (q.2.1++candP F W q.2.2.1 q.2.2.2.1 q.2.2.2.2) tm s∧q.2.1.length≤4000∧q.2.2.1<q.2.2.2.1∧q.2.2.2.1≤W.length∧q.2.2.2.2≤N∧gp 18 tm=iv .i64 (q.2.2.2.2:Int)∧fBB q.2.2.1 q.2.2.2.1 true true tm)
   (fun q a=>cO b1 b p x F N W 10 q.1 (q.2.1++candP F W q.2.2.1 q.2.2.2.1 N) (fLH q.2.2.1 q.2.2.2.1) a)
 | 140=>ltI (fun (q:CA) tm s=>CC b1 b p x F N W q.1 (q.2.1++candH F N W q.2.2.1 q.2.2.2.1) tm s∧q.2.1.length≤3000∧q.2.2.1<W.length∧q.2.2.2.1≤W.length - q.2.2.1∧fLH q.2.2.1 (q.2.2.1+1+q.2.2.2.1) tm)
   (fun q a=>cO b1 b p x F N W 4 q.1 (q.2.1++candH F N W q.2.2.1 (W.length - q.2.2.1)) (fLo q.2.2.1) a)
 | _=>ltI (fun (q:CA) tm s=>CC b1 b p x F N W q.1 (candO F N W q.2.2.1) tm s∧q.2.2.1≤W.length∧fLo q.2.2.1 tm)
   (fun q a=>cO b1 b p x F N W 2 q.1 (candL F N W) (fun _=>True) a)
variable {b1 s:S} {b:Go.Ev.K} {p x:V}
open Classical in
theorem zMS (hC:CX sg x W F N s b1 b p):∀ tm s',(ltCd b1 b p x F N sg W 28).pre tm s'→(ltCd b1 b p x F N sg W 28).post tm s' (zay.run (Rk Tryz.prog (K4 F T N sg W) (ltCd b1 b p x F N sg W)) tm s'):=by
 refine zC (L:=ltCd b1 b p x F N sg W) pcOk0.1 pcOk0.2 zGo (fun tm _=>100 - (toI (gp 16 tm)).toNat) ?_ ?_
 ·rintro tm s a ⟨q,hq⟩ h
  exact (h q hq:cO _ _ _ _ _ _ _ _ _ _ _ _).nb
 rintro tm s' - IH ⟨s2,cs,lo,hi,k⟩ ⟨hF,hlo,hhi,hk,h16,⟨h12,h13⟩,h14,h15⟩
 have IH':∀ tm',100 - (toI (gp 16 tm')).toNat<100 - (toI (gp 16 tm)).toNat→(CC b1 b p x F N W s2 cs tm' s'∧lo<hi∧hi≤W.length∧k+1≤lo+1∧gp 16 tm'=iv .i64 ((k+1:Nat):Int)∧fBB lo hi (decide (lo<k+1)) false tm')→cO b1 b p x F N W 6 s2 cs (fBB lo hi true false) ((Rk Tryz.prog (K4 F T N sg W) (ltCd b1 b p x F N sg W)).code zI zcS tm' s'):=fun tm' h1 h2=>IH tm' s' h1 ⟨(s2,cs,lo,hi,k+1),h2⟩ (s2,cs,lo,hi,k+1) h2
 clear IH
 show cO _ _ _ _ _ _ _ _ _ _ (fBB lo hi true false) (zay.run _ tm s')
 generalize Rk Tryz.prog _ _=r at IH' ⊢
 obtain ⟨T',hH⟩:=hC.hH
 have hw1:=hH.w1
 simp only at hlo hhi hk h16 h12 h13 h14
 have w2:IntKind.i64.wrap ((k:Int)+1)=(k:Int)+1:=zD (by omega) (by omega)
 have frame:∀ tm',gp 240 tm'=gp 240 tm→gp 2 tm'=gp 2 tm→gp 3 tm'=gp 3 tm→gp 7 tm'=gp 7 tm→gp 8 tm'=gp 8 tm→gp 9 tm'=gp 9 tm→gp 11 tm'=gp 11 tm→CC b1 b p x F N W s2 cs tm' s':=fun tm' e1 e2 e3 e4 e5 e6 e7=>⟨hF.ext,e1.trans hF.bd,e2.trans hF.g2,e3.trans hF.g3,by rw [e4];exact hF.g7,by rw [e5];exact hF.g8,by rw [e6];exact hF.g9,by rw [e7];exact hF.gz⟩
 by_cases hlt:k≤lo
 ·have h14':gp 14 tm=.bool false:=by rw [h14,decide_eq_false (by omega)]
  obtain ⟨p1,r1,q1,a1,a2,a3,a4⟩:=(hF.g7.ext hF.ext).read (i:=k) (j:=lo) (by omega) (by omega)
  have hv:pG W [] k lo=decide (lo<k+1):=by unfold pG;rw [decide_eq_decide,zDB];omega
  rw [hv] at a4
  simp -implicitDefEqProofs [zn2,zL,gp_sp,h12,h14',h16,qx,zo,a1,a2,a3,a4,w2,zd,hlt]
  refine IH' _ (by simp [gp_sp,h16,zp];omega) ⟨frame _ (by simp [gp_sp]) (by simp [gp_sp]) (by simp [gp_sp]) (by simp [gp_sp]) (by simp [gp_sp]) (by simp [gp_sp]) (by simp [gp_sp]),hlo,hhi,by omega,by simp [gp_sp],⟨by simp [gp_sp,h12],by simp [gp_sp,h13]⟩,by simp [gp_sp],by simp [gp_sp,h15]⟩
 ·simp -implicitDefEqProofs [zn2,zL,gp_sp,h12,h16,qx,zd,hlt]
  exact ⟨_,_,rfl,frame _ (by simp [gp_sp]) (by simp [gp_sp]) (by simp [gp_sp]) (by simp [gp_sp]) (by simp [gp_sp]) (by simp [gp_sp]) (by simp [gp_sp]),⟨by simp [gp_sp,h12],by simp [gp_sp,h13]⟩,by simp [gp_sp,h14];omega,by simp [gp_sp,h15]⟩
end
end Go.Proofs.YtlklljjppambpaaGreatDoor.oev
