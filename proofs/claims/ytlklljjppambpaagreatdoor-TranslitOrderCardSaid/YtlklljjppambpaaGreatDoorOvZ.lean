/- The contracts of the functions that the statements reach, for all arguments. No statement of the seat stands here. Conditions: the arguments are as their types say. By an AI agent. -/
import Derived.Test.YtlklljjppambpaaGreatDoorOvY
namespace Go.Proofs.YtlklljjppambpaaGreatDoor.oev
open Go.Ev Go.RowKit
set_option maxRecDepth 100000
variable {v:V}
theorem zIU {s:S} (h:zZ s v):yS v v=true:=by
 rcases h.1 with (rfl | ⟨c0,rfl⟩) | ⟨a,w,o,len,⟨cap,rfl,_⟩ | ⟨e,rfl⟩,_⟩
 ·rfl
 ·exact zDR _ _
 ·show zq (Go.Ev.K.beq a a) (zq (Nat.beq w w) (zq (Nat.beq o o) (zq (Nat.beq len len) (Nat.beq cap cap))))=true
  rw [zjx,kay,kay,kay,kay];rfl
 ·exact zGJ _ _ _ _ _
variable {a:Go.Ev.K} {el:Nat}
theorem qT {s:S} {l:List V} {n:Nat} (hg:Tr.get B.none a s.h=.row l n el false 0 0 0) (hn:l.length=n) (hx:∀ y∈l,y≠.bad) (k:V→S→Go.Ev.A):zd true n (.ptr a 0 0) s k=k (.ls 0 l) s:=by
 have:Pt s (.ptr a 0 0) n (fun j=>l.getD j .bad):=⟨a,0,0,l,n,el,false,0,0,0,rfl,hg,hn,qG.2 (.inr ⟨rfl,by omega⟩),fun j _=>by rw [kaF]⟩
 rw [this.loadN n (kab _) (fun j hj=>by rw [kan,kac (by omega)];exact hx _ (kaI _))]
 congr 2
 subst hn
 apply kaG
 intro j
 by_cases hj:j<l.length
 ·rw [kal,List.getElem?_range hj,kac hj]
  simp [kac hj]
 ·rw [kau (by simp;omega),kau (by omega)]
theorem zHA:∀ (l l0:List V),l0.length=l.length→upd l 0 l0=l
 | [],[],_=>rfl
 | [],_::_,h=>by cases h
 | x::l,[],h=>by cases h
 | x::l,y::l0,h=>congrArg (x::·) (zHA l l0 (by simpa using h))
theorem zIo {s:S} {l0 l:List V} {n:Nat} (hg:Tr.get B.none a s.h=.row l0 n el false 0 0 0) (h0:l0.length=n) (hl:l.length=n) (k:V→S→Go.Ev.A):zJ n (.ptr a 0 0) (.ls 0 l) s k=k Go.Ev.undef (qj s a (.row l n el false 0 0 0)):=by
 show zp n (.ls 0 l) (fun l=>qf _ a 0 0 n l (fun s=>k Go.Ev.undef s))=_
 rw [qR n l hl]
 unfold qf
 rw [zK,hg]
 show (Bool.rec (motive:=fun _=>Go.Ev.A) _ _ (zfA n false 0 0 (Nat.add 0 n) 0 0):Go.Ev.A)=_
 rw [show zfA n false 0 0 (Nat.add 0 n) 0 0=true by
  show (@Bool.rec (fun _=>Bool) _ _ (Nat.ble (Nat.add 0 n) n):Bool)=_
  rw [show Nat.ble (Nat.add 0 n) n=true from kap (by show 0+n≤n;omega)];rfl]
 show qY l 0 l0 _=_
 rw [zdp,qp,zHA l l0 (by omega)]
 rfl
def NW (s:S) (v:V) (w:List Int):Prop:=zZ s v∧Go.Ev.word s v=w∧∀ c,zoC v=some c→c.toNat<s.nx.toNat∧∃ l n gr mn f1 f2,Tr.get B.none c s.h=.row l n 3 gr mn f1 f2
theorem NW.nil (s:S):NW s (.nil 1) []:=⟨⟨.inl (.inl rfl),Nat.zero_le _,fun j hj=>by cases hj⟩,rfl,fun c hc=>by cases hc⟩
theorem zIY {s s':S} (h:zZ s v) (hn:s.nx.toNat≤s'.nx.toNat) (hk:∀ c,zoC v=some c→Tr.get B.none c s'.h=Tr.get B.none c s.h):zZ s' v∧Go.Ev.word s' v=Go.Ev.word s v:=by
 have hcell:∀ j,zt s' v j=zt s v j:=fun j=>by
  unfold zt
  split
  ·rename_i a _ o _ _;rw [hk a rfl]
  ·rename_i a _ o _ _;rw [hk a rfl]
  ·rfl
 refine ⟨⟨?_,h.2.1,fun j hj=>by rw [hcell];exact h.2.2 j hj⟩,?_⟩
 ·rcases h.1 with h | ⟨a,w,o,len,hv,hlt,l,n,el,gr,mn,f1,f2,g1,g2⟩
  ·exact .inl h
  ·refine .inr ⟨a,w,o,len,hv,kaf hlt hn,l,n,el,gr,mn,f1,f2,(hk a ?_).trans g1,g2⟩
   rcases hv with ⟨cap,rfl,_⟩ | ⟨e,rfl⟩<;>rfl
 ·unfold Go.Ev.word
  exact kaO fun j _=>by unfold qi;rw [hcell]
theorem NW.keep {s s':S} {w:List Int} (h:NW s v w) (hn:s.nx.toNat≤s'.nx.toNat) (hk:∀ c,c.toNat<s.nx.toNat→(∃ l n gr mn f1 f2,Tr.get B.none c s.h=.row l n 3 gr mn f1 f2)→Tr.get B.none c s'.h=Tr.get B.none c s.h):NW s' v w:=by
 obtain ⟨h1,h2,h3⟩:=h
 have key:∀ c,zoC v=some c→Tr.get B.none c s'.h=Tr.get B.none c s.h:=fun c hc=>hk c (h3 c hc).1 (h3 c hc).2
 obtain ⟨g1,g2⟩:=zIY h1 hn key
 exact ⟨g1,g2.trans h2,fun c hc=>⟨kaf (h3 c hc).1 hn,by rw [key c hc];exact (h3 c hc).2⟩⟩
theorem NW.ext {s s':S} {w:List Int} (h:NW s v w) (e:Ext s s'):NW s' v w:=h.keep e.nx fun c hc _=>e.get c hc
theorem zDB {b s:S} (h:Gr b s v) (hl:zb v≤68719476736) {n:Nat} (hn:n≤zb v):∃ u,(∀ c:V→Go.Ev.A,yg 3 1 v (some (iv .i64 (n:Int))) none none s c=c u)∧NW s u ((Go.Ev.word s v).drop n):=by
 have hI:=h.ints (by omega)
 rcases h with (rfl | ⟨a,rfl,h1,h2⟩) | ⟨a,m,l,rfl,h1,h2,⟨mn,h3,h4⟩,h5,h6⟩
 ·have:n=0:=by have:zb (.nil 1)=0:=rfl;omega
  subst this
  exact ⟨.nil 1,fun c=>rfl,NW.nil _⟩
 ·have:n=0:=by have:zb (.sl a 0 0 0 0)=0:=rfl;omega
  subst this
  refine ⟨.sl a 0 0 0 0,fun c=>rfl,hI,?_,fun c hc=>?_⟩
  ·rw [List.drop_zero]
  ·cases hc;exact ⟨h1,_,_,_,_,_,_,h2⟩
 ·have hn':n≤m:=hn
  have hw:Go.Ev.word s (.so a m 0 m 0)=l.map toI:=Gr.wordE h4 h5
  have e1:∀ c:V→Go.Ev.A,yg 3 1 (.so a m 0 m 0) (some (iv .i64 (n:Int))) none none s c=(Bool.rec (motive:=fun _=>Go.Ev.A) (c (.so a m (0+n*1) (m - n) (0+n))) (Bool.rec (motive:=fun _=>Go.Ev.A) (c (.ref 1 a)) (c (.so a m 0 0 0)) (Nat.beq n 0)) (Nat.beq n m)):=fun c=>by
   show zY s a _=_
   rw [zK,h4]
   show fN (Bool.rec (motive:=fun _=>Nat) m (Nat.div (Nat.sub m 0) 1) (zq true (Nat.beq m m))) _=_
   rw [zH,show Nat.beq m m=true from kay m]
   show (Bool.rec (motive:=fun _=>Go.Ev.A) _ (Bool.rec (motive:=fun _=>Go.Ev.A) (fN (Nat.sub m n) (fun len'=>fN (Nat.add 0 n) fun e'=>fN (Nat.add 0 (Nat.mul n 1)) fun o'=>c (.so a m o' len' e'))) (Bool.rec (motive:=fun _=>Go.Ev.A) (c (.ref 1 a)) (c (.so a m 0 0 0)) (Nat.beq n 0)) (Nat.beq n m)) (zq (Nat.ble n m) (Nat.ble m (Nat.div (Nat.sub m 0) 1))):Go.Ev.A)=_
   rw [show Nat.div (Nat.sub m 0) 1=m by show (m - 0) / 1=m;omega,kap hn',kap (kab m)]
   simp only [zH]
   rfl
  by_cases g:n=m
  ·subst g
   rw [hw]
   have hd:(l.map toI).drop n=[]:=List.drop_of_length_le (by rw [kai];omega)
   rw [hd]
   simp only [show Nat.beq n n=true from kay n] at e1
   by_cases g0:n=0
   ·subst g0
    exact ⟨.so a 0 0 0 0,e1,⟨hI.1,hI.2.1,hI.2.2⟩,rfl,fun c hc=>by cases hc;exact ⟨h2,_,_,_,_,_,_,h4⟩⟩
   ·simp only [show Nat.beq n 0=false by
     cases e:Nat.beq n 0 with
     | true=>exact absurd (kaa e) g0
     | false=>rfl] at e1
    exact ⟨.ref 1 a,e1,⟨.inl (.inr ⟨a,rfl⟩),Nat.zero_le _,fun j hj=>by cases hj⟩,rfl,fun c hc=>by cases hc⟩
  ·simp only [show Nat.beq n m=false by
     cases e:Nat.beq n m with
     | true=>exact absurd (kaa e) g
     | false=>rfl] at e1
   rw [kaK,kaF] at e1
   refine ⟨_,e1,⟨.inr ⟨a,m,n,m - n,.inr ⟨n,rfl⟩,h2,l,m,3,true,mn,0,0,h4,h5,qG.2 (.inl ⟨rfl,h3,kab _,by omega⟩)⟩,by have:zb (.so a m 0 m 0)=m:=rfl;show m - n≤_;omega,fun j hj=>?_⟩,?_,fun c hc=>by cases hc;exact ⟨h2,_,_,_,_,_,_,h4⟩⟩
   ·have hj':n+j<l.length:=by have:j<m - n:=hj;omega
    simp only [zt,h4,yz]
    rw [kan,kac hj']
    exact h6 _ (kaI hj')
   ·rw [hw]
    apply kaG
    intro i
    rw [List.getElem?_drop,kal]
    by_cases hi:i<m - n
    ·rw [yb (by exact hi),kac (by omega)]
     simp [qi,zt,h4,yz,kac (show n+i<l.length by omega)]
    ·rw [kau (by rw [zA];exact Nat.le_of_not_lt hi),kau (by omega)]
     rfl
noncomputable def KB3:Nat→Ct
 | 58=>ctI (X:=V × V × V × V) (fun ⟨ax,ay,x,y⟩ a s=>a=[.ls 0 [ax,ay],x,y]∧zZ s ax∧zZ s ay∧zZ s x∧zZ s y∧zb ax+zb x≤68719476736∧zb ay+zb y≤68719476736)
   (fun ⟨ax,ay,x,y⟩ s v s'=>Ext s s'∧∃ u w,v=.ls 0 [u,w]∧NW s' u (qK (word s ax++word s x) (word s ay++word s y)).1∧NW s' w (qK (word s ax++word s x) (word s ay++word s y)).2)
 | 59=>ctI (X:=V × V) (fun ⟨x,y⟩ a s=>a=[.ls 0 [x,y]]∧zZ s x∧zZ s y) (fun ⟨x,y⟩ s v s'=>Ext s s'∧v=.bool (decide (0<zb x) && decide (0<zb y)))
 | f=>KB2 f
theorem zNo {L:Nat→Lt} {f:Nat} {X:Type} {pre:X→List V→S→Prop} {post:X→S→V→S→Prop} (hK:KB3 f=ctI pre post) (h:∀ x a s,pre x a s→∃ v s',(fnC zj f).run (Rk Tryz.prog KB3 L) a s=.ret v s'∧post x s v s'):zL Tryz.prog KB3 f:=zaj zG.1 zG.2 hK h
structure MoX where
 u:V
 v:V
 p:V
 s0:S
def MoX.pre (x:MoX) (tm:T) (s:S):Prop:=s=x.s0∧zZ s x.u∧zZ s x.v∧gp 6 tm=x.p∧gp 7 tm=x.u∧gp 8 tm=x.v∧gp 240 tm=.bad∧∃ n:Nat,n≤zb x.u∧n≤zb x.v∧gp 9 tm=iv .i64 (n:Int)∧qK (word s x.u) (word s x.v)=qK ((word s x.u).drop n) ((word s x.v).drop n)
def MoX.post (x:MoX) (a:Go.Ev.A):Prop:=∃ tm,a=.ext 0 tm x.s0∧gp 6 tm=x.p∧gp 7 tm=x.u∧gp 8 tm=x.v∧gp 240 tm=.bad∧∃ n:Nat,n≤zb x.u∧n≤zb x.v∧gp 9 tm=iv .i64 (n:Int)∧qK (word x.s0 x.u) (word x.s0 x.v)=((word x.s0 x.u).drop n,(word x.s0 x.v).drop n)
theorem zCE (y:List Int):qK [] y=([],y):=by unfold qK;rfl
theorem zBw (x:List Int):qK x []=(x,[]):=by cases x<;>(unfold qK;rfl)
theorem zqY (a b:Int) (x y:List Int):qK (a::x) (b::y)=if a=b then qK x y else (a::x,b::y):=by conv=>lhs;unfold qK
theorem zOa:∀ (x:MoX) tm s,x.pre tm s→x.post (zid.run (Rk Tryz.prog KB3 fun _=>ltI MoX.pre MoX.post) tm s):=by
 refine y9 (L:=fun _=>ltI MoX.pre MoX.post) zG.1 zG.2 zLA rfl (fun tm _=>68719476737+9223372036854775807 - (toI (gp 9 tm)).toNat) (fun x a ⟨_,h,_⟩=>by rw [h];exact fun h=>h) ?_
 rintro ⟨u,v,p,s0⟩ tm s ⟨hs,hu,hv,h6,h7,h8,h240,n,hnu,hnv,h9,hst⟩ IH
 show MoX.post _ (zid.run _ tm s)
 generalize Rk Tryz.prog _ _=r at IH ⊢
 simp only at hs hu hv h6 h7 h8 hnu hnv hst
 subst hs
 have hlu:∀ c:V→Go.Ev.A,zz u c=c (iv .i64 (zb u:Int)):=fun c=>hu.1.len c
 have hlv:∀ c:V→Go.Ev.A,zz v c=c (iv .i64 (zb v:Int)):=fun c=>hv.1.len c
 have hmu:=hu.2.1
 have hmv:=hv.2.1
 by_cases g1:n<zb u
 ·have g1':((n:Int)<(zb u:Int))=True:=eq_true (by omega)
  have du:(word s u).drop n=qi s u n::(word s u).drop (n+1):=by
   rw [List.drop_eq_getElem_cons (by rw [zA];exact g1)]
   congr 1
   have:=yb (s:=s) g1
   rw [kac (by rw [zA];exact g1)] at this
   exact Option.some.inj this
  by_cases g2:n<zb v
  ·have g2':((n:Int)<(zb v:Int))=True:=eq_true (by omega)
   have dv:(word s v).drop n=qi s v n::(word s v).drop (n+1):=by
    rw [List.drop_eq_getElem_cons (by rw [zA];exact g2)]
    congr 1
    have:=yb (s:=s) g2
    rw [kac (by rw [zA];exact g2)] at this
    exact Option.some.inj this
   obtain ⟨p1,e1,l1⟩:=hu.at_ g1
   obtain ⟨p2,e2,l2⟩:=hv.at_ g2
   by_cases g3:qi s u n=qi s v n
   ·have hw:IntKind.i64.wrap ((n:Int)+1)=((n+1:Nat):Int):=by rw [z9 (by omega) (by omega)];omega
    simp -implicitDefEqProofs [zh2,zhw,h7,h8,h9,hlu,hlv,g1',g2',e1,l1,e2,l2,g3,hw,-Int.natCast_add]
    refine IH ⟨u,v,p,s⟩ _ s ?_ ⟨rfl,hu,hv,by simp [h6],by simp [h7],by simp [h8],by simp [h240],n+1,g1,g2,by simp,?_⟩
    ·rw [h9,zn];simp [zn,-Int.natCast_add];omega
    ·rw [hst,du,dv,zqY,if_pos g3]
   ·simp -implicitDefEqProofs [zh2,zhw,h7,h8,h9,hlu,hlv,g1',g2',e1,l1,e2,l2,g3]
    refine ⟨_,rfl,by simp [h6],by simp [h7],by simp [h8],by simp [h240],n,hnu,hnv,by simp [h9],?_⟩
    rw [hst,du,dv,zqY,if_neg g3]
  ·have g2':((n:Int)<(zb v:Int))=False:=eq_false (by omega)
   simp -implicitDefEqProofs [zh2,zhw,h7,h8,h9,hlu,hlv,g1',g2']
   refine ⟨_,rfl,by simp [h6],by simp [h7],by simp [h8],by simp [h240],n,hnu,hnv,by simp [h9],?_⟩
   have:(word s v).drop n=[]:=List.drop_of_length_le (by rw [zA];omega)
   rw [hst,this,zBw]
 ·have g1':((n:Int)<(zb u:Int))=False:=eq_false (by omega)
  simp -implicitDefEqProofs [zh2,zhw,h7,h9,hlu,g1']
  refine ⟨_,rfl,by simp [h6],by simp [h7],by simp [h8],by simp [h240],n,hnu,hnv,by simp [h9],?_⟩
  have:(word s u).drop n=[]:=List.drop_of_length_le (by rw [zA];omega)
  rw [hst,this,zCE]
theorem ziG (s:S) (b:B):(zN s b).nx.toNat=s.nx.toNat+1:=by show s.nx.succ.toNat=_;rw [K.toNat_succ]
theorem nB (s:S) (b:B):∃ s1,s1=zN s b∧Ext s s1∧s1.nx.toNat=s.nx.toNat+1∧Tr.get B.none s.nx s1.h=b:=⟨_,rfl,zO _ _,ziG _ _,zx _ _⟩
theorem zMl:zL Tryz.prog KB3 58:=by
 refine zNo (L:=fun _=>ltI MoX.pre MoX.post) (X:=V × V × V × V) rfl ?_
 rintro ⟨ax,ay,x,y⟩ a s ⟨rfl,hax,hay,hx,hy,hl1,hl2⟩
 have hC:=qV (zQ (L:=fun _=>ltI MoX.pre MoX.post) (show zL Tryz.prog KB3 52 from zrW)) (X:=Go.Ev.K × V × V) rfl
 have h1:=zOa
 generalize Rk Tryz.prog _ _=r at hC h1 ⊢
 obtain ⟨s1,hs1,E1,n1,-⟩:=nB s (.row [ax,ay] 2 109 false 0 0 0)
 obtain ⟨s2,hs2,E2,n2,g2⟩:=nB s1 (.row [.nil 1,.nil 1] 2 109 false 0 0 0)
 obtain ⟨s3,hs3,E3,n3,-⟩:=nB s2 (.row [ax,x] 2 29 false 0 0 0)
 obtain ⟨s4,hs4,E4,n4,g4⟩:=nB s3 (.row [ay,y] 2 29 false 0 0 0)
 have g1:Tr.get B.none s.nx s2.h=.row [ax,ay] 2 109 false 0 0 0:=by rw [E2.get _ (by omega),hs1];exact zx _ _
 have g3:Tr.get B.none s2.nx s4.h=.row [ax,x] 2 29 false 0 0 0:=by rw [E4.get _ (by omega),hs3];exact zx _ _
 have E24:=E3.trans E4
 have E04:Ext s s4:=(E1.trans E2).trans E24
 have ld0:∀ k:V→S→Go.Ev.A,zd false 1 (.ptr s.nx 0 0) s2 k=k ax s2:=fun k=>zw g1 0 rfl (by omega) hax.ne k
 have g1b:Tr.get B.none s.nx s3.h=.row [ax,ay] 2 109 false 0 0 0:=by rw [E3.get _ (by omega)];exact g1
 have ld1:∀ k:V→S→Go.Ev.A,zd false 1 (.ptr s.nx 0 1) s3 k=k ay s3:=fun k=>zw g1b 1 rfl (by omega) hay.ne k
 obtain ⟨v8,s5,e5,hE5,hG5,hw5⟩:=hC ⟨s2.nx,ax,x⟩ _ s4 ⟨rfl,g3,by omega,(hax.ext E04).1,(hx.ext E04).1,hl1⟩
 have g4':Tr.get B.none s3.nx s5.h=.row [ay,y] 2 29 false 0 0 0:=by rw [hE5.get _ (by omega)];exact g4
 have n5:=hE5.nx
 obtain ⟨v10,s6,e6,hE6,hG6,hw6⟩:=hC ⟨s3.nx,ay,y⟩ _ s5 ⟨rfl,g4',by omega,(hay.ext (E04.trans hE5)).1,(hy.ext (E04.trans hE5)).1,hl2⟩
 have n6:=hE6.nx
 have g1c:Tr.get B.none s.nx s5.h=.row [ax,ay] 2 109 false 0 0 0:=by rw [hE5.get _ (by omega),E24.get _ (by omega)];exact g1
 have ld2:∀ k:V→S→Go.Ev.A,zd false 1 (.ptr s.nx 0 1) s5 k=k ay s5:=fun k=>zw g1c 1 rfl (by omega) hay.ne k
 have ca:=jb hax
 have cb:=jb hay
 have cc:=jb hx
 have cd:=jb hy
 have hbq:=zIU hay
 rw [hax.word E04,hx.word E04] at hw5
 rw [hay.word (E04.trans hE5),hy.word (E04.trans hE5)] at hw6
 have hlen5:zb v8=zb ax+zb x:=by rw [←zA s5 v8,hw5,kah,zA,zA]
 have hlen6:zb v10=zb ay+zb y:=by rw [←zA s6 v10,hw6,kah,zA,zA]
 have hI5:zZ s6 v8:=((hG5.ints (by omega)).ext hE6).1
 have hI6:zZ s6 v10:=hG6.ints (by omega)
 have hw5':word s6 v8=word s ax++word s x:=by rw [(hG5.ints (by omega)).word hE6,hw5]
 generalize hF:(fnC zj 58).run r _ _=F0
 simp -implicitDefEqProofs [zhw,qR,zo,←hs1,←hs2,ld0,rep,ca,cc,upd,put,←hs3,ld1,cb,cd,←hs4,e5,ld2,hbq,e6] at hF
 generalize hA:zid.run r _ _=A1 at hF
 obtain ⟨tm',rfl,k6,k7,k8,k240,n,hn1,hn2,k9,hst⟩:=hA▸h1 ⟨v8,v10,.ptr s1.nx 0 0,s6⟩ _ s6 ⟨rfl,hI5,hI6,by simp,by simp,by simp,by simp,0,by omega,by omega,by simp,by simp⟩
 simp only at k6 k7 k8 hn1 hn2 hst
 rw [hw5',hw6] at hst
 obtain ⟨u,eu,hu⟩:=zDB (hG5.ext hE6) (by omega) hn1
 obtain ⟨w,ew,hw⟩:=zDB hG6 (by omega) hn2
 rw [hw5'] at hu
 rw [hw6] at hw
 have cu:=jb hu.1
 have cw:=jb hw.1
 have g6:Tr.get B.none s1.nx s6.h=.row [.nil 1,.nil 1] 2 109 false 0 0 0:=by rw [hE6.get _ (by omega),hE5.get _ (by omega),E24.get _ (by omega)];exact g2
 have st:=fun k:V→S→Go.Ev.A=>zIo (l:=[u,w]) g6 rfl rfl k
 obtain ⟨s7,hs7⟩:∃ s7,s7=qj s6 s1.nx (.row [u,w] 2 109 false 0 0 0):=⟨_,rfl⟩
 have g7:Tr.get B.none s1.nx s7.h=.row [u,w] 2 109 false 0 0 0:=by rw [hs7,zm,if_pos rfl]
 have n7:s7.nx=s6.nx:=by rw [hs7];rfl
 have ldf:=fun k:V→S→Go.Ev.A=>qT g7 rfl (fun y hy=>by
  rcases kaj.1 hy with rfl | hy
  ·exact hu.1.ne
  ·rcases kag.1 hy with rfl
   exact hw.1.ne) k
 simp -implicitDefEqProofs [k6,k7,k8,k9,k240,eu,ew,cu,cw,upd,put,st,←hs7,ldf] at hF
 have hk:∀ c,c.toNat<s6.nx.toNat→(∃ l n gr mn f1 f2,Tr.get B.none c s6.h=.row l n 3 gr mn f1 f2)→Tr.get B.none c s7.h=Tr.get B.none c s6.h:=fun c hc ⟨l,n,gr,mn,f1,f2,h⟩=>by
  rw [hs7,zm,if_neg]
  rintro rfl
  rw [g6] at h
  cases h
 refine ⟨_,s7,hF.symm,⟨by rw [n7];omega,fun c hc=>?_⟩,u,w,rfl,?_,?_⟩
 ·rw [hs7,zm,if_neg (fun e=>by rw [e] at hc;omega),hE6.get _ (by omega),hE5.get _ (by omega),E04.get _ hc]
 ·rw [hst];exact hu.keep (by rw [n7];exact kab _) hk
 ·rw [hst];exact hw.keep (by rw [n7];exact kab _) hk
theorem zIx:zL Tryz.prog KB3 59:=by
 refine zNo (L:=noL) (X:=V × V) rfl ?_
 rintro ⟨x,y⟩ a s ⟨rfl,hx,hy⟩
 generalize Rk Tryz.prog _ _=r
 obtain ⟨s1,hs1,h1,-,g1⟩:=nB s (.row [x,y] 2 109 false 0 0 0)
 have ld0:∀ k:V→S→Go.Ev.A,zd false 1 (.ptr s.nx 0 0) s1 k=k x s1:=fun k=>zw g1 0 rfl (by omega) hx.ne k
 have ld1:∀ k:V→S→Go.Ev.A,zd false 1 (.ptr s.nx 0 1) s1 k=k y s1:=fun k=>zw g1 1 rfl (by omega) hy.ne k
 have hlx:∀ c:V→Go.Ev.A,zz x c=c (iv .i64 (zb x:Int)):=fun c=>hx.1.len c
 have hly:∀ c:V→Go.Ev.A,zz y c=c (iv .i64 (zb y:Int)):=fun c=>hy.1.len c
 generalize hF:(fnC zj 59).run r _ _=F0
 by_cases gx:0<zb x
 ·by_cases gy:0<zb y
  ·simp -implicitDefEqProofs [zjZ,qR,zo,←hs1,ld0,ld1,hlx,hly,gx,gy] at hF
   exact ⟨_,s1,hF.symm,h1,by simp [gx,gy]⟩
  ·simp -implicitDefEqProofs [zjZ,qR,zo,←hs1,ld0,ld1,hlx,hly,gx,gy] at hF
   exact ⟨_,s1,hF.symm,h1,by simp [gx,gy]⟩
 ·simp -implicitDefEqProofs [zjZ,qR,zo,←hs1,ld0,hlx,gx] at hF
  exact ⟨_,s1,hF.symm,h1,by simp [gx]⟩
section
variable {α:Type} [DecidableEq α] {q:EK} {kf:α→V}
def wA (z:α) (ck:Nat):LG α→Nat
 | []=>ck
 | e::l=>if z=e.1 then e.2.2 else wA z ck l
theorem zKG (hq:KeyK q kf) (zero:V) (z:α) (ck:Nat):∀ (l:LG α) (c:V→Nat→List ME→Bool→Go.Ev.A),zzp q (kf z) zero ck (l.map (toG kf)) c=c ((qh l z).getD zero) (wA z ck l) ((yr z ((qh l z).getD zero) ck l).map (toG kf)) (qh l z).isNone
 | [],c=>rfl
 | e::l,c=>by
  show (match eqV q false (kf z) (kf e.1) with | some true=>c e.2.1 e.2.2 (⟨kf z,e.2.1,e.2.2⟩::l.map (toG kf)) false | some false=>zzp q (kf z) zero ck (l.map (toG kf)) (fun v n l b=>c v n (toG kf e::l) b) | none=>.bad 0)=_
  rw [hq.eq]
  by_cases g:z=e.1
  ·rw [decide_eq_true g]
   simp [qh,yr,wA,g,toG]
  ·rw [decide_eq_false g]
   show zzp q (kf z) zero ck (l.map (toG kf)) _=_
   rw [zKG hq zero z ck l]
   simp only [qh,yr,wA]
   rw [if_neg (fun h=>g h.symm),if_neg g,if_neg g]
   rfl
theorem zHo (z:α) (ck:Nat):∀ l:LG α,wA z ck l=ck∨wA z ck l∈l.map (·.2.2)
 | []=>.inl rfl
 | e::l=>by
  unfold wA
  by_cases g:z=e.1
  ·rw [if_pos g];exact .inr (by simp)
  ·rw [if_neg g]
   rcases zHo z ck l with h | h
   ·exact .inl h
   ·exact .inr (by simp only [kaN,kaj];exact .inr h)
theorem zKb (z:α) (v v0:V) (ck:Nat):∀ (l:LG α) (c:List ME→Go.Ev.A),(∀ e∈l,e.2.2<ck)→(l.map (·.2.2)).Nodup→zzt (wA z ck l) v ((yr z v0 ck l).map (toG kf)) c=c ((yr z v ck l).map (toG kf))
 | [],c,_,_=>by
  show (Bool.rec (motive:=fun _=>Go.Ev.A) _ _ (Nat.beq ck ck):Go.Ev.A)=_
  rw [kay];rfl
 | e::l,c,hb,hd=>by
  simp only [wA,yr]
  by_cases g:z=e.1
  ·rw [if_pos g,if_pos g,if_pos g]
   show (Bool.rec (motive:=fun _=>Go.Ev.A) _ _ (Nat.beq e.2.2 e.2.2):Go.Ev.A)=_
   rw [kay];rfl
  ·rw [if_neg g,if_neg g,if_neg g]
   have hd':=List.nodup_cons.1 hd
   have hne:e.2.2≠wA z ck l:=by
    rcases zHo z ck l with h | h
    ·rw [h];have:=hb e (by simp);omega
    ·intro e2;rw [←e2] at h;exact hd'.1 h
   show (Bool.rec (motive:=fun _=>Go.Ev.A) (zzt (wA z ck l) v ((yr z v0 ck l).map (toG kf)) fun l'=>c (toG kf e::l')) _ (Nat.beq e.2.2 (wA z ck l)):Go.Ev.A)=_
   rw [show Nat.beq e.2.2 (wA z ck l)=false by
    cases e3:Nat.beq e.2.2 (wA z ck l) with
    | true=>exact absurd (kaa e3) hne
    | false=>rfl]
   show zzt (wA z ck l) v ((yr z v0 ck l).map (toG kf)) _=_
   rw [zKb z v v0 ck l _ (fun e he=>hb e (by simp [he])) hd'.2]
   rfl
theorem zsp (z:α) (v:V) (ck:Nat):∀ l:LG α,(yr z v ck l).map (·.2.2)=if (qh l z).isSome then l.map (·.2.2) else l.map (·.2.2)++[ck]
 | []=>rfl
 | e::l=>by
  have ih:=zsp z v ck l
  simp only [yr]
  by_cases h:z=e.1
  ·rw [if_pos h]
   have hm:qh (e::l) z=some e.2.1:=by simp only [qh];rw [if_pos h.symm]
   rw [hm];rfl
  ·rw [if_neg h,kaN,ih]
   have hm:qh (e::l) z=qh l z:=by simp only [qh];rw [if_neg (fun e2=>h e2.symm)]
   rw [hm]
   cases hx:qh l z<;>rfl
def zAX (l:LG α) (ck:Nat):Prop:=(∀ e∈l,e.2.2<ck)∧(l.map (·.2.2)).Nodup
theorem zAX.nil {β:Type}:zAX ([]:LG β) 0:=⟨(fun e he=>by cases he),List.nodup_nil⟩
variable {ck:Nat}
theorem zAX.ins {l:LG α} (h:zAX l ck) (z:α) (v:V):zAX (yr z v ck l) (if (qh l z).isNone then ck+1 else ck):=by
 have hb:=zsp z v ck l
 have hlt:∀ n∈l.map (·.2.2),n<ck:=fun n hn=>by
  obtain ⟨e,he,rfl⟩:=kav.1 hn
  exact h.1 e he
 cases hm:qh l z with
 | some x =>
  rw [hm] at hb
  simp only [Option.isSome_some,if_true] at hb
  refine ⟨fun e he=>?_,by rw [hb];exact h.2⟩
  have:e.2.2∈(yr z v ck l).map (·.2.2):=kav.2 ⟨e,he,rfl⟩
  rw [hb] at this
  exact hlt _ this
 | none =>
  rw [hm] at hb
  simp only [Option.isSome_none,Bool.false_eq_true,if_false] at hb
  refine ⟨fun e he=>?_,?_⟩
  ·have:e.2.2∈(yr z v ck l).map (·.2.2):=kav.2 ⟨e,he,rfl⟩
   rw [hb] at this
   show e.2.2<ck+1
   rcases kak.1 this with h | h
   ·have:=hlt _ h;omega
   ·rw [kag.1 h];omega
  ·rw [hb]
   exact kaP.2 ⟨h.2,by simp,fun a ha b hb e=>by
    rw [kag.1 hb] at e
    have:=hlt a ha
    omega⟩
variable {k:Go.Ev.K}
theorem zMy (hq:KeyK q kf) {s:S} {l:LG α} (hg:yj kf s k l ck) (zero:V) (z:α) (c:V→S→Go.Ev.A) :
  zaa q zero (.ref 0 k) (kf z) s c=c (.ls 1 [(qh l z).getD zero,.nat .i64 (wA z ck l)]) (qj s k (.map ((yr z ((qh l z).getD zero) ck l).map (toG kf)) (if (qh l z).isNone then ck+1 else ck))):=by
 unfold yj at hg
 unfold zaa
 rw [hq.key]
 show zY s k _=_
 rw [zK,hg]
 show zzp q (kf z) zero ck (l.map (toG kf)) _=_
 rw [zKG hq,zH,qp]
 cases qh l z<;>rfl
theorem zzz {s:S} {l:LG α} {ck':Nat} (hB:zAX l ck) {z:α} {v0:V} (hg:Tr.get B.none k s.h=.map ((yr z v0 ck l).map (toG kf)) ck') (v:V) (c:V→S→Go.Ev.A) :
  wh (.ref 0 k) (.nat .i64 (wA z ck l)) v s c=c Go.Ev.undef (qj s k (.map ((yr z v ck l).map (toG kf)) ck')):=by
 show zY s k _=_
 rw [zK,hg]
 show zzt (wA z ck l) v _ _=_
 rw [zKb z v v0 ck l _ hB.1 hB.2,qp]
 rfl
end
@[simp] theorem zOb (a b:V) (c:V→Go.Ev.A):zU 0 (.ls 1 [a,b]) c=c a:=rfl
@[simp] theorem zOd (a b:V) (c:V→Go.Ev.A):zU 1 (.ls 1 [a,b]) c=c b:=rfl
abbrev Pr:=Nat × Nat
def pC (z:Pr):List V:=[iv .i64 (z.1:Int),iv .i64 (z.2:Int)]
theorem jO (z:Pr):∀ y∈pC z,y≠.bad:=fun y hy=>by
 rcases kaj.1 hy with rfl | hy
 ·exact yN _ _
 ·rcases kag.1 hy with rfl
  exact yN _ _
variable {a:Go.Ev.K} {x:List V} {el sz:Nat}
theorem zLQ {s:S} (hg:Tr.get B.none a s.h=.row x sz el false 0 0 0) (hx:∀ y∈x,y≠.bad) (hl:x.length=sz) (c:Nat→List V→Go.Ev.A):qy sz (.sl a 0 0 1 1) s c=c 1 x:=by
 show zM _ a 0 0 (Nat.mul 1 sz) _=_
 unfold zM
 rw [zK,hg]
 have e1:Nat.mul 1 sz=sz:=Nat.one_mul sz
 show (Bool.rec (motive:=fun _=>Go.Ev.A) _ _ (j9 sz false 0 0 (Nat.add 0 (Nat.mul 1 sz))):Go.Ev.A)=_
 rw [e1,show j9 sz false 0 0 (Nat.add 0 sz)=true from qG.2 (.inr ⟨rfl,by show 0+sz≤sz;omega⟩)]
 show zeQ 0 x _=_
 rw [wv]
 show zlN sz _ _=_
 have e:(x.drop 0).take sz=x:=by rw [List.drop_zero,List.take_of_length_le (by omega)]
 rw [ze1 _ _ _ (by rw [e];exact hx),e]
def TdV (b s:S) (v:V) (td:List Pr):Prop:=Gz 107 2 b s v (td.map pC)∨∃ a,v=.sl a 0 0 1 1∧b.nx.toNat≤a.toNat∧a.toNat<s.nx.toNat∧Tr.get B.none a s.h=.row (pC (0,0)) 2 107 false 0 0 0∧td=[(0,0)]
variable {td:List Pr} {b:S} {v:V}
theorem TdV.len {s:S} (h:TdV b s v td) (c:V→Go.Ev.A):zz v c=c (iv .i64 (td.length:Int)):=by
 rcases h with h | ⟨a,rfl,-,-,-,rfl⟩
 ·rw [h.len,kai]
 ·rfl
theorem TdV.cell {s:S} (h:TdV b s v td) (c:List V→Go.Ev.A):zp 1 v c=c [v]:=by
 rcases h with h | ⟨a,rfl,-,-,-,rfl⟩
 ·exact h.cell1 c
 ·rfl
theorem TdV.ne {s:S} (h:TdV b s v td):v≠.bad:=by
 rcases h with h | ⟨a,rfl,-,-,-,rfl⟩
 ·exact h.nbad
 ·intro e;cases e
variable {c:Go.Ev.K}
theorem TdV.blk {s:S} (h:TdV b s v td) (hc:zoC v=some c):b.nx.toNat≤c.toNat∧c.toNat<s.nx.toNat∧∃ l n gr mn f1 f2,Tr.get B.none c s.h=.row l n 107 gr mn f1 f2:=by
 rcases h with (⟨rfl,-⟩ | ⟨a,mn,rfl,h1,h2,-,h3,-⟩) | ⟨a,rfl,h1,h2,h3,-⟩
 ·cases hc
 ·cases hc;exact ⟨h1,h2,_,_,_,_,_,_,h3⟩
 ·cases hc;exact ⟨h1,h2,_,_,_,_,_,_,h3⟩
theorem zL5 {s:S} {l:List (List V)} (h:Gz el sz b s v l) (hc:zC v=some c):zoC v=some c:=by
 rcases h with ⟨rfl,-⟩ | ⟨a,mn,rfl,-⟩
 ·cases hc
 ·exact hc
theorem TdV.keep {s s':S} (h:TdV b s v td) (hn:s.nx.toNat≤s'.nx.toNat) (hk:∀ c,zoC v=some c→Tr.get B.none c s'.h=Tr.get B.none c s.h):TdV b s' v td:=by
 rcases h with h | ⟨a,rfl,h1,h2,h3,rfl⟩
 ·exact .inl (h.keep hn fun c hc=>hk c (zL5 h hc))
 ·exact .inr ⟨a,rfl,h1,kaf h2 hn,(hk a rfl).trans h3,rfl⟩
theorem TdV.ext {s s':S} (h:TdV b s v td) (e:Ext s s'):TdV b s' v td:=h.keep e.nx fun c hc=>e.get c (h.blk hc).2.1
variable {i:Nat} {z:Pr}
theorem TdV.at_ {s:S} (h:TdV b s v td) (hi:td[i]?=some z):∃ p,(∀ kk (f:V→Go.Ev.A),zg 2 v (iv kk (i:Int)) f=f p)∧∀ f:V→S→Go.Ev.A,zd true 2 p s f=f (.ls 0 (pC z)) s:=by
 rcases h with h | ⟨a,rfl,h1,h2,h3,rfl⟩
 ·have hlt:i<(td.map pC).length:=by rw [kai];exact (kad.1 hi).1
  exact ⟨_,fun kk f=>h.idx hlt kk f,fun f=>h.load (x:=pC z) (by rw [kal,hi];rfl) (jO z) f⟩
 ·have hi0:i=0:=by
   cases i with
   | zero=>rfl
   | succ i=>simp at hi
  subst hi0
  have hz:z=(0,0):=by simpa using hi.symm
  subst hz
  exact ⟨.ptr a 0 0,fun kk f=>rfl,fun f=>qT h3 rfl (jO _) f⟩
theorem zji {s:S} {l:List (List V)} (h:Gz el sz b s v l) (hb:b.nx.toNat≤s.nx.toNat) (hsz:0<sz) (hg:Tr.get B.none a s.h=.row x sz el false 0 0 0) (hx:∀ y∈x,y≠.bad) (hl:x.length=sz) (hlim:l.length+1≤68719476736) :
  ∃ v' s',(∀ k:V→S→Go.Ev.A,zP el sz v (.sl a 0 0 1 1) s k=k v' s')∧Gz el sz b s' v' (l++[x])∧s.nx.toNat≤s'.nx.toNat ∧
   (∀ c,c.toNat<s.nx.toNat→zC v≠some c→Tr.get B.none c s'.h=Tr.get B.none c s.h)∧(zC v'=zC v∨∀ c,zC v'=some c→s.nx.toNat≤c.toNat):=by
 obtain ⟨v',s',h1,h2,h3,h4,h5⟩:=h.append hb hsz [x] (fun y hy=>by simp at hy;subst hy;exact hl) (by simpa using hlim)
 refine ⟨v',s',fun k=>?_,h2,h3,h4,h5⟩
 show qy sz (.sl a 0 0 1 1) _ _=_
 rw [zLQ hg hx hl]
 simpa using h1 k
theorem TdV.app2 {s:S} (h:TdV b s v td) (hb:b.nx.toNat≤s.nx.toNat) (hg:Tr.get B.none a s.h=.row (pC z) 2 107 false 0 0 0) (hlim:td.length+1≤68719476736) :
  ∃ v' s',(∀ k:V→S→Go.Ev.A,zP 107 2 v (.sl a 0 0 1 1) s k=k v' s')∧TdV b s' v' (td++[z])∧s.nx.toNat≤s'.nx.toNat ∧
   (∀ c,c.toNat<s.nx.toNat→zC v≠some c→Tr.get B.none c s'.h=Tr.get B.none c s.h)∧(zC v'=zC v∨∀ c,zC v'=some c→s.nx.toNat≤c.toNat)∧∀ c l n el mn f1 f2,c.toNat<s.nx.toNat→Tr.get B.none c s.h=.row l n el false mn f1 f2→Tr.get B.none c s'.h=Tr.get B.none c s.h:=by
 rcases h with h | ⟨a0,rfl,h1,h2,h3,rfl⟩
 ·obtain ⟨v',s',g1,g2,g3,g4,g5⟩:=zji h hb (by omega) hg (jO z) rfl (by rw [kai];exact hlim)
  exact ⟨v',s',g1,.inl (by rw [kaE];exact g2),g3,g4,g5,fun c l n el mn f1 f2 hc hg=>g4 c hc (h.ne_row hg)⟩
 ·refine ⟨.so s.nx 4 0 2 0,zN s (.row (pC (0,0)++pC z) 4 107 true 0 0 0),fun k=>?_,.inl (.inr ⟨s.nx,0,rfl,hb,by rw [ziG];omega,⟨by show 0<2;omega,Nat.zero_le _⟩,zx _ _,fun x hx=>?_⟩),by rw [ziG];omega,fun c hc _=>(zO _ _).get c hc,.inr (fun c hc=>by cases hc;exact kab _),fun c _ _ _ _ _ _ hc _=>(zO _ _).get c hc⟩
  ·show qy 2 (.sl a 0 0 1 1) _ _=_
   rw [zLQ hg (jO z) rfl]
   show zM s a0 0 0 2 (fun old=>zah old (pC z) fun l=>yF s 107 l 2 k)=_
   unfold zM
   rw [zK,h3]
   show yF s 107 (pC (0,0)++pC z) 2 k=_
   rw [zjV _ _ _ _ (by omega)]
   rfl
  ·obtain ⟨y,-,rfl⟩:=kav.1 hx
   rfl
theorem TdV.app {s:S} (h:TdV b s v td) (hb:b.nx.toNat≤s.nx.toNat) (hg:Tr.get B.none a s.h=.row (pC z) 2 107 false 0 0 0) (hlim:td.length+1≤68719476736) :
  ∃ v' s',(∀ k:V→S→Go.Ev.A,zP 107 2 v (.sl a 0 0 1 1) s k=k v' s')∧TdV b s' v' (td++[z])∧s.nx.toNat≤s'.nx.toNat ∧
   (∀ c,c.toNat<s.nx.toNat→zC v≠some c→Tr.get B.none c s'.h=Tr.get B.none c s.h)∧(zC v'=zC v∨∀ c,zC v'=some c→s.nx.toNat≤c.toNat):=by
 obtain ⟨v',s',h1,h2,h3,h4,h5,-⟩:=h.app2 hb hg hlim
 exact ⟨v',s',h1,h2,h3,h4,h5⟩
def FrB (s s':S):Prop:=s.nx.toNat≤s'.nx.toNat∧∀ c l n el mn f1 f2,c.toNat<s.nx.toNat→(el=107∨el=180)→Tr.get B.none c s.h=.row l n el false mn f1 f2→Tr.get B.none c s'.h=Tr.get B.none c s.h
theorem FrB.refl (s:S):FrB s s:=⟨kab _,fun _ _ _ _ _ _ _ _ _ _=>rfl⟩
theorem FrB.trans {s s1 s2:S} (h:FrB s s1) (g:FrB s1 s2):FrB s s2:=⟨kar h.1 g.1,fun c l n el mn f1 f2 hc he hg=>by
 have e1:=h.2 c l n el mn f1 f2 hc he hg
 rw [g.2 c l n el mn f1 f2 (kaf hc h.1) he (e1.trans hg),e1]⟩
theorem FrB.of_ext {s s':S} (h:Ext s s'):FrB s s':=⟨h.nx,fun c _ _ _ _ _ _ hc _ _=>h.get c hc⟩
structure UB where
 kb:Go.Ev.K
 kt:Go.Ev.K
 ki:Go.Ev.K
 ks:Go.Ev.K
 mb:Go.Ev.K
 ms:Go.Ev.K
def zfK (bk:Pr→List Pr) (to z:Pr):Pr→List Pr:=fun y=>if y=to then bk y++[z] else bk y
structure Bks (s0 s:S) (mb:Go.Ev.K) (bk:Pr→List Pr) (tv:V) (bl:LG Pr) (bck:Nat):Prop where
 at_:yj qu s mb bl bck
 born:zAX bl bck
 none_:∀ z,qh bl z=none→bk z=[]
 some_:∀ z v,qh bl z=some v→Gz 107 2 s0 s v ((bk z).map pC)∧∀ c,zC v=some c→zC tv≠some c
 diff:∀ z z' v v',qh bl z=some v→qh bl z'=some v'→z≠z'→∀ c,zC v=some c→zC v'≠some c
structure Seen (s:S) (ms:Go.Ev.K) (td:List Pr) (sl:LG Pr) (sck:Nat):Prop where
 at_:yj qu s ms sl sck
 keys:sl.map (·.1)=td
 one:∀ z v,qh sl z=some v→v=iv .i64 1
variable {ms:Go.Ev.K} {sl:LG Pr} {sck:Nat}
theorem Seen.get {s:S} (h:Seen s ms td sl sck) (z:Pr):(qh sl z).getD (iv .i64 0)=if z∈td then iv .i64 1 else iv .i64 0:=by
 have hm:=zbq (l:=sl) (z:=z)
 rw [h.keys] at hm
 cases hh:qh sl z with
 | none =>
  rw [hh] at hm
  rw [if_neg (fun g=>by simpa using hm.2 g)];rfl
 | some v =>
  rw [hh] at hm
  rw [if_pos (hm.1 rfl),h.one z v hh];rfl
theorem Seen.ins {s s':S} (h:Seen s ms td sl sck) (hz:¬z∈td) {ck':Nat} (hg:Tr.get B.none ms s'.h=.map ((yr z (iv .i64 1) sck sl).map (toG qu)) ck'):Seen s' ms (td++[z]) (yr z (iv .i64 1) sck sl) ck':=by
 refine ⟨hg,?_,fun y v hv=>?_⟩
 ·have hm:=zbq (l:=sl) (z:=z)
  rw [h.keys] at hm
  rw [zj2,if_neg (fun g=>hz (hm.1 g)),h.keys]
 ·rw [zas] at hv
  by_cases g:y=z
  ·rw [if_pos g] at hv;exact (Option.some.inj hv).symm
  ·rw [if_neg g] at hv;exact h.one y v hv
structure USt (s0 s:S) (u:UB) (td:List Pr) (bk:Pr→List Pr) (i:Nat):Prop where
 ext:Ext s0 s
 b1:Tr.get B.none u.kb s.h=.row [.ref 0 u.mb] 1 181 false 0 0 0
 i1:Tr.get B.none u.ki s.h=.row [iv .i64 (i:Int)] 1 3 false 0 0 0
 s1:Tr.get B.none u.ks s.h=.row [.ref 0 u.ms] 1 104 false 0 0 0
 t1:∃ tv,Tr.get B.none u.kt s.h=.row [tv] 1 111 false 0 0 0∧TdV s0 s tv td∧∃ bl bck,Bks s0 s u.mb bk tv bl bck
 m1:∃ sl sck,Seen s u.ms td sl sck
 rng:∀ c∈[u.kb,u.kt,u.ki,u.ks,u.mb,u.ms],s0.nx.toNat≤c.toNat∧c.toNat<s.nx.toNat
 ne:u.mb≠u.ms
variable {s0:S}
theorem USt.ext_of {s s':S} (h:Ext s0 s) (hn:s.nx.toNat≤s'.nx.toNat) {D:Go.Ev.K→Prop} (hk:∀ c,c.toNat<s.nx.toNat→¬D c→Tr.get B.none c s'.h=Tr.get B.none c s.h) (hD:∀ c,D c→s0.nx.toNat≤c.toNat):Ext s0 s':=Go.Ev.ext_of h hn hk hD
variable {bk:Pr→List Pr} {u:UB}
theorem USt.later {s s':S} (h:USt s0 s u td bk i) (e:Ext s s'):USt s0 s' u td bk i:=by
 obtain ⟨tv,t1,t2,bl,bck,B1⟩:=h.t1
 obtain ⟨sl,sck,S1⟩:=h.m1
 have g:∀ c,c∈[u.kb,u.kt,u.ki,u.ks,u.mb,u.ms]→Tr.get B.none c s'.h=Tr.get B.none c s.h:=fun c hc=>e.get c (h.rng c hc).2
 refine ⟨h.ext.trans e,(g _ (by simp)).trans h.b1,(g _ (by simp)).trans h.i1,(g _ (by simp)).trans h.s1,⟨tv,(g _ (by simp)).trans t1,t2.ext e,bl,bck,⟨?_,B1.born,B1.none_,fun z v hv=>⟨(B1.some_ z v hv).1.ext e,(B1.some_ z v hv).2⟩,B1.diff⟩⟩,⟨sl,sck,⟨?_,S1.keys,S1.one⟩⟩,fun c hc=>⟨(h.rng c hc).1,kaf (h.rng c hc).2 e.nx⟩,h.ne⟩
 ·unfold yj;rw [g _ (by simp)];exact B1.at_
 ·unfold yj;rw [g _ (by simp)];exact S1.at_
variable {gr:Bool} {f1 f2 mn:Nat}
theorem zV {s:S} {l:List V} {n:Nat} {es:List ME} {ck:Nat} (h1:Tr.get B.none a s.h=.row l n el gr mn f1 f2) (h2:Tr.get B.none c s.h=.map es ck):a≠c:=by
 rintro rfl
 rw [h1] at h2
 cases h2
theorem qd {s:S} {l l':List V} {n n' el':Nat} {gr':Bool} {mn' f1' f2':Nat} (h1:Tr.get B.none a s.h=.row l n el gr mn f1 f2) (h2:Tr.get B.none c s.h=.row l' n' el' gr' mn' f1' f2') (hne:el≠el'):a≠c:=by
 rintro rfl
 rw [h1] at h2
 injection h2 with _ _ h2
 exact hne h2
theorem USt.back {s:S} (h:USt s0 s u td bk i) {a7:Go.Ev.K} (hg7:Tr.get B.none a7 s.h=.row (pC z) 2 107 false 0 0 0) (_:a7.toNat<s.nx.toNat) (to:Pr) (hlim:(bk to).length+1≤68719476736) :
  ∃ n v0 s3 v10 s4 s5,(∀ k:V→S→Go.Ev.A,zaa ⟨6,[7,7]⟩ (.nil 1) (.ref 0 u.mb) (qu to) s k=k (.ls 1 [v0,n]) s3)∧(∀ k:V→S→Go.Ev.A,zP 107 2 v0 (.sl a7 0 0 1 1) s3 k=k v10 s4) ∧
   (∀ k:V→S→Go.Ev.A,wh (.ref 0 u.mb) n v10 s4 k=k Go.Ev.undef s5)∧USt s0 s5 u td (zfK bk to z) i∧s.nx.toNat≤s5.nx.toNat∧∀ c,c.toNat<s.nx.toNat→(∃ l n el mn f1 f2,Tr.get B.none c s.h=.row l n el false mn f1 f2)→Tr.get B.none c s5.h=Tr.get B.none c s.h:=by
 obtain ⟨tv,t1,t2,bl,bck,B1⟩:=h.t1
 obtain ⟨sl,sck,S1⟩:=h.m1
 have hmb:Tr.get B.none u.mb s.h=.map (bl.map (toG qu)) bck:=B1.at_
 have hms:Tr.get B.none u.ms s.h=.map (sl.map (toG qu)) sck:=S1.at_
 obtain ⟨v0,hv0⟩:∃ v0,v0=(qh bl to).getD (.nil 1):=⟨_,rfl⟩
 obtain ⟨ck',hck'⟩:∃ ck',ck'=(if (qh bl to).isNone then bck+1 else bck):=⟨_,rfl⟩
 have hz0:Gz 107 2 s0 s v0 ((bk to).map pC):=by
  rw [hv0]
  cases hh:qh bl to with
  | none=>rw [B1.none_ to hh];exact .inl ⟨rfl,rfl⟩
  | some v=>exact (B1.some_ to v hh).1
 obtain ⟨s3,hs3⟩:∃ s3,s3=qj s u.mb (.map ((yr to v0 bck bl).map (toG qu)) ck'):=⟨_,rfl⟩
 have k3:∀ c,c≠u.mb→Tr.get B.none c s3.h=Tr.get B.none c s.h:=fun c hc=>by rw [hs3,zm,if_neg hc]
 have n3:s3.nx=s.nx:=by rw [hs3];rfl
 have hz3:Gz 107 2 s0 s3 v0 ((bk to).map pC):=hz0.keep (by rw [n3];exact kab _) fun c hc=>k3 c (fun e=>hz0.ne_map hmb (e▸hc))
 obtain ⟨v10,s4,e10,z10,n4,k4,b10⟩:=zji hz3 (by rw [n3];exact h.ext.nx) (by omega) (a:=a7) (x:=pC z) (by rw [k3 _ (zV hg7 hmb)];exact hg7) (jO z) rfl (by rw [kai];exact hlim)
 have hmb4:Tr.get B.none u.mb s4.h=.map ((yr to v0 bck bl).map (toG qu)) ck':=by
  rw [k4 _ (by rw [n3];exact (h.rng u.mb (by simp)).2) (hz0.ne_map hmb),hs3,zm,if_pos rfl]
 obtain ⟨s5,hs5⟩:∃ s5,s5=qj s4 u.mb (.map ((yr to v10 bck bl).map (toG qu)) ck'):=⟨_,rfl⟩
 have n5:s5.nx=s4.nx:=by rw [hs5];rfl
 have hn:s.nx.toNat≤s5.nx.toNat:=by rw [n5,←n3];exact n4
 have hk:∀ c,c.toNat<s.nx.toNat→c≠u.mb→zC v0≠some c→Tr.get B.none c s5.h=Tr.get B.none c s.h:=fun c hc h1 h2=>by
  rw [hs5,zm,if_neg h1,k4 c (by rw [n3];exact hc) h2,k3 c h1]
 have hrow:∀ c,c.toNat<s.nx.toNat→(∃ l n el mn f1 f2,Tr.get B.none c s.h=.row l n el false mn f1 f2)→Tr.get B.none c s5.h=Tr.get B.none c s.h:=fun c hc ⟨l,n,el,mn,f1,f2,hg⟩=>hk c hc (zV hg hmb) (hz0.ne_row hg)
 have b10':∀ c,zC v10=some c→zC v0=some c∨s.nx.toNat≤c.toNat:=fun c hc=>by
  rcases b10 with b | b
  ·exact .inl (b▸hc)
  ·exact .inr (by rw [←n3];exact b c hc)
 have z10':Gz 107 2 s0 s5 v10 ((bk to++[z]).map pC):=by
  rw [kaE]
  exact z10.keep (by rw [n5];exact kab _) fun c hc=>by
   rw [hs5,zm,if_neg]
   intro e
   exact z10.ne_map hmb4 (e▸hc)
 have hold:∀ y v,qh bl y=some v→y≠to→∀ c,zC v=some c→zC v0≠some c:=fun y v hv hy c hc=>by
  rw [hv0]
  cases hh:qh bl to with
  | none=>intro e;cases e
  | some w=>exact B1.diff y to v w hv hh hy c hc
 have hv0tv:∀ c,zC v0=some c→zC tv≠some c:=fun c hc=>by
  rw [hv0] at hc
  cases hh:qh bl to with
  | none=>rw [hh] at hc;cases hc
  | some w=>rw [hh] at hc;exact (B1.some_ to w hh).2 c hc
 refine ⟨.nat .i64 (wA to bck bl),v0,s3,v10,s4,s5,fun k=>?_,e10,fun k=>?_,?_,hn,hrow⟩
 ·rw [zMy y5 B1.at_,←hv0,←hck',←hs3]
 ·rw [zzz B1.born hmb4,←hs5]
 ·have hD:∀ c,(c=u.mb∨zC v0=some c)→s0.nx.toNat≤c.toNat:=fun c hc=>by
   rcases hc with rfl | hc
   ·exact (h.rng u.mb (by simp)).1
   ·exact (hz0.blk hc).1
  refine ⟨USt.ext_of h.ext hn (D:=fun c=>c=u.mb∨zC v0=some c) (fun c hc hd=>hk c hc (fun e=>hd (.inl e)) (fun e=>hd (.inr e))) hD,?_,?_,?_,⟨tv,?_,?_,yr to v10 bck bl,ck',⟨?_,?_,?_,?_,?_⟩⟩,⟨sl,sck,⟨?_,S1.keys,S1.one⟩⟩,fun c hc=>⟨(h.rng c hc).1,kaf (h.rng c hc).2 hn⟩,h.ne⟩
  ·exact (hrow _ (h.rng _ (by simp)).2 ⟨_,_,_,_,_,_,h.b1⟩).trans h.b1
  ·exact (hrow _ (h.rng _ (by simp)).2 ⟨_,_,_,_,_,_,h.i1⟩).trans h.i1
  ·exact (hrow _ (h.rng _ (by simp)).2 ⟨_,_,_,_,_,_,h.s1⟩).trans h.s1
  ·exact (hrow _ (h.rng _ (by simp)).2 ⟨_,_,_,_,_,_,t1⟩).trans t1
  ·refine t2.keep hn fun c hc=>?_
   obtain ⟨-,c2,_,_,_,_,_,_,c3⟩:=t2.blk hc
   refine hk c c2 (zV c3 hmb) fun e=>?_
   rcases t2 with t2 | ⟨a,rfl,-,-,c4,-⟩
   ·exact hv0tv c e (by
     rcases t2 with ⟨rfl,-⟩ | ⟨a,mn,rfl,-⟩
     ·cases hc
     ·exact hc)
   ·cases hc;exact hz0.ne_row c4 e
  ·unfold yj;rw [hs5,zm,if_pos rfl]
  ·rw [hck'];exact B1.born.ins to v10
  ·intro y hy
   rw [zas] at hy
   by_cases g:y=to
   ·rw [if_pos g] at hy;cases hy
   ·rw [if_neg g] at hy
    unfold zfK
    rw [if_neg g];exact B1.none_ y hy
  ·intro y v hy
   rw [zas] at hy
   by_cases g:y=to
   ·rw [if_pos g] at hy
    cases hy
    refine ⟨by unfold zfK;rw [if_pos g,g];exact z10',fun c hc e=>?_⟩
    rcases b10' c hc with h1 | h1
    ·exact hv0tv c h1 e
    ·have:c.toNat<s.nx.toNat:=by
      rcases t2 with (⟨rfl,-⟩ | ⟨a,mn,rfl,-,h2,-⟩) | ⟨a,rfl,-,h2,-⟩
      ·cases e
      ·cases e;exact h2
      ·cases e;exact h2
     omega
   ·rw [if_neg g] at hy
    refine ⟨by unfold zfK;rw [if_neg g];exact (B1.some_ y v hy).1.keep hn fun c hc=>hk c ((B1.some_ y v hy).1.blk hc).2 (fun e=>(B1.some_ y v hy).1.ne_map hmb (e▸hc)) (hold y v hy g c hc),(B1.some_ y v hy).2⟩
  ·intro y y' v v' hy hy' hne c hc hc'
   rw [zas] at hy hy'
   by_cases g:y=to
   ·rw [if_pos g] at hy
    rw [if_neg (fun e=>hne (g.trans e.symm))] at hy'
    cases hy
    rcases b10' c hc with h1 | h1
    ·exact hold y' v' hy' (fun e=>hne (g.trans e.symm)) c hc' h1
    ·have:=((B1.some_ y' v' hy').1.blk hc').2
     omega
   ·rw [if_neg g] at hy
    by_cases g':y'=to
    ·rw [if_pos g'] at hy'
     cases hy'
     rcases b10' c hc' with h1 | h1
     ·exact hold y v hy g c hc h1
     ·have:=((B1.some_ y v hy).1.blk hc).2
      omega
    ·rw [if_neg g'] at hy'
     exact B1.diff y y' v v' hy hy' hne c hc hc'
  ·unfold yj
   rw [hk _ (h.rng _ (by simp)).2 (fun e=>h.ne e.symm) (hz0.ne_map hms)];exact hms
theorem USt.push {s:S} (h:USt s0 s u td bk i) {to:Pr} (hto:¬to∈td) (hlim:td.length+1≤68719476736) :
  ∃ tv s6 v3 s8 s9,(∀ k:V→S→Go.Ev.A,qw ⟨6,[7,7]⟩ (.ref 0 u.ms) (qu to) (iv .i64 1) s k=k Go.Ev.undef s6)∧(∀ k:V→S→Go.Ev.A,zd false 1 (.ptr u.kt 0 0) s6 k=k tv s6) ∧
   (∀ k:V→S→Go.Ev.A,zP 107 2 tv (.sl s6.nx 0 0 1 1) (zN s6 (.row (pC to) 2 107 false 0 0 0)) k=k v3 s8)∧(∀ k:V→S→Go.Ev.A,zJ 1 (.ptr u.kt 0 0) v3 s8 k=k Go.Ev.undef s9) ∧
   (∀ a l n el mn f1 f2,a.toNat<s.nx.toNat→Tr.get B.none a s.h=.row l n el false mn f1 f2→Tr.get B.none a s6.h=.row l n el false mn f1 f2)∧USt s0 s9 u (td++[to]) bk i∧FrB s s9:=by
 obtain ⟨tv,t1,t2,bl,bck,B1⟩:=h.t1
 obtain ⟨sl,sck,S1⟩:=h.m1
 have hmb:Tr.get B.none u.mb s.h=.map (bl.map (toG qu)) bck:=B1.at_
 have hms:Tr.get B.none u.ms s.h=.map (sl.map (toG qu)) sck:=S1.at_
 obtain ⟨ck',hck'⟩:∃ ck',ck'=(if (qh sl to).isNone then sck+1 else sck):=⟨_,rfl⟩
 obtain ⟨s6,hs6⟩:∃ s6,s6=qj s u.ms (.map ((yr to (iv .i64 1) sck sl).map (toG qu)) ck'):=⟨_,rfl⟩
 have k6:∀ c,c≠u.ms→Tr.get B.none c s6.h=Tr.get B.none c s.h:=fun c hc=>by rw [hs6,zm,if_neg hc]
 have n6:s6.nx=s.nx:=by rw [hs6];rfl
 have hkt6:Tr.get B.none u.kt s6.h=.row [tv] 1 111 false 0 0 0:=by rw [k6 _ (zV t1 hms)];exact t1
 have hms6:Tr.get B.none u.ms s6.h=.map ((yr to (iv .i64 1) sck sl).map (toG qu)) ck':=by rw [hs6,zm,if_pos rfl]
 have hktlt:=(h.rng u.kt (by simp)).2
 have hmslt:=(h.rng u.ms (by simp)).2
 obtain ⟨s7,hs7,E7,-,-⟩:=nB s6 (.row (pC to) 2 107 false 0 0 0)
 have n7:=E7.nx
 have t6:TdV s0 s6 tv td:=t2.keep (by rw [n6];exact kab _) fun c hc=>by
  obtain ⟨-,-,_,_,_,_,_,_,c3⟩:=t2.blk hc
  exact k6 c (zV c3 hms)
 have t7:TdV s0 s7 tv td:=t6.ext E7
 obtain ⟨v3,s8,e3,t8,n8,k8,b8,kr8⟩:=t7.app2 (by have:=h.ext.nx;rw [n6] at n7;omega) (a:=s6.nx) (z:=to) (by rw [hs7];exact zx _ _) hlim
 have hblk:∀ c,zC tv=some c→zoC tv=some c:=fun c hc=>by
  rcases t2 with (⟨rfl,-⟩ | ⟨a,mn,rfl,-⟩) | ⟨a,rfl,-⟩
  ·cases hc
  ·exact hc
  ·exact hc
 have hkt8:Tr.get B.none u.kt s8.h=.row [tv] 1 111 false 0 0 0:=by
  rw [k8 _ (by rw [n6] at n7;omega) (fun e=>?_),E7.get _ (by rw [n6];exact hktlt)]
  ·exact hkt6
  ·obtain ⟨-,-,_,_,_,_,_,_,c3⟩:=t2.blk (hblk _ e)
   exact qd t1 c3 (by decide) rfl
 obtain ⟨s9,hs9⟩:∃ s9,s9=qj s8 u.kt (.row [v3] 1 111 false 0 0 0):=⟨_,rfl⟩
 have n9:s9.nx=s8.nx:=by rw [hs9];rfl
 have hn:s.nx.toNat≤s9.nx.toNat:=by rw [n9];rw [n6] at n7;omega
 have hk:∀ c,c.toNat<s.nx.toNat→c≠u.ms→c≠u.kt→zC tv≠some c→Tr.get B.none c s9.h=Tr.get B.none c s.h:=fun c hc h1 h2 h3=>by
  rw [hs9,zm,if_neg h2,k8 c (by rw [n6] at n7;omega) h3,E7.get c (by rw [n6];exact hc),k6 c h1]
 have tvel:∀ c l n el gr mn f1 f2,Tr.get B.none c s.h=.row l n el gr mn f1 f2→el≠107→zC tv≠some c:=fun c l n el gr mn f1 f2 hg hel e=>by
  obtain ⟨-,-,_,_,_,_,_,_,c3⟩:=t2.blk (hblk _ e)
  exact qd hg c3 hel rfl
 have tvmap:∀ c es ck,Tr.get B.none c s.h=.map es ck→zC tv≠some c:=fun c es ck hg e=>by
  obtain ⟨-,-,_,_,_,_,_,_,c3⟩:=t2.blk (hblk _ e)
  exact zV c3 hg rfl
 have hFr:FrB s s9:=⟨hn,fun c l n el mn f1 f2 hc hel hg=>by
  have g6:Tr.get B.none c s6.h=Tr.get B.none c s.h:=k6 c (zV hg hms)
  have g7:Tr.get B.none c s7.h=Tr.get B.none c s.h:=(E7.get c (by rw [n6];exact hc)).trans g6
  rw [hs9,zm,if_neg (qd hg t1 (by rcases hel with rfl | rfl<;>decide)),kr8 c _ _ _ _ _ _ (by rw [n6] at n7;omega) (g7.trans hg),g7]⟩
 have hs8ms:Tr.get B.none u.ms s9.h=.map ((yr to (iv .i64 1) sck sl).map (toG qu)) ck':=by
  rw [hs9,zm,if_neg (fun e=>zV t1 hms e.symm),k8 _ (by rw [n6] at n7;omega) (tvmap _ _ _ hms),E7.get _ (by rw [n6];exact hmslt)]
  exact hms6
 have b8':∀ c,zC v3=some c→zC tv=some c∨s.nx.toNat≤c.toNat:=fun c hc=>by
  rcases b8 with b | b
  ·exact .inl (b▸hc)
  ·refine .inr ?_
   have:=b c hc
   rw [n6] at n7
   omega
 refine ⟨tv,s6,v3,s8,s9,fun k=>?_,fun k=>zw hkt6 0 rfl (by omega) t2.ne k,?_,fun k=>?_,fun a l n el mn f1 f2 _ hg=>by rw [k6 _ (zV hg hms)];exact hg,?_,hFr⟩
 ·rw [zbo y5 S1.at_,←hck',←hs6]
 ·rw [←hs7];exact e3
 ·rw [zan hkt8 0 v3 t8.cell (by omega)]
  show k Go.Ev.undef (qj s8 u.kt (.row [v3] 1 111 false 0 0 0))=_
  rw [←hs9]
 ·have hD:∀ c,(c=u.ms∨c=u.kt∨zC tv=some c)→s0.nx.toNat≤c.toNat:=fun c hc=>by
   rcases hc with rfl | rfl | hc
   ·exact (h.rng u.ms (by simp)).1
   ·exact (h.rng u.kt (by simp)).1
   ·exact (t2.blk (hblk _ hc)).1
  refine ⟨USt.ext_of h.ext hn (D:=fun c=>c=u.ms∨c=u.kt∨zC tv=some c) (fun c hc hd=>hk c hc (fun e=>hd (.inl e)) (fun e=>hd (.inr (.inl e))) (fun e=>hd (.inr (.inr e)))) hD,?_,?_,?_,⟨v3,?_,?_,bl,bck,⟨?_,B1.born,B1.none_,fun z v hv=>⟨?_,fun c hc e=>?_⟩,B1.diff⟩⟩,⟨_,_,S1.ins hto hs8ms⟩,fun c hc=>⟨(h.rng c hc).1,kaf (h.rng c hc).2 hn⟩,h.ne⟩
  ·rw [hk _ (h.rng _ (by simp)).2 (zV h.b1 hms) (qd h.b1 t1 (by decide)) (tvel _ _ _ _ _ _ _ _ h.b1 (by decide))];exact h.b1
  ·rw [hk _ (h.rng _ (by simp)).2 (zV h.i1 hms) (qd h.i1 t1 (by decide)) (tvel _ _ _ _ _ _ _ _ h.i1 (by decide))];exact h.i1
  ·rw [hk _ (h.rng _ (by simp)).2 (zV h.s1 hms) (qd h.s1 t1 (by decide)) (tvel _ _ _ _ _ _ _ _ h.s1 (by decide))];exact h.s1
  ·rw [hs9,zm,if_pos rfl]
  ·refine t8.keep (by rw [n9];exact kab _) fun c hc=>?_
   obtain ⟨-,-,_,_,_,_,_,_,c3⟩:=t8.blk hc
   rw [hs9,zm,if_neg (qd c3 hkt8 (by decide))]
  ·unfold yj
   rw [hk _ (h.rng _ (by simp)).2 h.ne (fun e=>zV t1 hmb e.symm) (tvmap _ _ _ hmb)];exact hmb
  ·obtain ⟨g1,g2⟩:=B1.some_ z v hv
   refine g1.keep hn fun c hc=>hk c (g1.blk hc).2 (fun e=>g1.ne_map hms (e▸hc)) (fun e=>g1.ne_row t1 (e▸hc)) (g2 c hc)
  ·obtain ⟨g1,g2⟩:=B1.some_ z v hv
   rcases b8' c e with h1 | h1
   ·exact g2 c hc h1
   ·have:=(g1.blk hc).2
    omega
structure UcX where
 s0:S
 u:UB
 td:List Pr
 bk:Pr→List Pr
 i:Nat
 z:Pr
 to:Pr
 x:V
 y:V
def UcX.pre (c:UcX) (a:List V) (s:S):Prop:=a=[qu c.to,c.x,c.y,.ptr c.u.kb 0 0,.ptr c.u.kt 0 0,.ptr c.u.ki 0 0,.ptr c.u.ks 0 0]∧USt c.s0 s c.u c.td c.bk c.i∧c.td[c.i]?=some c.z∧c.td.length+1≤68719476736∧(c.bk c.to).length+1≤68719476736
def zfC (td:List Pr) (to:Pr):List Pr:=if to∈td then td else td++[to]
def UcX.post (c:UcX) (s:S) (_:V) (s':S):Prop:=USt c.s0 s' c.u (zfC c.td c.to) (zfK c.bk c.to c.z) c.i∧FrB s s'
theorem USt.loads {s:S} (h:USt s0 s u td bk i):(∀ k:V→S→Go.Ev.A,zd false 1 (.ptr u.kb 0 0) s k=k (.ref 0 u.mb) s)∧(∀ k:V→S→Go.Ev.A,zd false 1 (.ptr u.ki 0 0) s k=k (iv .i64 (i:Int)) s)∧(∀ k:V→S→Go.Ev.A,zd false 1 (.ptr u.ks 0 0) s k=k (.ref 0 u.ms) s) ∧
  (∀ (z:Pr) (c:V→Go.Ev.A),z4 ⟨6,[7,7]⟩ (iv .i64 0) false (.ref 0 u.ms) (qu z) s c=c (if z∈td then iv .i64 1 else iv .i64 0))∧∃ tv,(∀ k:V→S→Go.Ev.A,zd false 1 (.ptr u.kt 0 0) s k=k tv s)∧TdV s0 s tv td:=by
 obtain ⟨tv,t1,t2,-⟩:=h.t1
 obtain ⟨sl,sck,S1⟩:=h.m1
 refine ⟨fun k=>zw h.b1 0 rfl (by omega) (fun e=>by cases e) k,fun k=>zw h.i1 0 rfl (by omega) (show iv .i64 (i:Int)≠.bad from yN _ _) k,fun k=>zw h.s1 0 rfl (by omega) (fun e=>by cases e) k,fun z c=>?_,tv,fun k=>zw t1 0 rfl (by omega) t2.ne k,t2⟩
 rw [zcn y5 S1.at_,S1.get]
noncomputable def KB4:Nat→Ct
 | 100=>ctI UcX.pre UcX.post
 | f=>KB3 f
variable {f:Nat} {L:Nat→Lt} {X:Type}
theorem zOv {pre:X→List V→S→Prop} {post:X→S→V→S→Prop} (hK:KB4 f=ctI pre post) (h:∀ x a s,pre x a s→∃ v s',(fnC zj f).run (Rk Tryz.prog KB4 L) a s=.ret v s'∧post x s v s'):zL Tryz.prog KB4 f:=zaj zG.1 zG.2 hK h
theorem y4 (z:Pr):qu z=.ls 0 (pC z):=rfl
theorem zFd:zL Tryz.prog KB4 100:=by
 refine zOv (L:=noL) (X:=UcX) rfl ?_
 rintro ⟨s0,u,td,bk,i,z,to,x,y⟩ a s ⟨rfl,hU,hz,hl1,hl2⟩
 generalize Rk Tryz.prog _ _=r
 simp only at hU hz hl1 hl2
 show ∃ v s',_∧USt s0 s' u (zfC td to) (zfK bk to z) i∧FrB s s'
 obtain ⟨s1,hs1,E1,n1,g1⟩:=nB s (.row (pC to) 2 107 false 0 0 0)
 have U1:=hU.later E1
 obtain ⟨l1,l2,l3,-,tv,l5,ht⟩:=U1.loads
 have lp:=fun k:V→S→Go.Ev.A=>qT g1 rfl (jO to) k
 obtain ⟨p,ix,ldp⟩:=ht.at_ hz
 obtain ⟨s2,hs2,E2,n2,g2⟩:=nB s1 (.row (pC z) 2 107 false 0 0 0)
 obtain ⟨n,v0,s3,v10,s4,s5,e1,e2,e3,U5,n5,k5⟩:=(U1.later E2).back g2 (by omega) to hl2
 have g5:Tr.get B.none s.nx s5.h=.row (pC to) 2 107 false 0 0 0:=by rw [k5 _ (by omega) ⟨_,_,_,_,_,_,by rw [E2.get _ (by omega)];exact g1⟩,E2.get _ (by omega)];exact g1
 have F5:FrB s s5:=(FrB.of_ext (E1.trans E2)).trans ⟨n5,fun c _ _ _ _ _ _ hc _ hg=>k5 c hc ⟨_,_,_,_,_,_,hg⟩⟩
 have lp5:=fun k:V→S→Go.Ev.A=>qT g5 rfl (jO to) k
 obtain ⟨-,-,q3,q4,-⟩:=U5.loads
 have q4:=q4 to
 have cl:∀ (c:List V→Go.Ev.A) (z:Pr),zp 2 (.ls 0 (pC z)) c=c (pC z):=fun c z=>qR 2 _ rfl c
 have up:∀ (w:Pr),upd (pC w) 0 [iv .i64 0,iv .i64 0]=pC w:=fun w=>rfl
 have nr:∀ (s:S) (w:Pr) (c:Go.Ev.K→Nat→S→Go.Ev.A),Go.Ev.newRow s 107 (pC w) false c=c s.nx 2 (zN s (.row (pC w) 2 107 false 0 0 0)):=fun s w c=>zo s 107 (pC w) false c
 rw [y4] at e1 q4
 rw [y4]
 generalize hF:(fnC zj 100).run r _ _=F0
 by_cases hto:to∈td
 ·rw [if_pos hto] at q4
  simp -implicitDefEqProofs [zpb,cl,nr,←hs1,l1,lp,l5,l2,ix,ldp,rep,up,←hs2,e1,e2,e3,q3,lp5,q4] at hF
  exact ⟨_,s5,hF.symm,(by unfold zfC;rw [if_pos hto];exact U5),F5⟩
 ·rw [if_neg hto] at q4
  obtain ⟨tv5,s6,v3,s8,s9,a1,a2,a3,a4,a5,U9,F9⟩:=U5.push hto hl1
  have g6:=a5 _ _ _ _ _ _ _ (by omega) g5
  have lp6:=fun k:V→S→Go.Ev.A=>qT g6 rfl (jO to) k
  rw [y4] at a1
  simp -implicitDefEqProofs [zpb,cl,nr,←hs1,l1,lp,l5,l2,ix,ldp,rep,up,←hs2,e1,e2,e3,q3,lp5,q4,a1,a2,lp6,a3,a4] at hF
  exact ⟨_,s9,hF.symm,(by unfold zfC;rw [if_neg hto];exact U9),F5.trans F9⟩
structure IB where
 ku:Go.Ev.K
 kk:Go.Ev.K
 kf:Go.Ev.K
 ko:Go.Ev.K
 kt:Go.Ev.K
 mu:Go.Ev.K
 mm:Go.Ev.K
def wX (dl:Pr→Option Dl) (to:Pr) (d:Dl):Pr→Option Dl:=fun y=>if y=to then some d else dl y
def Kno (s:S) (mk:Go.Ev.K) (dl:Pr→Option Dl) (kl:LG Pr) (kck:Nat):Prop:=yj qu s mk kl kck∧∀ z,(dl z=none→qh kl z=none)∧∀ d,dl z=some d→∃ a b,qh kl z=some (.ls 0 [a,b])∧NW s a d.1∧NW s b d.2
structure ISt (s0 s:S) (ib:IB) (ends td:List Pr) (dl:Pr→Option Dl) (ok:Bool) (fr:Pr):Prop where
 ext:Ext s0 s
 u1:Tr.get B.none ib.ku s.h=.row [.ref 0 ib.mu] 1 104 false 0 0 0
 k1:Tr.get B.none ib.kk s.h=.row [.ref 0 ib.mm] 1 110 false 0 0 0
 f1:Tr.get B.none ib.kf s.h=.row (pC fr) 2 107 false 0 0 0
 o1:Tr.get B.none ib.ko s.h=.row [.bool ok] 1 4 false 0 0 0
 t1:∃ tv,Tr.get B.none ib.kt s.h=.row [tv] 1 111 false 0 0 0∧TdV s0 s tv td
 e1:∃ ul uck,Seen s ib.mu ends ul uck
 d1:∃ kl kck,Kno s ib.mm dl kl kck
 rng:∀ c∈[ib.ku,ib.kk,ib.kf,ib.ko,ib.kt,ib.mu,ib.mm],s0.nx.toNat≤c.toNat∧c.toNat<s.nx.toNat
 ne:ib.mu≠ib.mm
variable {dl:Pr→Option Dl}
theorem Kno.keep {s s':S} {mk:Go.Ev.K} {kl:LG Pr} {kck:Nat} (h:Kno s mk dl kl kck) (hn:s.nx.toNat≤s'.nx.toNat) (hm:Tr.get B.none mk s'.h=Tr.get B.none mk s.h) (hk:∀ c,c.toNat<s.nx.toNat→(∃ l n gr mn f1 f2,Tr.get B.none c s.h=.row l n 3 gr mn f1 f2)→Tr.get B.none c s'.h=Tr.get B.none c s.h):Kno s' mk dl kl kck:=by
 refine ⟨?_,fun z=>⟨(h.2 z).1,fun d hd=>?_⟩⟩
 ·unfold yj;rw [hm];exact h.1
 ·obtain ⟨a,b,h1,h2,h3⟩:=(h.2 z).2 d hd
  exact ⟨a,b,h1,h2.keep hn hk,h3.keep hn hk⟩
variable {ib:IB} {ends:List Pr}
theorem ISt.later {s s':S} {ok:Bool} {fr:Pr} (h:ISt s0 s ib ends td dl ok fr) (e:Ext s s'):ISt s0 s' ib ends td dl ok fr:=by
 obtain ⟨tv,t1,t2⟩:=h.t1
 obtain ⟨ul,uck,E1⟩:=h.e1
 obtain ⟨kl,kck,D1⟩:=h.d1
 have g:∀ c,c∈[ib.ku,ib.kk,ib.kf,ib.ko,ib.kt,ib.mu,ib.mm]→Tr.get B.none c s'.h=Tr.get B.none c s.h:=fun c hc=>e.get c (h.rng c hc).2
 refine ⟨h.ext.trans e,(g _ (by simp)).trans h.u1,(g _ (by simp)).trans h.k1,(g _ (by simp)).trans h.f1,(g _ (by simp)).trans h.o1,⟨tv,(g _ (by simp)).trans t1,t2.ext e⟩,⟨ul,uck,?_,E1.keys,E1.one⟩,⟨kl,kck,D1.keep e.nx (g _ (by simp)) fun c hc _=>e.get c hc⟩,fun c hc=>⟨(h.rng c hc).1,kaf (h.rng c hc).2 e.nx⟩,h.ne⟩
 unfold yj;rw [g _ (by simp)];exact E1.at_
theorem ISt.setOk {s:S} {ok:Bool} {fr:Pr} (h:ISt s0 s ib ends td dl ok fr) (b:Bool):(∀ k:V→S→Go.Ev.A,zJ 1 (.ptr ib.ko 0 0) (.bool b) s k=k Go.Ev.undef (qj s ib.ko (.row [.bool b] 1 4 false 0 0 0)))∧ISt s0 (qj s ib.ko (.row [.bool b] 1 4 false 0 0 0)) ib ends td dl b fr∧FrB s (qj s ib.ko (.row [.bool b] 1 4 false 0 0 0)):=by
 obtain ⟨tv,t1,t2⟩:=h.t1
 obtain ⟨ul,uck,E1⟩:=h.e1
 obtain ⟨kl,kck,D1⟩:=h.d1
 obtain ⟨s',hs'⟩:∃ s',s'=qj s ib.ko (.row [.bool b] 1 4 false 0 0 0):=⟨_,rfl⟩
 have k:∀ c,c≠ib.ko→Tr.get B.none c s'.h=Tr.get B.none c s.h:=fun c hc=>by rw [hs',zm,if_neg hc]
 have n:s'.nx=s.nx:=by rw [hs'];rfl
 refine ⟨fun k=>zan h.o1 0 (.bool b) (fun c=>rfl) (by omega) k,?_⟩
 rw [←hs']
 refine ⟨?_,by rw [n];exact kab _,fun c l m el mn f1 f2 hc hel hg=>k c (qd hg h.o1 (by rcases hel with rfl | rfl<;>decide))⟩
 refine ⟨⟨by rw [n];exact h.ext.nx,fun c hc=>?_⟩,?_,?_,?_,?_,⟨tv,?_,t2.keep (by rw [n];exact kab _) fun c hc=>?_⟩,⟨ul,uck,?_,E1.keys,E1.one⟩,⟨kl,kck,D1.keep (by rw [n];exact kab _) ?_ fun c hc hg=>?_⟩,fun c hc=>by rw [n];exact h.rng c hc,h.ne⟩
 ·rw [k c (fun e=>by have:=(h.rng ib.ko (by simp)).1;rw [e] at hc;omega)];exact h.ext.get c hc
 ·rw [k _ (qd h.u1 h.o1 (by decide))];exact h.u1
 ·rw [k _ (qd h.k1 h.o1 (by decide))];exact h.k1
 ·rw [k _ (qd h.f1 h.o1 (by decide))];exact h.f1
 ·rw [hs',zm,if_pos rfl]
 ·rw [k _ (qd t1 h.o1 (by decide))];exact t1
 ·obtain ⟨-,-,_,_,_,_,_,_,c3⟩:=t2.blk hc
  exact k c (qd c3 h.o1 (by decide))
 ·unfold yj;rw [k _ (fun e=>zV h.o1 E1.at_ e.symm)];exact E1.at_
 ·exact k _ (fun e=>zV h.o1 D1.1 e.symm)
 ·obtain ⟨_,_,_,_,_,_,hg⟩:=hg
  exact k c (qd hg h.o1 (by decide))
variable {d:Dl}
theorem ISt.learn {s:S} {ok:Bool} {fr:Pr} (h:ISt s0 s ib ends td dl ok fr) {to:Pr} (_:dl to=none) {u w:V} (hu:NW s u d.1) (hw:NW s w d.2) (hlim:td.length+1≤68719476736) :
  ∃ tv s6 v3 s8 s9,(∀ k:V→S→Go.Ev.A,qw ⟨6,[7,7]⟩ (.ref 0 ib.mm) (qu to) (.ls 0 [u,w]) s k=k Go.Ev.undef s6)∧(∀ k:V→S→Go.Ev.A,zd false 1 (.ptr ib.kt 0 0) s6 k=k tv s6) ∧
   (∀ k:V→S→Go.Ev.A,zP 107 2 tv (.sl s6.nx 0 0 1 1) (zN s6 (.row (pC to) 2 107 false 0 0 0)) k=k v3 s8)∧(∀ k:V→S→Go.Ev.A,zJ 1 (.ptr ib.kt 0 0) v3 s8 k=k Go.Ev.undef s9) ∧
   (∀ a l n el mn f1 f2,a.toNat<s.nx.toNat→Tr.get B.none a s.h=.row l n el false mn f1 f2→Tr.get B.none a s6.h=.row l n el false mn f1 f2)∧ISt s0 s9 ib ends (td++[to]) (wX dl to d) ok fr∧FrB s s9:=by
 obtain ⟨tv,t1,t2⟩:=h.t1
 obtain ⟨ul,uck,E1⟩:=h.e1
 obtain ⟨kl,kck,D1⟩:=h.d1
 have hmu:Tr.get B.none ib.mu s.h=.map (ul.map (toG qu)) uck:=E1.at_
 have hmk:Tr.get B.none ib.mm s.h=.map (kl.map (toG qu)) kck:=D1.1
 obtain ⟨ck',hck'⟩:∃ ck',ck'=(if (qh kl to).isNone then kck+1 else kck):=⟨_,rfl⟩
 obtain ⟨s6,hs6⟩:∃ s6,s6=qj s ib.mm (.map ((yr to (.ls 0 [u,w]) kck kl).map (toG qu)) ck'):=⟨_,rfl⟩
 have k6:∀ c,c≠ib.mm→Tr.get B.none c s6.h=Tr.get B.none c s.h:=fun c hc=>by rw [hs6,zm,if_neg hc]
 have n6:s6.nx=s.nx:=by rw [hs6];rfl
 have hkt6:Tr.get B.none ib.kt s6.h=.row [tv] 1 111 false 0 0 0:=by rw [k6 _ (zV t1 hmk)];exact t1
 have hmk6:Tr.get B.none ib.mm s6.h=.map ((yr to (.ls 0 [u,w]) kck kl).map (toG qu)) ck':=by rw [hs6,zm,if_pos rfl]
 have hktlt:=(h.rng ib.kt (by simp)).2
 have hmklt:=(h.rng ib.mm (by simp)).2
 obtain ⟨s7,hs7,E7,-,-⟩:=nB s6 (.row (pC to) 2 107 false 0 0 0)
 have n7:=E7.nx
 have t6:TdV s0 s6 tv td:=t2.keep (by rw [n6];exact kab _) fun c hc=>by
  obtain ⟨-,-,_,_,_,_,_,_,c3⟩:=t2.blk hc
  exact k6 c (zV c3 hmk)
 have t7:TdV s0 s7 tv td:=t6.ext E7
 obtain ⟨v3,s8,e3,t8,n8,k8,b8,kr8⟩:=t7.app2 (by have:=h.ext.nx;rw [n6] at n7;omega) (a:=s6.nx) (z:=to) (by rw [hs7];exact zx _ _) hlim
 have hblk:∀ c,zC tv=some c→zoC tv=some c:=fun c hc=>by
  rcases t2 with (⟨rfl,-⟩ | ⟨a,mn,rfl,-⟩) | ⟨a,rfl,-⟩
  ·cases hc
  ·exact hc
  ·exact hc
 have tvel:∀ c l n el gr mn f1 f2,Tr.get B.none c s.h=.row l n el gr mn f1 f2→el≠107→zC tv≠some c:=fun c l n el gr mn f1 f2 hg hel e=>by
  obtain ⟨-,-,_,_,_,_,_,_,c3⟩:=t2.blk (hblk _ e)
  exact qd hg c3 hel rfl
 have tvmap:∀ c es ck,Tr.get B.none c s.h=.map es ck→zC tv≠some c:=fun c es ck hg e=>by
  obtain ⟨-,-,_,_,_,_,_,_,c3⟩:=t2.blk (hblk _ e)
  exact zV c3 hg rfl
 have hkt8:Tr.get B.none ib.kt s8.h=.row [tv] 1 111 false 0 0 0:=by
  rw [k8 _ (by rw [n6] at n7;omega) (tvel _ _ _ _ _ _ _ _ t1 (by decide)),E7.get _ (by rw [n6];exact hktlt)]
  exact hkt6
 obtain ⟨s9,hs9⟩:∃ s9,s9=qj s8 ib.kt (.row [v3] 1 111 false 0 0 0):=⟨_,rfl⟩
 have n9:s9.nx=s8.nx:=by rw [hs9];rfl
 have hn:s.nx.toNat≤s9.nx.toNat:=by rw [n9];rw [n6] at n7;omega
 have hk:∀ c,c.toNat<s.nx.toNat→c≠ib.mm→c≠ib.kt→zC tv≠some c→Tr.get B.none c s9.h=Tr.get B.none c s.h:=fun c hc h1 h2 h3=>by
  rw [hs9,zm,if_neg h2,k8 c (by rw [n6] at n7;omega) h3,E7.get c (by rw [n6];exact hc),k6 c h1]
 have hrow:∀ c l n el mn f1 f2,c.toNat<s.nx.toNat→c≠ib.kt→Tr.get B.none c s.h=.row l n el false mn f1 f2→Tr.get B.none c s9.h=Tr.get B.none c s.h:=fun c l n el mn f1 f2 hc h2 hg=>by
  have g6:Tr.get B.none c s6.h=Tr.get B.none c s.h:=k6 c (zV hg hmk)
  have g7:Tr.get B.none c s7.h=Tr.get B.none c s.h:=(E7.get c (by rw [n6];exact hc)).trans g6
  rw [hs9,zm,if_neg h2,kr8 c _ _ _ _ _ _ (by rw [n6] at n7;omega) (g7.trans hg),g7]
 have hmk9:Tr.get B.none ib.mm s9.h=.map ((yr to (.ls 0 [u,w]) kck kl).map (toG qu)) ck':=by
  rw [hs9,zm,if_neg (fun e=>zV t1 hmk e.symm),k8 _ (by rw [n6] at n7;omega) (tvmap _ _ _ hmk),E7.get _ (by rw [n6];exact hmklt)]
  exact hmk6
 have hk3:∀ c,c.toNat<s.nx.toNat→(∃ l n gr mn f1 f2,Tr.get B.none c s.h=.row l n 3 gr mn f1 f2)→Tr.get B.none c s9.h=Tr.get B.none c s.h:=fun c hc ⟨_,_,_,_,_,_,hg⟩=>hk c hc (zV hg hmk) (qd hg t1 (by decide)) (tvel _ _ _ _ _ _ _ _ hg (by decide))
 refine ⟨tv,s6,v3,s8,s9,fun k=>?_,fun k=>zw hkt6 0 rfl (by omega) t2.ne k,?_,fun k=>?_,fun a l n el mn f1 f2 _ hg=>by rw [k6 _ (zV hg hmk)];exact hg,?_,hn,fun c l n el mn f1 f2 hc hel hg=>hrow c l n el mn f1 f2 hc (qd hg t1 (by rcases hel with rfl | rfl<;>decide)) hg⟩
 ·rw [zbo y5 D1.1,←hck',←hs6]
 ·rw [←hs7];exact e3
 ·rw [zan hkt8 0 v3 t8.cell (by omega)]
  show k Go.Ev.undef (qj s8 ib.kt (.row [v3] 1 111 false 0 0 0))=_
  rw [←hs9]
 ·have hD:∀ c,(c=ib.mm∨c=ib.kt∨zC tv=some c)→s0.nx.toNat≤c.toNat:=fun c hc=>by
   rcases hc with rfl | rfl | hc
   ·exact (h.rng ib.mm (by simp)).1
   ·exact (h.rng ib.kt (by simp)).1
   ·exact (t2.blk (hblk _ hc)).1
  refine ⟨Go.Ev.ext_of h.ext hn (D:=fun c=>c=ib.mm∨c=ib.kt∨zC tv=some c) (fun c hc hd=>hk c hc (fun e=>hd (.inl e)) (fun e=>hd (.inr (.inl e))) (fun e=>hd (.inr (.inr e)))) hD,?_,?_,?_,?_,⟨v3,?_,?_⟩,⟨ul,uck,?_,E1.keys,E1.one⟩,⟨_,_,hmk9,fun z=>?_⟩,fun c hc=>⟨(h.rng c hc).1,kaf (h.rng c hc).2 hn⟩,h.ne⟩
  ·rw [hrow _ _ _ _ _ _ _ (h.rng _ (by simp)).2 (qd h.u1 t1 (by decide)) h.u1];exact h.u1
  ·rw [hrow _ _ _ _ _ _ _ (h.rng _ (by simp)).2 (qd h.k1 t1 (by decide)) h.k1];exact h.k1
  ·rw [hrow _ _ _ _ _ _ _ (h.rng _ (by simp)).2 (qd h.f1 t1 (by decide)) h.f1];exact h.f1
  ·rw [hrow _ _ _ _ _ _ _ (h.rng _ (by simp)).2 (qd h.o1 t1 (by decide)) h.o1];exact h.o1
  ·rw [hs9,zm,if_pos rfl]
  ·refine t8.keep (by rw [n9];exact kab _) fun c hc=>?_
   obtain ⟨-,-,_,_,_,_,_,_,c3⟩:=t8.blk hc
   rw [hs9,zm,if_neg (qd c3 hkt8 (by decide))]
  ·unfold yj
   rw [hk _ (h.rng _ (by simp)).2 h.ne (fun e=>zV t1 hmu e.symm) (tvmap _ _ _ hmu)];exact hmu
  ·unfold wX
   rw [zas]
   by_cases g:z=to
   ·rw [if_pos g,if_pos g]
    refine ⟨(fun e=>by cases e),fun d' hd'=>?_⟩
    cases hd'
    exact ⟨u,w,rfl,hu.keep hn hk3,hw.keep hn hk3⟩
   ·rw [if_neg g,if_neg g]
    refine ⟨(D1.2 z).1,fun d' hd'=>?_⟩
    obtain ⟨a,b,h1,h2,h3⟩:=(D1.2 z).2 d' hd'
    exact ⟨a,b,h1,h2.keep hn hk3,h3.keep hn hk3⟩
structure IcX where
 s0:S
 ib:IB
 ends:List Pr
 td:List Pr
 dl:Pr→Option Dl
 ok:Bool
 fr:Pr
 d:Dl
 to:Pr
 x:V
 y:V
 wx:List Int
 wy:List Int
def IcX.pre (c:IcX) (a:List V) (s:S):Prop:=a=[qu c.to,c.x,c.y,.ptr c.ib.ku 0 0,.ptr c.ib.kk 0 0,.ptr c.ib.kf 0 0,.ptr c.ib.ko 0 0,.ptr c.ib.kt 0 0]∧ISt c.s0 s c.ib c.ends c.td c.dl c.ok c.fr∧c.dl c.fr=some c.d∧zZ s c.x∧zZ s c.y∧word s c.x=c.wx∧word s c.y=c.wy∧c.td.length+1≤68719476736 ∧
 c.d.1.length+c.wx.length≤68719476736∧c.d.2.length+c.wy.length≤68719476736
def IcX.nd (c:IcX):Dl:=qK (c.d.1++c.wx) (c.d.2++c.wy)
def zb4 (dl:Pr→Option Dl) (to:Pr) (d':Dl):Bool:=(decide (0<d'.1.length) && decide (0<d'.2.length)) || (match dl to with | none=>false | some d0=>decide (d'.1≠d0.1) || decide (d'.2≠d0.2))
def IcX.post (c:IcX) (s:S) (_:V) (s':S):Prop:=ISt c.s0 s' c.ib c.ends (if c.to∈c.ends∧c.dl c.to=none then c.td++[c.to] else c.td) (if c.to∈c.ends∧c.dl c.to=none then wX c.dl c.to c.nd else c.dl) (if c.to∈c.ends then c.ok && !zb4 c.dl c.to c.nd else c.ok) c.fr∧FrB s s'
noncomputable def KB5:Nat→Ct
 | 57=>ctI IcX.pre IcX.post
 | f=>KB4 f
theorem zOr {pre:X→List V→S→Prop} {post:X→S→V→S→Prop} (hK:KB5 f=ctI pre post) (h:∀ x a s,pre x a s→∃ v s',(fnC zj f).run (Rk Tryz.prog KB5 L) a s=.ret v s'∧post x s v s'):zL Tryz.prog KB5 f:=zaj zG.1 zG.2 hK h
theorem ISt.loads {s:S} {ok:Bool} {fr:Pr} (h:ISt s0 s ib ends td dl ok fr):(∀ k:V→S→Go.Ev.A,zd false 1 (.ptr ib.ku 0 0) s k=k (.ref 0 ib.mu) s)∧(∀ k:V→S→Go.Ev.A,zd false 1 (.ptr ib.kk 0 0) s k=k (.ref 0 ib.mm) s)∧(∀ k:V→S→Go.Ev.A,zd true 2 (.ptr ib.kf 0 0) s k=k (.ls 0 (pC fr)) s) ∧
  (∀ k:V→S→Go.Ev.A,zd false 1 (.ptr ib.ko 0 0) s k=k (.bool ok) s) ∧
  (∀ (z:Pr) (c:V→Go.Ev.A),z4 ⟨6,[7,7]⟩ (iv .i64 0) false (.ref 0 ib.mu) (.ls 0 (pC z)) s c=c (if z∈ends then iv .i64 1 else iv .i64 0))∧(∃ tv,(∀ k:V→S→Go.Ev.A,zd false 1 (.ptr ib.kt 0 0) s k=k tv s)∧TdV s0 s tv td) ∧
  ∀ z,(dl z=none→∀ (zero:V) (c:V→Go.Ev.A),z4 ⟨6,[7,7]⟩ zero true (.ref 0 ib.mm) (.ls 0 (pC z)) s c=c (.ls 1 [zero,.bool false]))∧∀ d,dl z=some d→∃ a b,NW s a d.1∧NW s b d.2∧(∀ (zero:V) (c:V→Go.Ev.A),z4 ⟨6,[7,7]⟩ zero true (.ref 0 ib.mm) (.ls 0 (pC z)) s c=c (.ls 1 [.ls 0 [a,b],.bool true]))∧∀ (zero:V) (c:V→Go.Ev.A),z4 ⟨6,[7,7]⟩ zero false (.ref 0 ib.mm) (.ls 0 (pC z)) s c=c (.ls 0 [a,b]):=by
 obtain ⟨tv,t1,t2⟩:=h.t1
 obtain ⟨ul,uck,E1⟩:=h.e1
 obtain ⟨kl,kck,D1⟩:=h.d1
 refine ⟨fun k=>zw h.u1 0 rfl (by omega) (fun e=>by cases e) k,fun k=>zw h.k1 0 rfl (by omega) (fun e=>by cases e) k,fun k=>qT h.f1 rfl (jO fr) k,fun k=>zw h.o1 0 rfl (by omega) (fun e=>by cases e) k,fun z c=>?_,⟨tv,fun k=>zw t1 0 rfl (by omega) t2.ne k,t2⟩,fun z=>⟨fun hz zero c=>?_,fun d hd=>?_⟩⟩
 ·rw [←y4,zcn y5 E1.at_,E1.get]
 ·rw [←y4,zj3 y5 D1.1,(D1.2 z).1 hz];rfl
 ·obtain ⟨a,b,h1,h2,h3⟩:=(D1.2 z).2 d hd
  refine ⟨a,b,h2,h3,fun zero c=>?_,fun zero c=>?_⟩
  ·rw [←y4,zj3 y5 D1.1,h1];rfl
  ·rw [←y4,zcn y5 D1.1,h1];rfl
theorem zJU:zL Tryz.prog KB5 57:=by
 refine zOr (L:=noL) (X:=IcX) rfl ?_
 rintro ⟨s0,ib,ends,td,dl,ok,fr,d,to,x,y,wx,wy⟩ a s ⟨rfl,hI,hd,hx,hy,hwx,hwy,hl1,hl2,hl3⟩
 have hM:=qV (zQ (L:=noL) (show zL Tryz.prog KB5 58 from zMl)) (X:=V × V × V × V) rfl
 have hB:=qV (zQ (L:=noL) (show zL Tryz.prog KB5 59 from zIx)) (X:=V × V) rfl
 have hQ:=zQ (L:=noL) (show zL Tryz.prog KB5 40 from zCP)
 generalize Rk Tryz.prog _ _=r at hM hB hQ ⊢
 simp only at hI hd hx hy hwx hwy hl1 hl2 hl3
 show ∃ v s',_∧ISt s0 s' ib ends (if to∈ends∧dl to=none then td++[to] else td) (if to∈ends∧dl to=none then wX dl to (qK (d.1++wx) (d.2++wy)) else dl) (if to∈ends then ok && !zb4 dl to (qK (d.1++wx) (d.2++wy)) else ok) fr∧FrB s s'
 obtain ⟨s1,hs1,E1,n1,g1⟩:=nB s (.row (pC to) 2 107 false 0 0 0)
 have I1:=hI.later E1
 obtain ⟨l1,l2,l3,l4,q1,-,q3⟩:=I1.loads
 have q1:=q1 to
 have lp:=fun k:V→S→Go.Ev.A=>qT g1 rfl (jO to) k
 have cl:∀ (c:List V→Go.Ev.A) (z:Pr),zp 2 (.ls 0 (pC z)) c=c (pC z):=fun c z=>qR 2 _ rfl c
 have up:∀ (w:Pr),upd (pC w) 0 [iv .i64 0,iv .i64 0]=pC w:=fun w=>rfl
 have nr:∀ (s:S) (w:Pr) (c:Go.Ev.K→Nat→S→Go.Ev.A),Go.Ev.newRow s 107 (pC w) false c=c s.nx 2 (zN s (.row (pC w) 2 107 false 0 0 0)):=fun s w c=>zo s 107 (pC w) false c
 rw [y4]
 generalize hF:(fnC zj 57).run r _ _=F0
 by_cases hto:to∈ends
 case neg =>
  rw [if_neg hto] at q1
  simp -implicitDefEqProofs [za8,cl,nr,←hs1,l1,lp,q1] at hF
  refine ⟨_,s1,hF.symm,?_⟩
  rw [if_neg (fun h=>hto h.1),if_neg (fun h=>hto h.1),if_neg hto]
  exact ⟨I1,FrB.of_ext E1⟩
 case pos =>
 rw [if_pos hto] at q1
 obtain ⟨ax,ay,ha,hb,-,q4⟩:=(q3 fr).2 d hd
 obtain ⟨v8,s2,e8,E2,u,w,rfl,hu,hw⟩:=hM (ax,ay,x,y) _ s1 ⟨rfl,ha.1,hb.1,(hx.ext E1).1,(hy.ext E1).1,by rw [←zA s1 ax,ha.2.1,←zA s x,hwx];exact hl2,by rw [←zA s1 ay,hb.2.1,←zA s y,hwy];exact hl3⟩
 rw [ha.2.1,hb.2.1,hx.word E1,hy.word E1,hwx,hwy] at hu hw
 generalize hD:qK (d.1++wx) (d.2++wy)=d' at hu hw ⊢
 obtain ⟨s3,hs3,E3,n3,g3⟩:=nB s2 (.row [u,w] 2 109 false 0 0 0)
 have n2:=E2.nx
 have st3:=fun k:V→S→Go.Ev.A=>qX s2 109 2 [.nil 1,.nil 1] [u,w] rfl rfl k
 rw [←hs3] at st3
 have I3:=I1.later (E2.trans E3)
 obtain ⟨-,m2,-,-,-,-,m3⟩:=I3.loads
 have g1c:Tr.get B.none s.nx s3.h=.row (pC to) 2 107 false 0 0 0:=by rw [E3.get _ (by omega),E2.get _ (by omega)];exact g1
 have lp3:=fun k:V→S→Go.Ev.A=>qT g1c rfl (jO to) k
 have uw:∀ y∈[u,w],y≠.bad:=fun y hy=>by
  rcases kaj.1 hy with rfl | hy
  ·exact hu.1.ne
  ·rcases kag.1 hy with rfl
   exact hw.1.ne
 have nr9:∀ (s:S) (c:Go.Ev.K→Nat→S→Go.Ev.A),Go.Ev.newRow s 109 [.nil 1,.nil 1] false c=c s.nx 2 (zN s (.row [.nil 1,.nil 1] 2 109 false 0 0 0)):=fun s c=>zo s 109 _ false c
 -- what was known of the pair
 have known:∃ (a' b':V) (w1 w2:List Int),(∀ c:V→Go.Ev.A,z4 ⟨6,[7,7]⟩ (.ls 0 [.nil 1,.nil 1]) true (.ref 0 ib.mm) (.ls 0 (pC to)) s3 c=c (.ls 1 [.ls 0 [a',b'],.bool (dl to).isSome]))∧NW s3 a' w1∧NW s3 b' w2∧∀ d0,dl to=some d0→w1=d0.1∧w2=d0.2:=by
  cases hh:dl to with
  | none=>exact ⟨.nil 1,.nil 1,[],[],fun c=>(m3 to).1 hh _ c,NW.nil _,NW.nil _,fun d0 e=>by cases e⟩
  | some d0 =>
   obtain ⟨a',b',h1,h2,h3,-⟩:=(m3 to).2 d0 hh
   exact ⟨a',b',d0.1,d0.2,fun c=>h3 _ c,h1,h2,fun d1 e=>by cases e;exact ⟨rfl,rfl⟩⟩
 obtain ⟨a',b',w1,w2,q5,ha',hb',hkn⟩:=known
 obtain ⟨s4,hs4,E4,n4,-⟩:=nB s3 (.row [a',b'] 2 109 false 0 0 0)
 have st4:=fun k:V→S→Go.Ev.A=>qX s3 109 2 [.nil 1,.nil 1] [a',b'] rfl rfl k
 rw [←hs4] at st4
 have g3b:Tr.get B.none s2.nx s4.h=.row [u,w] 2 109 false 0 0 0:=by rw [E4.get _ (by omega)];exact g3
 have lu4:=fun k:V→S→Go.Ev.A=>qT g3b rfl uw k
 obtain ⟨v9,s5,e9,E5,hv9⟩:=hB (u,w) _ s4 ⟨rfl,(hu.ext (E3.trans E4)).1,(hw.ext (E3.trans E4)).1⟩
 have n5:=E5.nx
 have hlu:zb u=d'.1.length:=by rw [←zA s2 u,hu.2.1]
 have hlw:zb w=d'.2.length:=by rw [←zA s2 w,hw.2.1]
 rw [hlu,hlw] at hv9
 have I5:=I3.later (E4.trans E5)
 have hu5:=hu.ext (E3.trans (E4.trans E5))
 have hw5:=hw.ext (E3.trans (E4.trans E5))
 have ha5:=ha'.ext (E4.trans E5)
 have hb5:=hb'.ext (E4.trans E5)
 have g3d:Tr.get B.none s2.nx s5.h=.row [u,w] 2 109 false 0 0 0:=by rw [E5.get _ (by omega)];exact g3b
 have g4d:Tr.get B.none s3.nx s5.h=.row [a',b'] 2 109 false 0 0 0:=by rw [E5.get _ (by omega),hs4];exact zx _ _
 have g1d:Tr.get B.none s.nx s5.h=.row (pC to) 2 107 false 0 0 0:=by rw [E5.get _ (by omega),E4.get _ (by omega)];exact g1c
 have f0:=fun k:V→S→Go.Ev.A=>zw g3d 0 rfl (by omega) (show u≠.bad from hu.1.ne) k
 have f1:=fun k:V→S→Go.Ev.A=>zw g3d 1 rfl (by omega) (show w≠.bad from hw.1.ne) k
 have f2:=fun k:V→S→Go.Ev.A=>zw g4d 0 rfl (by omega) (show a'≠.bad from ha'.1.ne) k
 have f3:=fun k:V→S→Go.Ev.A=>zw g4d 1 rfl (by omega) (show b'≠.bad from hb'.1.ne) k
 simp only [List.getD_cons_zero,List.getD_cons_succ] at f0 f1 f2 f3
 obtain ⟨ve1,se1,eq1,hq1⟩:=hQ [u,a'] s5 ⟨u,a',rfl,hu5.1,ha5.1⟩
 obtain ⟨hs1',hv1'⟩:=hq1 u a' rfl
 rw [hs1',hv1'] at eq1
 obtain ⟨ve2,se2,eq2,hq2⟩:=hQ [w,b'] s5 ⟨w,b',rfl,hw5.1,hb5.1⟩
 obtain ⟨hs2',hv2'⟩:=hq2 w b' rfl
 rw [hs2',hv2'] at eq2
 rw [hu5.2.1,ha5.2.1] at eq1
 rw [hw5.2.1,hb5.2.1] at eq2
 have F5:FrB s s5:=FrB.of_ext ((E1.trans E2).trans (E3.trans (E4.trans E5)))
 -- the last part
 have fin1:∀ (s6:S) (ok':Bool),ISt s0 s6 ib ends td dl ok' fr→s5.nx.toNat≤s6.nx.toNat→(∀ c l n el mn f1 f2,c≠ib.ko→Tr.get B.none c s5.h=.row l n el false mn f1 f2→Tr.get B.none c s6.h=Tr.get B.none c s5.h)→NW s6 u d'.1→NW s6 w d'.2→dl to=none →
   ∃ tv s7 v3 s8 s9,(∀ k:V→S→Go.Ev.A,zd false 1 (.ptr ib.kk 0 0) s6 k=k (.ref 0 ib.mm) s6)∧(∀ k:V→S→Go.Ev.A,zd true 2 (.ptr s.nx 0 0) s6 k=k (.ls 0 (pC to)) s6)∧(∀ k:V→S→Go.Ev.A,zd true 2 (.ptr s2.nx 0 0) s6 k=k (.ls 0 [u,w]) s6)∧(∀ k:V→S→Go.Ev.A,qw ⟨6,[7,7]⟩ (.ref 0 ib.mm) (.ls 0 (pC to)) (.ls 0 [u,w]) s6 k=k Go.Ev.undef s7)∧(∀ k:V→S→Go.Ev.A,zd true 2 (.ptr s.nx 0 0) s7 k=k (.ls 0 (pC to)) s7) ∧
    (∀ k:V→S→Go.Ev.A,zd false 1 (.ptr ib.kt 0 0) s7 k=k tv s7)∧(∀ k:V→S→Go.Ev.A,zP 107 2 tv (.sl s7.nx 0 0 1 1) (zN s7 (.row (pC to) 2 107 false 0 0 0)) k=k v3 s8)∧(∀ k:V→S→Go.Ev.A,zJ 1 (.ptr ib.kt 0 0) v3 s8 k=k Go.Ev.undef s9)∧ISt s0 s9 ib ends (td++[to]) (wX dl to d') ok' fr∧FrB s6 s9:=by
  intro s6 ok' I6 n6 k6 hu6 hw6 hn
  obtain ⟨tv,s7,v3,s8,s9,a1,a2,a3,a4,a5,I9,F9⟩:=I6.learn hn hu6 hw6 hl1
  have hko:=(hI.rng ib.ko (by simp)).2
  have g16:Tr.get B.none s.nx s6.h=.row (pC to) 2 107 false 0 0 0:=(k6 _ _ _ _ _ _ _ (fun e=>by rw [←e] at hko;omega) g1d).trans g1d
  have g36:Tr.get B.none s2.nx s6.h=.row [u,w] 2 109 false 0 0 0:=(k6 _ _ _ _ _ _ _ (fun e=>by rw [←e] at hko;omega) g3d).trans g3d
  exact ⟨tv,s7,v3,s8,s9,I6.loads.2.1,fun k=>qT g16 rfl (jO to) k,fun k=>qT g36 rfl uw k,fun k=>by rw [←y4];exact a1 k,fun k=>qT (a5 _ _ _ _ _ _ _ (by omega) g16) rfl (jO to) k,a2,a3,a4,I9,F9⟩
 have okI:=I5.setOk false
 obtain ⟨okE,I6,F6⟩:=okI
 have k6:∀ c l n el mn f1 f2,c≠ib.ko→Tr.get B.none c s5.h=.row l n el false mn f1 f2→Tr.get B.none c (qj s5 ib.ko (.row [.bool false] 1 4 false 0 0 0)).h=Tr.get B.none c s5.h:=fun c l n el mn f1 f2 hc _=>by rw [zm,if_neg hc]
 have hu6:NW (qj s5 ib.ko (.row [.bool false] 1 4 false 0 0 0)) u d'.1:=hu5.keep (kab _) fun c hc ⟨_,_,_,_,_,_,hg⟩=>by rw [zm,if_neg (qd hg I5.o1 (by decide))]
 have hw6:NW (qj s5 ib.ko (.row [.bool false] 1 4 false 0 0 0)) w d'.2:=hw5.keep (kab _) fun c hc ⟨_,_,_,_,_,_,hg⟩=>by rw [zm,if_neg (qd hg I5.o1 (by decide))]
 have n6:s5.nx.toNat≤(qj s5 ib.ko (.row [.bool false] 1 4 false 0 0 0)).nx.toNat:=kab _
 generalize qj s5 ib.ko (.row [.bool false] 1 4 false 0 0 0)=s6 at okE I6 k6 hu6 hw6 n6 F6
 by_cases hbr:0<d'.1.length∧0<d'.2.length
 ·have hv:v9=.bool true:=by rw [hv9];simp [hbr.1,hbr.2]
  subst hv
  have hbad:zb4 dl to d'=true:=by unfold zb4;simp [hbr.1,hbr.2]
  cases hh:dl to with
  | none =>
   rw [hh] at q5
   obtain ⟨tv,s7,v3,s8,s9,b1,b2,b3,b4,b5,b6,b7,b8,I9,F9⟩:=fin1 s6 false I6 n6 k6 hu6 hw6 hh
   simp -implicitDefEqProofs [za8,cl,nr,←hs1,l1,l2,l3,lp,q1,q4,e8,nr9,st3,m2,lp3,q5,st4,lu4,e9,okE,b1,b2,b3,b4,b5,b6,b7,b8,rep,up] at hF
   refine ⟨_,s9,hF.symm,?_⟩
   rw [if_pos ⟨hto,rfl⟩,if_pos ⟨hto,rfl⟩,if_pos hto,hbad]
   exact ⟨by simpa using I9,(F5.trans F6).trans F9⟩
  | some d0 =>
   rw [hh] at q5
   simp -implicitDefEqProofs [za8,cl,nr,←hs1,l1,l2,l3,lp,q1,q4,e8,nr9,st3,m2,lp3,q5,st4,lu4,e9,okE] at hF
   refine ⟨_,s6,hF.symm,?_⟩
   rw [if_neg (fun h=>by cases h.2),if_neg (fun h=>by cases h.2),if_pos hto,hbad]
   exact ⟨by simpa using I6,F5.trans F6⟩
 ·have hv:v9=.bool false:=by
   rw [hv9]
   by_cases g:0<d'.1.length
   ·simp [show ¬0<d'.2.length from fun h=>hbr ⟨g,h⟩]
   ·simp [g]
  subst hv
  have hbb:(decide (0<d'.1.length) && decide (0<d'.2.length))=false:=by
   by_cases g:0<d'.1.length
   ·simp [show ¬0<d'.2.length from fun h=>hbr ⟨g,h⟩]
   ·simp [g]
  cases hh:dl to with
  | none =>
   rw [hh] at q5
   have hbad:zb4 dl to d'=false:=by unfold zb4;rw [hbb,hh];rfl
   obtain ⟨tv,s7,v3,s8,s9,b1,b2,b3,b4,b5,b6,b7,b8,I9,F9⟩:=fin1 s5 ok I5 (kab _) (fun _ _ _ _ _ _ _ _ _=>rfl) hu5 hw5 hh
   simp -implicitDefEqProofs [za8,cl,nr,←hs1,l1,l2,l3,lp,q1,q4,e8,nr9,st3,m2,lp3,q5,st4,lu4,e9,b1,b2,b3,b4,b5,b6,b7,b8,rep,up] at hF
   refine ⟨_,s9,hF.symm,?_⟩
   rw [if_pos ⟨hto,rfl⟩,if_pos ⟨hto,rfl⟩,if_pos hto,hbad]
   exact ⟨by simpa using I9,F5.trans F9⟩
  | some d0 =>
   rw [hh] at q5
   obtain ⟨h1,h2⟩:=hkn d0 hh
   subst h1 h2
   have c0:∀ P:Prop,(to∈ends∧(some d0=none))=False:=fun P=>eq_false (fun h=>by cases h.2)
   by_cases k1:d'.1=d0.1
   ·by_cases k2:d'.2=d0.2
    ·have hbad:zb4 dl to d'=false:=by unfold zb4;rw [hbb,hh];simp [k1,k2]
     rw [k1,decide_eq_true rfl] at eq1
     rw [k2,decide_eq_true rfl] at eq2
     simp -implicitDefEqProofs [za8,cl,nr,←hs1,l1,l2,l3,lp,q1,q4,e8,nr9,st3,m2,lp3,q5,st4,lu4,e9,f0,f1,f2,f3,eq1,eq2] at hF
     refine ⟨_,s5,hF.symm,?_⟩
     rw [if_neg (fun h=>by cases h.2),if_neg (fun h=>by cases h.2),if_pos hto,hbad]
     exact ⟨by simpa using I5,F5⟩
    ·have hbad:zb4 dl to d'=true:=by unfold zb4;rw [hbb,hh];simp [k1,k2]
     rw [k1,decide_eq_true rfl] at eq1
     rw [decide_eq_false k2] at eq2
     simp -implicitDefEqProofs [za8,cl,nr,←hs1,l1,l2,l3,lp,q1,q4,e8,nr9,st3,m2,lp3,q5,st4,lu4,e9,f0,f1,f2,f3,eq1,eq2,okE] at hF
     refine ⟨_,s6,hF.symm,?_⟩
     rw [if_neg (fun h=>by cases h.2),if_neg (fun h=>by cases h.2),if_pos hto,hbad]
     exact ⟨by simpa using I6,F5.trans F6⟩
   ·have hbad:zb4 dl to d'=true:=by unfold zb4;rw [hbb,hh];simp [k1]
    rw [decide_eq_false k1] at eq1
    simp -implicitDefEqProofs [za8,cl,nr,←hs1,l1,l2,l3,lp,q1,q4,e8,nr9,st3,m2,lp3,q5,st4,lu4,e9,f0,f2,eq1,okE] at hF
    refine ⟨_,s6,hF.symm,?_⟩
    rw [if_neg (fun h=>by cases h.2),if_neg (fun h=>by cases h.2),if_pos hto,hbad]
    exact ⟨by simpa using I6,F5.trans F6⟩
def GRd (s:S) (gk:Go.Ev.K) (G:List PS) (vS vF:V) (sv:Nat→V):Prop:=∃ (b:S) (nd:Nd) (nm:Go.Ev.K) (nl:LG (List Nat)) (nc:Nat) (D:List SD) (vR:V) (el:Nat),GD b s nd gk nm D nl nc vS vF vR el∧D.map SD.p=G∧∀ q d,D[q]?=some d→sv q=d.sv
variable {gk:Go.Ev.K} {G:List PS}
theorem GR.rd {s:S} {nd:Nd} {nm:Go.Ev.K} {nl:LG (List Nat)} {nc:Nat} {rb:Go.Ev.K→Prop} (h:GR b s nd gk nm G nl nc rb):∃ vS vF sv,GRd s gk G vS vF sv:=by
 obtain ⟨D,vS,vF,vR,el,h1,h2,-⟩:=h
 exact ⟨vS,vF,fun q=>(D[q]?.map SD.sv).getD .bad,b,nd,nm,nl,nc,D,vR,el,h1,h2,fun q d hd=>by simp [hd]⟩
variable {vF vS:V}
theorem GRd.later {s s':S} {sv:Nat→V} (h:GRd s gk G vS vF sv) (e:Ext s s'):GRd s' gk G vS vF sv:=by
 obtain ⟨b,nd,nm,nl,nc,D,vR,el,h1,h2,h3⟩:=h
 exact ⟨b,nd,nm,nl,nc,D,vR,el,h1.later e,h2,h3⟩
theorem GRd.at_ {s:S} {sv:Nat→V} (h:GRd s gk G vS vF sv):(∀ k:V→S→Go.Ev.A,zd false 1 (.ptr gk 0 0) s k=k vS s)∧(∀ k:V→S→Go.Ev.A,zd false 1 (.ptr gk 0 1) s k=k vF s) ∧
  ∀ (q:Nat) (x:PS),G[q]?=some x→(∀ kk (f:V→Go.Ev.A),zg 1 vS (iv kk (q:Int)) f=f (jy vS q))∧(∀ k:V→S→Go.Ev.A,zd false 1 (jy vS q) s k=k (sv q) s)∧(∀ kk (f:V→Go.Ev.A),zg 1 vF (iv kk (q:Int)) f=f (jy vF q))∧(∀ k:V→S→Go.Ev.A,zd false 1 (jy vF q) s k=k (.bool x.fl) s) ∧
   (∀ f:V→Go.Ev.A,zz (sv q) f=f (iv .i64 (x.st.length:Int)))∧∀ (i:Nat) (e:Stp),x.st[i]?=some e→∃ v,(∀ kk (f:V→Go.Ev.A),zg 3 (sv q) (iv kk (i:Int)) f=f (jy (sv q) (i*3)))∧(∀ f:V→S→Go.Ev.A,zd true 3 (jy (sv q) (i*3)) s f=f (.ls 0 [v,iv .i64 e.2.1,iv .i64 (e.2.2:Int)]) s)∧zZ s v∧word s v=e.1:=by
 obtain ⟨b,nd,nm,nl,nc,D,vR,el,hD,hG,hsv⟩:=h
 have hr:=hD.row
 refine ⟨fun k=>?_,fun k=>?_,fun q x hx=>?_⟩
 ·have:Pt s (.ptr gk 0 0) 1 (fun j=>([vS,vF,vR,.ref 0 nm]:List V).getD (0+j) .bad):=⟨gk,0,0,_,4,el,false,0,0,0,rfl,hr,rfl,qG.2 (.inr ⟨rfl,by omega⟩),fun j _=>rfl⟩
  exact this.load1 (by omega) hD.zS.nbad k
 ·have:Pt s (.ptr gk 0 1) 1 (fun j=>([vS,vF,vR,.ref 0 nm]:List V).getD (1+j) .bad):=⟨gk,0,1,_,4,el,false,0,0,0,rfl,hr,rfl,qG.2 (.inr ⟨rfl,by omega⟩),fun j _=>rfl⟩
  exact this.load1 (by omega) hD.zF.nbad k
 ·subst hG
  rw [kal,Option.map_eq_some_iff] at hx
  obtain ⟨d,hd,rfl⟩:=hx
  have hlt:q<D.length:=(kad.1 hd).1
  have hdm:d∈D:=kae hd
  rw [hsv q d hd]
  have hz:=hD.steps d hdm
  refine ⟨fun kk f=>by rw [hD.zS.idx (by rw [kai];exact hlt),kaK],fun k=>hD.zS.load1 (x:=d.sv) (by rw [kal,hd];rfl) hz.nbad k,fun kk f=>by rw [hD.zF.idx (by rw [kai];exact hlt),kaK],fun k=>hD.zF.load1 (x:=.bool d.fl) (by rw [kal,hd];rfl) (fun e=>by cases e) k,fun f=>?_,fun i e he=>?_⟩
  ·rw [hz.len,kai]
   simp [SD.p]
  ·have he':(d.st.map (·.2))[i]?=some e:=he
   rw [kal,Option.map_eq_some_iff] at he'
   obtain ⟨⟨v,e'⟩,h1,rfl⟩:=he'
   have hi:i<d.st.length:=(kad.1 h1).1
   obtain ⟨g1,g2,-⟩:=hD.ins d hdm (v,e') (kae h1)
   refine ⟨v,fun kk f=>hz.idx (by rw [kai];exact hi) kk f,fun f=>hz.load (x:=zwr (v,e')) (by rw [kal,h1];rfl) (fun y hy=>?_) f,g1,g2⟩
   simp only [zwr,kaj,List.not_mem_nil,or_false] at hy
   rcases hy with rfl | rfl | rfl
   ·exact g1.ne
   ·exact yN _ _
   ·exact yN _ _
def zgF (e:Stp) (ys:List Stp):List (Stp × Stp):=ys.filterMap fun e'=>if e.2.1=e'.2.1 then some (e,e') else none
def qq (xs ys:List Stp):List (Stp × Stp):=xs.flatMap fun e=>zgF e ys
theorem zrZ {α:Type} {l:List α} {x:α} (h:l[i]?=some x):l.take (i+1)=l.take i++[x]:=by rw [List.take_add_one,h];rfl
variable {ys:List Stp} {j:Nat} {e e':Stp}
theorem zIm (h:ys[j]?=some e'):zgF e (ys.take (j+1))=zgF e (ys.take j)++(if e.2.1=e'.2.1 then [(e,e')] else []):=by
 unfold zgF
 rw [zrZ h,List.filterMap_append]
 congr 1
 by_cases g:e.2.1=e'.2.1<;>simp [g]
variable {xs:List Stp}
theorem zld (h:xs[i]?=some e):qq (xs.take (i+1)) ys=qq (xs.take i) ys++zgF e ys:=by
 unfold qq
 rw [zrZ h,List.flatMap_append]
 simp
theorem zJV (e:Stp) (ys:List Stp) (j:Nat):zgF e (ys.take j) <+: zgF e ys:=by
 refine ⟨zgF e (ys.drop j),?_⟩
 unfold zgF
 rw [←List.filterMap_append,List.take_append_drop]
theorem zFq (xs ys:List Stp) (i:Nat):qq (xs.take i) ys <+: qq xs ys:=by
 refine ⟨qq (xs.drop i) ys,?_⟩
 unfold qq
 rw [←List.flatMap_append,List.take_append_drop]
theorem zJ0 (e:Stp) (ys:List Stp):(zgF e ys).length≤ys.length:=List.length_filterMap_le _ _
theorem zpt (xs ys:List Stp):(qq xs ys).length≤xs.length*ys.length:=by
 induction xs with
 | nil=>simp [qq]
 | cons x xs ih =>
  have:qq (x::xs) ys=zgF x ys++qq xs ys:=by simp [qq]
  rw [this,kah,kaH,Nat.add_mul]
  have:=zJ0 x ys
  omega
theorem zbc:(e,e')∈qq xs ys↔e∈xs∧e'∈ys∧e.2.1=e'.2.1:=by
 unfold qq zgF
 simp only [List.mem_flatMap,List.mem_filterMap]
 constructor
 ·rintro ⟨a,ha,b,hb,h⟩
  split at h
  ·cases h;exact ⟨ha,hb,by assumption⟩
  ·cases h
 ·rintro ⟨h1,h2,h3⟩
  exact ⟨e,h1,e',h2,by rw [if_pos h3]⟩
structure EaX where
 s0:S
 gk:Go.Ev.K
 G:List PS
 p:Nat
 q:Nat
 xp:PS
 xq:PS
 vis:Nat
 caps:List V
 J:List (Stp × Stp)→S→Prop
def EaX.ok (c:EaX):Prop:=(c.vis=100∨c.vis=57)∧(∃ vS vF sv,GRd c.s0 c.gk c.G vS vF sv)∧c.G[c.p]?=some c.xp∧c.G[c.q]?=some c.xq∧c.xp.st.length≤12∧c.xq.st.length≤12∧(∀ dn s,c.J dn s→Ext c.s0 s)∧(∀ dn s s',c.J dn s→Ext s s'→c.J dn s') ∧
 ∀ dn s e e' x y,c.J dn s→dn++[(e,e')] <+: qq c.xp.st c.xq.st→zZ s x→word s x=e.1→zZ s y→word s y=e'.1→(KB5 c.vis).pre ([qu (e.2.2,e'.2.2),x,y]++c.caps) s∧∀ v s',(KB5 c.vis).post ([qu (e.2.2,e'.2.2),x,y]++c.caps) s v s'→c.J (dn++[(e,e')]) s'∧FrB s s'
def EaX.pre (c:EaX) (a:List V) (s:S):Prop:=a=[.ptr c.gk 0 0,qu (c.p,c.q),.fn (.func c.vis) [] c.caps]∧c.ok∧c.J [] s
def EaX.post (c:EaX) (_:S) (_:V) (s':S):Prop:=c.J (qq c.xp.st c.xq.st) s'
noncomputable def KB6:Nat→Ct
 | 56=>ctI EaX.pre EaX.post
 | f=>KB5 f
structure EaL where
 c:EaX
 vS:V
 vF:V
 sv:Nat→V
 kb:Go.Ev.K
 i:Nat
 e:Stp
 iw:V
 ke:Go.Ev.K
def EaL.base (x:EaL) (s:S):Prop:=x.c.ok∧GRd x.c.s0 x.c.gk x.c.G x.vS x.vF x.sv∧x.kb.toNat<s.nx.toNat∧Tr.get B.none x.kb s.h=.row (pC (x.c.p,x.c.q)) 2 107 false 0 0 0
def EaL.fr (x:EaL) (tm:T):Prop:=gp 0 tm=.ptr x.c.gk 0 0∧gp 2 tm=.fn (.func x.c.vis) [] x.c.caps∧gp 4 tm=.ptr x.kb 0 0∧gp 240 tm=.bad∧gp 10 tm=x.sv x.c.p∧gp 11 tm=iv .i64 (x.c.xp.st.length:Int)
def EaL.pre5 (x:EaL) (tm:T) (s:S):Prop:=x.fr tm∧x.base s∧∃ i:Nat,i≤x.c.xp.st.length∧gp 12 tm=iv .i64 (i:Int)∧x.c.J (qq (x.c.xp.st.take i) x.c.xq.st) s
def EaL.post5 (x:EaL) (a:Go.Ev.A):Prop:=∃ tm s,a=.ext 0 tm s∧gp 240 tm=.bad∧x.c.J (qq x.c.xp.st x.c.xq.st) s
def EaL.in19 (x:EaL) (s:S):Prop:=x.base s∧x.ke.toNat<s.nx.toNat∧Tr.get B.none x.ke s.h=.row [x.iw,iv .i64 x.e.2.1,iv .i64 (x.e.2.2:Int)] 3 180 false 0 0 0∧x.c.xp.st[x.i]?=some x.e∧zZ x.c.s0 x.iw∧word x.c.s0 x.iw=x.e.1
def EaL.pre19 (x:EaL) (tm:T) (s:S):Prop:=x.fr tm∧x.in19 s∧gp 12 tm=iv .i64 (x.i:Int)∧gp 7 tm=.ptr x.ke 0 0∧gp 14 tm=x.sv x.c.q∧gp 15 tm=iv .i64 (x.c.xq.st.length:Int)∧∃ j:Nat,j≤x.c.xq.st.length∧gp 16 tm=iv .i64 (j:Int)∧x.c.J (qq (x.c.xp.st.take x.i) x.c.xq.st++zgF x.e (x.c.xq.st.take j)) s
def EaL.post19 (x:EaL) (a:Go.Ev.A):Prop:=∃ tm s,a=.ext 2 tm s∧x.fr tm∧x.base s∧gp 12 tm=iv .i64 (x.i:Int)∧x.c.J (qq (x.c.xp.st.take (x.i+1)) x.c.xq.st) s
noncomputable def zIt:Nat→Lt
 | 40=>ltI EaL.pre19 EaL.post19
 | _=>ltI EaL.pre5 EaL.post5
theorem zLX (hU:zL Tryz.prog KB6 100) (hI:zL Tryz.prog KB6 57):∀ (x:EaL) tm s,x.pre19 tm s→x.post19 (zdU.run (Rk Tryz.prog KB6 zIt) tm s):=by
 refine y9 (L:=zIt) zG.1 zG.2 zIr rfl (fun tm _=>13 - (toI (gp 16 tm)).toNat) (fun x a ⟨_,_,h,_⟩=>by rw [h];exact fun h=>h) ?_
 rintro x tm s ⟨⟨h0,h2,h4,h240,h10,h11⟩,⟨⟨hok,hG,hkb,hgb⟩,hke,hge,hxe,hiw,hww⟩,h12,h7,h14,h15,j,hj,h16,hJ⟩ IH
 show EaL.post19 _ (zdU.run _ tm _)
 have hV:zMW KB6 (Rk Tryz.prog KB6 zIt) x.c.vis:=by
  rcases hok.1 with e | e
  ·rw [e];exact zQ hU
  ·rw [e];exact zQ hI
 generalize Rk Tryz.prog _ _=r at IH hV ⊢
 obtain ⟨hvis,-,hp,hq,hl1,hl2,hJE,hJL,hJS⟩:=id hok
 have hE:=hJE _ _ hJ
 obtain ⟨-,-,hat⟩:=(hG.later hE).at_
 obtain ⟨-,-,-,-,-,hst⟩:=hat _ _ hq
 by_cases hlt:j<x.c.xq.st.length
 ·have hlt':((j:Int)<(x.c.xq.st.length:Int))=True:=eq_true (by omega)
  have hw:IntKind.i64.wrap ((j:Int)+1)=((j+1:Nat):Int):=by rw [z9 (by omega) (by omega)];omega
  obtain ⟨e',he'⟩:∃ e',x.c.xq.st[j]?=some e':=⟨_,kac hlt⟩
  obtain ⟨v,ix,ld,hv,hvw⟩:=hst j e' he'
  obtain ⟨s1,hs1,E1,n1,g1⟩:=nB s (.row [v,iv .i64 e'.2.1,iv .i64 (e'.2.2:Int)] 3 180 false 0 0 0)
  have st1:=fun k:V→S→Go.Ev.A=>qX s 180 3 [.nil 1,iv .i64 0,iv .i64 0] [v,iv .i64 e'.2.1,iv .i64 (e'.2.2:Int)] rfl rfl k
  rw [←hs1] at st1
  have nr:∀ (c:Go.Ev.K→Nat→S→Go.Ev.A),Go.Ev.newRow s 180 [.nil 1,iv .i64 0,iv .i64 0] false c=c s.nx 3 (zN s (.row [.nil 1,iv .i64 0,iv .i64 0] 3 180 false 0 0 0)):=fun c=>zo s 180 _ false c
  have ge1:Tr.get B.none x.ke s1.h=.row [x.iw,iv .i64 x.e.2.1,iv .i64 (x.e.2.2:Int)] 3 180 false 0 0 0:=by rw [E1.get _ hke];exact hge
  have gb1:Tr.get B.none x.kb s1.h=.row (pC (x.c.p,x.c.q)) 2 107 false 0 0 0:=by rw [E1.get _ hkb];exact hgb
  have hiw1:=hiw.ext (hE.trans E1)
  have a0:=fun k:V→S→Go.Ev.A=>zw ge1 0 rfl (by omega) (show x.iw≠.bad from hiw.ne) k
  have a1:=fun k:V→S→Go.Ev.A=>zw ge1 1 rfl (by omega) (show iv .i64 x.e.2.1≠.bad from yN _ _) k
  have a2:=fun k:V→S→Go.Ev.A=>zw ge1 2 rfl (by omega) (show iv .i64 (x.e.2.2:Int)≠.bad from yN _ _) k
  have b0:=fun k:V→S→Go.Ev.A=>zw g1 0 rfl (by omega) (show v≠.bad from hv.ne) k
  have b1:=fun k:V→S→Go.Ev.A=>zw g1 1 rfl (by omega) (show iv .i64 e'.2.1≠.bad from yN _ _) k
  have b2:=fun k:V→S→Go.Ev.A=>zw g1 2 rfl (by omega) (show iv .i64 (e'.2.2:Int)≠.bad from yN _ _) k
  simp only [List.getD_cons_zero,List.getD_cons_succ] at a0 a1 a2 b0 b1 b2
  have hv1:=zIm (e:=x.e) he'
  by_cases heq:x.e.2.1=e'.2.1
  ·rw [if_pos heq] at hv1
   have hpre:qq (x.c.xp.st.take x.i) x.c.xq.st++zgF x.e (x.c.xq.st.take j)++[(x.e,e')] <+: qq x.c.xp.st x.c.xq.st:=by
    rw [kat,←hv1]
    refine List.IsPrefix.trans ?_ (zFq x.c.xp.st x.c.xq.st (x.i+1))
    rw [zld hxe]
    exact (List.prefix_append_right_inj _).2 (zJV _ _ _)
   obtain ⟨c1,c2⟩:=hJS _ s1 x.e e' x.iw v (hJL _ _ _ hJ E1) hpre hiw1.1 ((hiw.word (hE.trans E1)).trans hww) (hv.ext E1).1 ((hv.word E1).trans hvw)
   have hK6:KB6 x.c.vis=KB5 x.c.vis:=by rcases hvis with e | e<;>rw [e]<;>rfl
   obtain ⟨v3,s3,e3,h3⟩:=hV _ s1 (by rw [hK6];exact c1)
   rw [hK6] at h3
   obtain ⟨J3,F3⟩:=c2 v3 s3 h3
   have cv:∀ (tm:T) (k:V→S→Go.Ev.A),jz r (.fn (.func x.c.vis) [] x.c.caps) [.ls 0 [iv .i64 (x.e.2.2:Int),iv .i64 (e'.2.2:Int)],x.iw,v] tm s1 k=k v3 s3:=fun tm k=>by
    rw [zDL]
    have:r.call x.c.vis ([]++([V.ls 0 [iv .i64 (x.e.2.2:Int),iv .i64 (e'.2.2:Int)],x.iw,v]++x.c.caps)) s1=.ret v3 s3:=e3
    rw [this,zIw]
   simp -implicitDefEqProofs [zi8,zft,h14,h15,h16,hlt',ix,ld,nr,st1,h7,a1,b1,heq,a2,b2,upd,put,a0,b0,h2,cv,-zDL,hw,-Int.natCast_add]
   refine IH x _ s3 ?_ ⟨⟨by simp [h0],by simp [h2],by simp [h4],by simp [h240],by simp [h10],by simp [h11]⟩,⟨⟨hok,hG,kaf (kaf hkb E1.nx) F3.1,?_⟩,kaf (kaf hke E1.nx) F3.1,?_,hxe,hiw,hww⟩,by simp [h12],by simp [h7],by simp [h14],by simp [h15],j+1,hlt,by simp,?_⟩
   ·rw [h16,zn];simp [zn,-Int.natCast_add];omega
   ·rw [F3.2 _ _ _ _ _ _ _ (kaf hkb E1.nx) (.inl rfl) gb1];exact gb1
   ·rw [F3.2 _ _ _ _ _ _ _ (kaf hke E1.nx) (.inr rfl) ge1];exact ge1
   ·rw [hv1,←kat];exact J3
  ·rw [if_neg heq,List.append_nil] at hv1
   simp -implicitDefEqProofs [zi8,zft,h14,h15,h16,hlt',ix,ld,nr,st1,h7,a1,b1,heq,hw,-Int.natCast_add]
   refine IH x _ s1 ?_ ⟨⟨by simp [h0],by simp [h2],by simp [h4],by simp [h240],by simp [h10],by simp [h11]⟩,⟨⟨hok,hG,kaf hkb E1.nx,gb1⟩,kaf hke E1.nx,ge1,hxe,hiw,hww⟩,by simp [h12],by simp [h7],by simp [h14],by simp [h15],j+1,hlt,by simp,?_⟩
   ·rw [h16,zn];simp [zn,-Int.natCast_add];omega
   ·rw [hv1];exact hJL _ _ _ hJ E1
 ·obtain rfl:j=x.c.xq.st.length:=by omega
  rw [List.take_length,←zld hxe] at hJ
  simp -implicitDefEqProofs [zi8,zft,h15,h16]
  exact ⟨_,_,rfl,⟨by simp [h0],by simp [h2],by simp [h4],by simp [h240],by simp [h10],by simp [h11]⟩,⟨hok,hG,hkb,hgb⟩,by simp [h12],hJ⟩
theorem zMV (hU:zL Tryz.prog KB6 100) (hI:zL Tryz.prog KB6 57):∀ (x:EaL) tm s,x.pre5 tm s→x.post5 (zit.run (Rk Tryz.prog KB6 zIt) tm s):=by
 refine y9 (L:=zIt) zG.1 zG.2 zKi rfl (fun tm _=>13 - (toI (gp 12 tm)).toNat) (fun x a ⟨_,_,h,_⟩=>by rw [h];exact fun h=>h) ?_
 rintro x tm s ⟨⟨h0,h2,h4,h240,h10,h11⟩,⟨hok,hG,hkb,hgb⟩,i,hi,h12,hJ⟩ IH
 show EaL.post5 _ (zit.run _ tm _)
 have h19:=zLX hU hI
 generalize Rk Tryz.prog _ _=r at IH h19 ⊢
 obtain ⟨hvis,-,hp,hq,hl1,hl2,hJE,hJL,hJS⟩:=id hok
 have hE:=hJE _ _ hJ
 by_cases hlt:i<x.c.xp.st.length
 ·have hlt':((i:Int)<(x.c.xp.st.length:Int))=True:=eq_true (by omega)
  have hw:IntKind.i64.wrap ((i:Int)+1)=((i+1:Nat):Int):=by rw [z9 (by omega) (by omega)];omega
  obtain ⟨-,-,hat⟩:=hG.at_
  obtain ⟨-,-,-,-,-,hst⟩:=hat _ _ hp
  obtain ⟨e,he⟩:∃ e,x.c.xp.st[i]?=some e:=⟨_,kac hlt⟩
  obtain ⟨v,-,-,hv,hvw⟩:=hst i e he
  obtain ⟨-,-,hat2⟩:=(hG.later hE).at_
  obtain ⟨-,-,-,-,-,hst2⟩:=hat2 _ _ hp
  obtain ⟨v',ix,ld,-,-⟩:=hst2 i e he
  -- the same slice at both states
  have hvv:∃ v0,(∀ kk (f:V→Go.Ev.A),zg 3 (x.sv x.c.p) (iv kk (i:Int)) f=f (jy (x.sv x.c.p) (i*3)))∧(∀ f:V→S→Go.Ev.A,zd true 3 (jy (x.sv x.c.p) (i*3)) s f=f (.ls 0 [v0,iv .i64 e.2.1,iv .i64 (e.2.2:Int)]) s)∧zZ x.c.s0 v0∧word x.c.s0 v0=e.1:=by
   obtain ⟨b,nd,nm,nl,nc,D,vR,el,hD,hGG,hsv⟩:=hG
   have hpx:=hp
   rw [←hGG,kal,Option.map_eq_some_iff] at hpx
   obtain ⟨d,hd,hdx⟩:=hpx
   rw [←hdx] at he hlt
   have he':(d.st.map (·.2))[i]?=some e:=he
   rw [kal,Option.map_eq_some_iff] at he'
   obtain ⟨⟨v0,e0⟩,k1,rfl⟩:=he'
   obtain ⟨g1,g2,-⟩:=hD.ins d (kae hd) (v0,e0) (kae k1)
   have hz:=((hD.later hE).steps d (kae hd))
   rw [hsv _ d hd]
   refine ⟨v0,fun kk f=>hz.idx (by rw [kai];exact (kad.1 k1).1) kk f,fun f=>hz.load (x:=zwr (v0,e0)) (by rw [kal,k1];rfl) (fun y hy=>?_) f,g1,g2⟩
   simp only [zwr,kaj,List.not_mem_nil,or_false] at hy
   rcases hy with rfl | rfl | rfl
   ·exact g1.ne
   ·exact yN _ _
   ·exact yN _ _
  clear ix ld hst hst2 hat hat2 hv hvw
  obtain ⟨v,ix,ld,hv,hvw⟩:=hvv
  obtain ⟨s1,hs1,E1,n1,g1⟩:=nB s (.row [v,iv .i64 e.2.1,iv .i64 (e.2.2:Int)] 3 180 false 0 0 0)
  have st1:=fun k:V→S→Go.Ev.A=>qX s 180 3 [.nil 1,iv .i64 0,iv .i64 0] [v,iv .i64 e.2.1,iv .i64 (e.2.2:Int)] rfl rfl k
  rw [←hs1] at st1
  have nr:∀ (c:Go.Ev.K→Nat→S→Go.Ev.A),Go.Ev.newRow s 180 [.nil 1,iv .i64 0,iv .i64 0] false c=c s.nx 3 (zN s (.row [.nil 1,iv .i64 0,iv .i64 0] 3 180 false 0 0 0)):=fun c=>zo s 180 _ false c
  have gb1:Tr.get B.none x.kb s1.h=.row (pC (x.c.p,x.c.q)) 2 107 false 0 0 0:=by rw [E1.get _ hkb];exact hgb
  obtain ⟨l1,-,hat⟩:=(hG.later (hE.trans E1)).at_
  obtain ⟨c1,c2,-,-,c3,-⟩:=hat _ _ hq
  have b1:=fun k:V→S→Go.Ev.A=>zw gb1 1 rfl (by omega) (show iv .i64 (x.c.q:Int)≠.bad from yN _ _) k
  simp only [pC,List.getD_cons_zero,List.getD_cons_succ] at b1
  simp -implicitDefEqProofs [zDH,zft,h10,h11,h12,hlt',ix,ld,nr,st1,h0,l1,h4,b1,c1,c2,c3,-Int.natCast_add]
  generalize hA:zdU.run r _ s1=A1
  obtain ⟨tm',s2,rfl,⟨k0,k2,k4,k240,k10,k11⟩,⟨-,-,kkb,kgb⟩,k12,kJ⟩:=hA▸h19 { x with i:=i,e:=e,iw:=v,ke:=s.nx } _ s1 ⟨⟨by simp [h0],by simp [h2],by simp [h4],by simp [h240],by simp [h10],by simp [h11]⟩,⟨⟨hok,hG,kaf hkb E1.nx,gb1⟩,by show s.nx.toNat<_;omega,g1,he,hv,hvw⟩,by simp [h12],by simp,by simp,by simp,0,Nat.zero_le _,by simp,by simpa [zgF] using hJL _ _ _ hJ E1⟩
  simp only at k0 k2 k4 k240 k10 k11 kkb kgb k12 kJ
  simp -implicitDefEqProofs [k12,hw,-Int.natCast_add]
  refine IH x _ s2 ?_ ⟨⟨by simp [k0],by simp [k2],by simp [k4],by simp [k240],by simp [k10],by simp [k11]⟩,⟨hok,hG,kkb,kgb⟩,i+1,hlt,by simp,kJ⟩
  rw [h12,zn];simp [zn,-Int.natCast_add];omega
 ·obtain rfl:i=x.c.xp.st.length:=by omega
  rw [List.take_length] at hJ
  simp -implicitDefEqProofs [zDH,zft,h11,h12]
  exact ⟨_,_,rfl,by simp [h240],hJ⟩
theorem zHF:zL Tryz.prog KB6 56:=by
 have hU:zL Tryz.prog KB6 100:=zFd
 have hI:zL Tryz.prog KB6 57:=zJU
 refine zaj (L:=zIt) zG.1 zG.2 (X:=EaX) rfl ?_
 rintro c a s ⟨rfl,hok,hJ⟩
 have h5:=zMV hU hI
 generalize Rk Tryz.prog _ _=r at h5 ⊢
 obtain ⟨-,⟨vS,vF,sv,hG⟩,hp,hq,hl1,hl2,hJE,hJL,-⟩:=id hok
 have hE:=hJE _ _ hJ
 obtain ⟨s1,hs1,E1,n1,g1⟩:=nB s (.row (pC (c.p,c.q)) 2 107 false 0 0 0)
 obtain ⟨l0,-,hat⟩:=(hG.later (hE.trans E1)).at_
 obtain ⟨c1,c2,-,-,c3,-⟩:=hat _ _ hp
 have b0:=fun k:V→S→Go.Ev.A=>zw g1 0 rfl (by omega) (show iv .i64 (c.p:Int)≠.bad from yN _ _) k
 simp only [pC,List.getD_cons_zero] at b0
 have nr:∀ (f:Go.Ev.K→Nat→S→Go.Ev.A),Go.Ev.newRow s 107 (pC (c.p,c.q)) false f=f s.nx 2 s1:=fun f=>by rw [hs1];exact zo s 107 (pC (c.p,c.q)) false f
 have cl:∀ f:List V→Go.Ev.A,zp 2 (.ls 0 (pC (c.p,c.q))) f=f (pC (c.p,c.q)):=fun f=>qR 2 _ rfl f
 rw [y4]
 generalize hF:(fnC zj 56).run r _ _=F0
 simp -implicitDefEqProofs [zft,cl,nr,l0,b0,c1,c2,c3] at hF
 generalize hA:zit.run r _ s1=A1 at hF
 obtain ⟨tm',s2,rfl,k240,kJ⟩:=hA▸h5 ⟨c,vS,vF,sv,s.nx,0,([],0,0),.nil 1,s.nx⟩ _ s1 ⟨⟨by simp,by simp,by simp,by simp,by simp,by simp⟩,⟨hok,hG,by show s.nx.toNat<_;omega,g1⟩,0,Nat.zero_le _,by simp,by simpa [qq] using hJL _ _ _ hJ E1⟩
 simp -implicitDefEqProofs [k240] at hF
 exact ⟨_,s2,hF.symm,kJ⟩
def zA5 (g:Gph) (z z':Pr):Prop:=∃ e∈g.steps z.1,∃ e'∈g.steps z.2,e.2.1=e'.2.1∧z'=(e.2.2,e'.2.2)
inductive PR (g:Gph):Pr→Pr→Prop
 | refl (z:Pr):PR g z z
 | step {z z' z'':Pr}:zA5 g z z'→PR g z' z''→PR g z z''
variable {g:Gph} {z':Pr}
theorem PR.snoc {z'':Pr} (h:PR g z z') (k:zA5 g z' z''):PR g z z'':=by
 induction h with
 | refl z=>exact .step k (.refl _)
 | step h _ ih=>exact .step h (ih k)
theorem PR.path (h:PR g z z'):∃ x x' y,Path g z.1 x y z'.1∧Path g z.2 x' y z'.2:=by
 induction h with
 | refl z=>exact ⟨[],[],[],.nil _,.nil _⟩
 | step h _ ih =>
  obtain ⟨e,he,e',he',hs,rfl⟩:=h
  obtain ⟨x,x',y,h1,h2⟩:=ih
  refine ⟨e.1++x,e'.1++x',e.2.1::y,Path.cons he h1,?_⟩
  rw [hs]
  exact Path.cons he' h2
theorem zHH {a c:Nat} {x y:List Int} (h:Path g a x y c):∀ {b d:Nat} {x':List Int},Path g b x' y d→PR g (a,b) (c,d):=by
 induction h with
 | nil q =>
  intro b d x' h'
  cases h' with
  | nil=>exact .refl _
 | @cons q q' e x y he _ ih =>
  intro b d x' h'
  generalize hy:e.2.1::y=y0 at h'
  cases h' with
  | nil=>cases hy
  | @cons _ _ e' x' y1 he' h' =>
   injection hy with hs hy
   subst hy
   exact .step ⟨e,he,e',he',hs,rfl⟩ (ih h')
def zaA (g:Gph) (z:Pr):Prop:=g.full z.1=true∧g.full z.2=true
theorem zL4:Usf g z.1 z.2↔PR g (0,0) z∧∃ z',zaA g z'∧PR g z z':=by
 constructor
 ·rintro ⟨⟨x,x',y,h1,h2⟩,u,u',w,p',q',f1,f2,h3,h4⟩
  exact ⟨zHH h1 h2,(p',q'),⟨f1,f2⟩,zHH h3 h4⟩
 ·rintro ⟨h1,z',⟨f1,f2⟩,h2⟩
  obtain ⟨x,x',y,a,b⟩:=h1.path
  obtain ⟨u,u',w,c,d⟩:=h2.path
  exact ⟨⟨x,x',y,a,b⟩,u,u',w,z'.1,z'.2,f1,f2,c,d⟩
theorem zJr {N:Nat} {l:List Pr} (h:l.Nodup) (hr:∀ z∈l,z.1<N∧z.2<N):l.length≤N*N:=by
 have h2:=zao (N*N) (l.map fun z=>z.1*N+z.2) (by
  refine List.pairwise_map.2 ?_
  refine List.Pairwise.imp_of_mem ?_ h
  intro a b ha hb hne e
  obtain ⟨a1,a2⟩:=hr a ha
  obtain ⟨b1,b2⟩:=hr b hb
  apply hne
  have e1:a.1=b.1:=by
   have:=congrArg (· / N) e
   rw [Nat.mul_comm a.1,Nat.mul_comm b.1,Nat.mul_add_div (by omega),Nat.mul_add_div (by omega),Nat.div_eq_of_lt a2,Nat.div_eq_of_lt b2] at this
   simpa using this
  have e2:a.2=b.2:=by rw [e1] at e;omega
  exact Prod.ext e1 e2) (fun y hy=>by
  obtain ⟨z,hz,rfl⟩:=kav.1 hy
  obtain ⟨z1,z2⟩:=hr z hz
  have:(z.1+1)*N≤N*N:=kaL _ z1
  rw [Nat.add_mul] at this
  omega)
 rwa [kai] at h2
structure GFin (G:List PS):Prop where
 pos:0<G.length
 le:G.length≤16384
 st:∀ x∈G,x.st.length≤12
 wf:∀ x∈G,∀ e∈x.st,e.2.2<G.length
theorem GFin.sq (h:GFin G) (hn:td.Nodup) (hr:∀ z∈td,z.1<G.length∧z.2<G.length):td.length≤268435456:=by
 have:=zJr hn hr
 have:=Nat.mul_le_mul h.le h.le
 omega
structure UInv (G:List PS) (td:List Pr) (bk:Pr→List Pr) (i:Nat) (dn:List (Stp × Stp)):Prop where
 nodup:td.Nodup
 zero:td[0]?=some (0,0)
 reach:∀ z∈td,PR (z5 G) (0,0) z
 rng:∀ z∈td,z.1<G.length∧z.2<G.length
 done:∀ j z,j<i→td[j]?=some z→∀ z',zA5 (z5 G) z z'→z'∈td∧z∈bk z'
 bks:∀ z z',z∈bk z'→z∈td∧zA5 (z5 G) z z'
 cur:∀ z,td[i]?=some z→∀ p∈dn,(p.1.2.2,p.2.2.2)∈td∧z∈bk (p.1.2.2,p.2.2.2)
 len:∀ z',(bk z').length≤144*i+dn.length
theorem w9 {to:Pr}:z∈zfC td to↔z∈td∨z=to:=by
 unfold zfC
 split
 ·rename_i h
  constructor
  ·exact .inl
  ·rintro (h1 | rfl)
   ·exact h1
   ·exact h
 ·simp
theorem ze9 {to:Pr} (h:td[j]?=some z):(zfC td to)[j]?=some z:=by
 unfold zfC
 split
 ·exact h
 ·rw [kam (kad.1 h).1];exact h
variable {y:Pr}
theorem zfs {to y':Pr}:y∈zfK bk to z y'↔y∈bk y'∨(y'=to∧y=z):=by
 unfold zfK
 by_cases g:y'=to
 ·rw [if_pos g];simp [g]
 ·rw [if_neg g];simp [g]
theorem UInv.init (h:GFin G):UInv G [(0,0)] (fun _=>[]) 0 []:=by
 refine ⟨by simp,rfl,fun z hz=>?_,fun z hz=>?_,(fun j z hj=>by omega),(fun z z' hz=>by cases hz),(fun z _ p hp=>by cases hp),fun z'=>Nat.zero_le _⟩
 ·rw [kag.1 hz];exact .refl _
 ·rw [kag.1 hz];exact ⟨h.pos,h.pos⟩
variable {xp xq:PS}
theorem UInv.visit {dn:List (Stp × Stp)} (h:UInv G td bk i dn) (hG:GFin G) (hz:td[i]?=some z) (hp:G[z.1]?=some xp) (hq:G[z.2]?=some xq) (he:(e,e')∈qq xp.st xq.st) :
  UInv G (zfC td (e.2.2,e'.2.2)) (zfK bk (e.2.2,e'.2.2) z) i (dn++[(e,e')]):=by
 obtain ⟨h1,h2,h3⟩:=zbc.1 he
 have hst:zA5 (z5 G) z (e.2.2,e'.2.2):=⟨e,by rw [yY hp];exact h1,e',by rw [yY hq];exact h2,h3,rfl⟩
 have hzm:z∈td:=kae hz
 refine ⟨?_,ze9 h.zero,fun y hy=>?_,fun y hy=>?_,fun j y hj hy y' hs=>?_,fun y y' hy=>?_,fun y hy p hpd=>?_,fun y'=>?_⟩
 ·unfold zfC
  split
  ·exact h.nodup
  ·rename_i hn
   exact kaP.2 ⟨h.nodup,by simp,fun a ha b hb e2=>by
    rw [kag.1 hb] at e2
    rw [e2] at ha
    exact hn ha⟩
 ·rcases w9.1 hy with hy | rfl
  ·exact h.reach y hy
  ·exact (h.reach z hzm).snoc hst
 ·rcases w9.1 hy with hy | rfl
  ·exact h.rng y hy
  ·exact ⟨hG.wf xp (kae hp) e h1,hG.wf xq (kae hq) e' h2⟩
 ·have hj':j<td.length:=by have:=(kad.1 hz).1;omega
  have hy':td[j]?=some y:=by
   obtain ⟨w,hw⟩:∃ w,td[j]?=some w:=⟨_,kac hj'⟩
   rw [ze9 hw] at hy
   rw [hw,Option.some.inj hy]
  obtain ⟨g1,g2⟩:=h.done j y hj hy' y' hs
  exact ⟨w9.2 (.inl g1),zfs.2 (.inl g2)⟩
 ·rcases zfs.1 hy with hy | ⟨rfl,rfl⟩
  ·obtain ⟨g1,g2⟩:=h.bks y y' hy
   exact ⟨w9.2 (.inl g1),g2⟩
  ·exact ⟨w9.2 (.inl hzm),hst⟩
 ·rw [ze9 hz] at hy
  cases hy
  rcases kak.1 hpd with hpd | hpd
  ·obtain ⟨g1,g2⟩:=h.cur z hz p hpd
   exact ⟨w9.2 (.inl g1),zfs.2 (.inl g2)⟩
  ·rw [kag.1 hpd]
   exact ⟨w9.2 (.inr rfl),zfs.2 (.inr ⟨rfl,rfl⟩)⟩
 ·have:=h.len y'
  rw [kah,List.length_singleton]
  unfold zfK
  split
  ·rw [kah,List.length_singleton];omega
  ·omega
theorem UInv.next (h:UInv G td bk i (qq xp.st xq.st)) (hG:GFin G) (hz:td[i]?=some z) (hp:G[z.1]?=some xp) (hq:G[z.2]?=some xq):UInv G td bk (i+1) []:=by
 refine ⟨h.nodup,h.zero,h.reach,h.rng,fun j y hj hy y' hs=>?_,h.bks,(fun _ _ p hp=>by cases hp),fun y'=>?_⟩
 ·rcases kaq j i with g | g
  ·exact h.done j y g hy y' hs
  ·obtain rfl:j=i:=by omega
   rw [hz] at hy
   cases hy
   obtain ⟨e,he,e',he',h3,rfl⟩:=hs
   rw [yY hp] at he
   rw [yY hq] at he'
   exact h.cur z hz (e,e') (zbc.2 ⟨he,he',h3⟩)
 ·have h1:=h.len y'
  have h2:=zpt xp.st xq.st
  have h3:=hG.st xp (kae hp)
  have h4:=hG.st xq (kae hq)
  have h5:=Nat.mul_le_mul h3 h4
  simp only [List.length_nil]
  omega
structure EInv (G:List PS) (td:List Pr) (bk:Pr→List Pr) (q:List Pr):Prop where
 sub:∀ z∈q,z∈td
 nodup:q.Nodup
 cor:∀ z∈q,∃ z',zaA (z5 G) z'∧PR (z5 G) z z'
theorem EInv.push {q:List Pr} (h:EInv G td bk q) (hU:UInv G td bk i []) (hz:z∈q) (hy:y∈bk z) (hn:¬y∈q):EInv G td bk (q++[y]):=by
 obtain ⟨h1,h2⟩:=hU.bks y z hy
 refine ⟨fun w hw=>?_,?_,fun w hw=>?_⟩
 ·rcases kak.1 hw with hw | hw
  ·exact h.sub w hw
  ·rw [kag.1 hw];exact h1
 ·exact kaP.2 ⟨h.nodup,by simp,fun a ha b hb e2=>by
   rw [kag.1 hb] at e2
   rw [e2] at ha
   exact hn ha⟩
 ·rcases kak.1 hw with hw | hw
  ·exact h.cor w hw
  ·rw [kag.1 hw]
   obtain ⟨z',g1,g2⟩:=h.cor z hz
   exact ⟨z',g1,.step h2 g2⟩
theorem EInv.final {q:List Pr} (h:EInv G td bk q) (hU:UInv G td bk td.length []) (hf:∀ z∈td,zaA (z5 G) z→z∈q) (hc:∀ z∈q,∀ y∈bk z,y∈q) (z:Pr):z∈q↔Usf (z5 G) z.1 z.2:=by
 have hclosed:∀ {z z'},PR (z5 G) z z'→z∈td→z'∈td:=fun hp=>by
  induction hp with
  | refl z=>exact id
  | step hs _ ih =>
   intro hz
   obtain ⟨j,hj,hjz⟩:=List.getElem_of_mem hz
   exact ih (hU.done j _ hj (by rw [kac hj,hjz]) _ hs).1
 rw [zL4]
 constructor
 ·exact fun hz=>⟨hU.reach z (h.sub z hz),h.cor z hz⟩
 ·rintro ⟨h1,z',h2,h3⟩
  have hz:z∈td:=hclosed h1 (kae hU.zero)
  clear h1
  induction h3 with
  | refl z=>exact hf z hz h2
  | @step z z1 z2 hs hr ih =>
   obtain ⟨j,hj,hjz⟩:=List.getElem_of_mem hz
   obtain ⟨g1,g2⟩:=hU.done j _ hj (by rw [kac hj,hjz]) _ hs
   exact hc _ (ih h2 g1) _ g2
theorem yT (s:S) (el:Nat) (x0 x:V) (hx:∀ c:List V→Go.Ev.A,zp 1 x c=c [x]) (k:V→S→Go.Ev.A):zJ 1 (.ptr s.nx 0 0) x (zN s (.row [x0] 1 el false 0 0 0)) k=k Go.Ev.undef (zN s (.row [x] 1 el false 0 0 0)):=by
 rw [zan (zx _ _) 0 x hx (by omega)]
 show k Go.Ev.undef ⟨Tr.set B.none _ s.nx (Tr.set B.none _ s.nx s.h),s.nx.succ⟩=_
 rw [zzs];rfl
theorem USt.newI {s:S} (h:USt s0 s u td bk i) (j:Nat):USt s0 (zN s (.row [iv .i64 (j:Int)] 1 3 false 0 0 0)) { u with ki:=s.nx } td bk j:=by
 have e:=zO s (.row [iv .i64 (j:Int)] 1 3 false 0 0 0)
 have hg:=zx s (.row [iv .i64 (j:Int)] 1 3 false 0 0 0)
 have hn:=ziG s (.row [iv .i64 (j:Int)] 1 3 false 0 0 0)
 have h2:=h.later e
 have h0:=h.ext.nx
 refine ⟨h2.ext,h2.b1,hg,h2.s1,h2.t1,h2.m1,fun c hc=>?_,h2.ne⟩
 simp only [kaj,List.not_mem_nil,or_false] at hc
 rcases hc with rfl | rfl | rfl | rfl | rfl | rfl
 ·exact h2.rng _ (by simp)
 ·exact h2.rng _ (by simp)
 ·exact ⟨h0,by omega⟩
 ·exact h2.rng _ (by simp)
 ·exact h2.rng _ (by simp)
 ·exact h2.rng _ (by simp)
noncomputable def KB7:Nat→Ct
 | 55=>ctI (X:=Go.Ev.K × List PS) (fun ⟨gk,G⟩ a s=>a=[.ptr gk 0 0]∧(∃ vS vF sv,GRd s gk G vS vF sv)∧GFin G)
   (fun ⟨_,G⟩ s v s'=>Ext s s'∧∃ me ends el eck,v=.ref 0 me∧s.nx.toNat≤me.toNat∧me.toNat<s'.nx.toNat∧Seen s' me ends el eck∧∀ z,z∈ends↔Usf (z5 G) z.1 z.2)
 | f=>KB6 f
structure UL1 where
 s0:S
 gk:Go.Ev.K
 G:List PS
 u:UB
def UL1.base (x:UL1):Prop:=(∃ vS vF sv,GRd x.s0 x.gk x.G vS vF sv)∧GFin x.G
def UL1.fr (x:UL1) (tm:T):Prop:=gp 0 tm=.ptr x.gk 0 0∧gp 3 tm=.ptr x.u.kb 0 0∧gp 4 tm=.ptr x.u.ks 0 0∧gp 5 tm=.ptr x.u.kt 0 0∧gp 240 tm=.bad
def UL1.pre (x:UL1) (tm:T) (s:S):Prop:=x.fr tm∧x.base∧gp 6 tm=.ptr x.u.ki 0 0∧∃ td bk i,i≤td.length∧USt x.s0 s x.u td bk i∧UInv x.G td bk i []
def UL1.post (x:UL1) (a:Go.Ev.A):Prop:=∃ tm s,a=.ext 0 tm s∧x.fr tm∧∃ ki td bk,USt x.s0 s { x.u with ki:=ki } td bk td.length∧UInv x.G td bk td.length []
structure UL2 where
 s0:S
 b:S
 gk:Go.Ev.K
 G:List PS
 u:UB
 td:List Pr
 bk:Pr→List Pr
 tv:V
 me:Go.Ev.K
 i:Nat
 z:Pr
 lv:V
def UL2.base (x:UL2):Prop:=(∃ vS vF sv,GRd x.s0 x.gk x.G vS vF sv)∧GFin x.G∧USt x.s0 x.b x.u x.td x.bk x.td.length∧UInv x.G x.td x.bk x.td.length []∧TdV x.s0 x.b x.tv x.td∧x.b.nx.toNat≤x.me.toNat
structure UL2.P2 (x:UL2) (s:S) (v:V) (q:List Pr):Prop where
 ext:Ext x.b s
 me_:x.me.toNat<s.nx.toNat
 seen:∃ el eck,Seen s x.me q el eck
 gz:Gz 107 2 x.b s v (q.map pC)
 inv:EInv x.G x.td x.bk q
variable {x:UL2}
theorem UL2.P2.later {s s':S} {q:List Pr} (h:x.P2 s v q) (e:Ext s s'):x.P2 s' v q:=by
 obtain ⟨el,eck,h1,h2,h3⟩:=h.seen
 refine ⟨h.ext.trans e,kaf h.me_ e.nx,⟨el,eck,?_,h2,h3⟩,h.gz.ext e,h.inv⟩
 unfold yj;rw [e.get _ h.me_];exact h1
theorem UL2.P2.push (hb:x.base) {s:S} {q:List Pr} (h:x.P2 s v q) (hy:¬y∈q) (hI:EInv x.G x.td x.bk (q++[y])) :
  ∃ s6 v3 s8,(∀ k:V→S→Go.Ev.A,qw ⟨6,[7,7]⟩ (.ref 0 x.me) (.ls 0 (pC y)) (iv .i64 1) s k=k Go.Ev.undef s6)∧(∀ k:V→S→Go.Ev.A,zP 107 2 v (.sl s6.nx 0 0 1 1) (zN s6 (.row (pC y) 2 107 false 0 0 0)) k=k v3 s8) ∧
   (∀ a l n el mn f1 f2,a.toNat<s.nx.toNat→Tr.get B.none a s.h=.row l n el false mn f1 f2→Tr.get B.none a s6.h=.row l n el false mn f1 f2)∧x.P2 s8 v3 (q++[y]):=by
 obtain ⟨el,eck,S1⟩:=h.seen
 have hme:Tr.get B.none x.me s.h=.map (el.map (toG qu)) eck:=S1.at_
 obtain ⟨ck',hck'⟩:∃ ck',ck'=(if (qh el y).isNone then eck+1 else eck):=⟨_,rfl⟩
 obtain ⟨s6,hs6⟩:∃ s6,s6=qj s x.me (.map ((yr y (iv .i64 1) eck el).map (toG qu)) ck'):=⟨_,rfl⟩
 have k6:∀ c,c≠x.me→Tr.get B.none c s6.h=Tr.get B.none c s.h:=fun c hc=>by rw [hs6,zm,if_neg hc]
 have n6:s6.nx=s.nx:=by rw [hs6];rfl
 have hme6:Tr.get B.none x.me s6.h=.map ((yr y (iv .i64 1) eck el).map (toG qu)) ck':=by rw [hs6,zm,if_pos rfl]
 obtain ⟨s7,hs7,E7,-,-⟩:=nB s6 (.row (pC y) 2 107 false 0 0 0)
 have n7:=E7.nx
 have hbn:=h.ext.nx
 have z6:Gz 107 2 x.b s6 v (q.map pC):=h.gz.keep (by rw [n6];exact kab _) fun c hc=>k6 c (fun e=>h.gz.ne_map hme (e▸hc))
 have hlen:q.length≤268435456:=hb.2.1.sq h.inv.nodup (fun z hz=>hb.2.2.2.1.rng z (h.inv.sub z hz))
 obtain ⟨v3,s8,e3,z8,n8,k8,b8⟩:=zji (z6.ext E7) (by rw [n6] at n7;omega) (by omega) (a:=s6.nx) (x:=pC y) (by rw [hs7];exact zx _ _) (jO y) rfl (by rw [kai];omega)
 have hme8:Tr.get B.none x.me s8.h=.map ((yr y (iv .i64 1) eck el).map (toG qu)) ck':=by
  rw [k8 _ (by rw [n6] at n7;have:=h.me_;omega) (fun e=>h.gz.ne_map hme e),E7.get _ (by rw [n6];exact h.me_)]
  exact hme6
 have hk:∀ c,c.toNat<s.nx.toNat→c≠x.me→zC v≠some c→Tr.get B.none c s8.h=Tr.get B.none c s.h:=fun c hc h1 h2=>by
  rw [k8 c (by rw [n6] at n7;omega) h2,E7.get c (by rw [n6];exact hc),k6 c h1]
 refine ⟨s6,v3,s8,fun k=>?_,by rw [←hs7];exact e3,fun a l n el mn f1 f2 _ hg=>by rw [k6 _ (zV hg hme)];exact hg,?_,by have:=h.me_;rw [n6] at n7;omega,⟨_,_,S1.ins hy hme8⟩,by rw [kaE];exact z8,hI⟩
 ·rw [←y4,zbo y5 S1.at_,←hck',←hs6]
 ·refine Go.Ev.ext_of h.ext (by rw [n6] at n7;omega) (D:=fun c=>c=x.me∨zC v=some c) (fun c hc hd=>hk c hc (fun e=>hd (.inl e)) (fun e=>hd (.inr e))) fun c hc=>?_
  rcases hc with rfl | hc
  ·exact hb.2.2.2.2.2
  ·exact (h.gz.blk hc).1
def UL2.pre52 (x:UL2) (tm:T) (s:S):Prop:=x.base∧gp 0 tm=.ptr x.gk 0 0∧gp 3 tm=.ptr x.u.kb 0 0∧gp 7 tm=.ref 0 x.me∧gp 240 tm=.bad∧gp 16 tm=x.tv∧gp 17 tm=iv .i64 (x.td.length:Int)∧∃ (j:Nat) (q:List Pr),j≤x.td.length∧gp 18 tm=iv .i64 (j:Int)∧x.P2 s (gp 8 tm) q∧(∀ z∈q,z∈x.td.take j)∧∀ z∈x.td.take j,zaA (z5 x.G) z→z∈q
def UL2.post52 (x:UL2) (a:Go.Ev.A):Prop:=∃ tm s,a=.ext 2 tm s∧gp 3 tm=.ptr x.u.kb 0 0∧gp 7 tm=.ref 0 x.me∧gp 240 tm=.bad∧∃ q,x.P2 s (gp 8 tm) q∧∀ z∈x.td,zaA (z5 x.G) z→z∈q
def UL2.q2 (x:UL2) (s:S) (v:V) (q:List Pr) (i:Nat):Prop:=x.P2 s v q∧(∀ z∈x.td,zaA (z5 x.G) z→z∈q)∧∀ j z,j<i→q[j]?=some z→∀ y∈x.bk z,y∈q
def UL2.pre66 (x:UL2) (tm:T) (s:S):Prop:=x.base∧gp 3 tm=.ptr x.u.kb 0 0∧gp 7 tm=.ref 0 x.me∧gp 240 tm=.bad∧∃ (i:Nat) (q:List Pr),i≤q.length∧gp 11 tm=iv .i64 (i:Int)∧x.q2 s (gp 8 tm) q i
def UL2.post66 (x:UL2) (a:Go.Ev.A):Prop:=∃ tm s,a=.ext 4 tm s∧gp 7 tm=.ref 0 x.me∧gp 240 tm=.bad∧∃ q,x.q2 s (gp 8 tm) q q.length
def UL2.pre38 (x:UL2) (tm:T) (s:S):Prop:=x.base∧Gz 107 2 x.s0 x.b x.lv ((x.bk x.z).map pC)∧gp 3 tm=.ptr x.u.kb 0 0∧gp 7 tm=.ref 0 x.me∧gp 240 tm=.bad∧gp 11 tm=iv .i64 (x.i:Int)∧gp 22 tm=x.lv∧gp 23 tm=iv .i64 ((x.bk x.z).length:Int) ∧
 ∃ (j:Nat) (q:List Pr),j≤(x.bk x.z).length∧gp 24 tm=iv .i64 (j:Int)∧x.q2 s (gp 8 tm) q x.i∧q[x.i]?=some x.z∧∀ y∈(x.bk x.z).take j,y∈q
def UL2.post38 (x:UL2) (a:Go.Ev.A):Prop:=∃ tm s,a=.ext 6 tm s∧gp 3 tm=.ptr x.u.kb 0 0∧gp 7 tm=.ref 0 x.me∧gp 240 tm=.bad∧gp 11 tm=iv .i64 (x.i:Int)∧∃ q,x.q2 s (gp 8 tm) q (x.i+1)∧x.i<q.length
noncomputable def ltU:Nat→Lt
 | 32=>ltI UL1.pre UL1.post
 | 52=>ltI UL2.pre52 UL2.post52
 | 66=>ltI UL2.pre66 UL2.post66
 | _=>ltI UL2.pre38 UL2.post38
theorem zME:∀ (x:UL1) tm s,x.pre tm s→x.post (zby.run (Rk Tryz.prog KB7 ltU) tm s):=by
 refine y9 (L:=ltU) zG.1 zG.2 zCy rfl (fun tm s=>268435457 - (match gp 6 tm with | .ptr k _ _=>(toI ((yz (Tr.get B.none k s.h)).getD 0 .bad)).toNat | _=>0)) (fun x a ⟨_,_,h,_⟩=>by rw [h];exact fun h=>h) ?_
 rintro ⟨s0,gk,G,u⟩ tm s ⟨⟨h0,h3,h4,h5,h240⟩,⟨⟨vS,vF,sv,hG⟩,hF⟩,h6,td,bk,i,hi,hU,hV⟩ IH
 show UL1.post _ (zby.run _ tm _)
 have hEa:=qV (zQ (L:=ltU) (show zL Tryz.prog KB7 56 from zHF)) (X:=EaX) rfl
 generalize Rk Tryz.prog _ _=r at IH hEa ⊢
 simp only at h0 h3 h4 h5 h6 hG hF hU hV
 have hsq:=hF.sq hV.nodup hV.rng
 obtain ⟨-,l2,-,-,tv,l5,ht⟩:=hU.loads
 have hlen:=fun c:V→Go.Ev.A=>ht.len c
 by_cases hlt:i<td.length
 ·have hlt':((i:Int)<(td.length:Int))=True:=eq_true (by omega)
  obtain ⟨z,hz⟩:∃ z,td[i]?=some z:=⟨_,kac hlt⟩
  obtain ⟨p,ix,ld⟩:=ht.at_ hz
  obtain ⟨hz1,hz2⟩:=hV.rng z (kae hz)
  obtain ⟨xp,hp⟩:∃ xp,G[z.1]?=some xp:=⟨_,kac hz1⟩
  obtain ⟨xq,hq⟩:∃ xq,G[z.2]?=some xq:=⟨_,kac hz2⟩
  have hvl:(qq xp.st xq.st).length≤144:=by
   have h1:=zpt xp.st xq.st
   have h2:=Nat.mul_le_mul (hF.st xp (kae hp)) (hF.st xq (kae hq))
   omega
  obtain ⟨v7,s2,e7,td2,bk2,hU2,hV2,hz2'⟩:=hEa ⟨s0,gk,G,z.1,z.2,xp,xq,100,[.ptr u.kb 0 0,.ptr u.kt 0 0,.ptr u.ki 0 0,.ptr u.ks 0 0],fun dn s=>∃ td bk,USt s0 s u td bk i∧UInv G td bk i dn∧td[i]?=some z⟩ _ s ⟨rfl,⟨.inl rfl,⟨vS,vF,sv,hG⟩,hp,hq,hF.st xp (kae hp),hF.st xq (kae hq),fun dn s ⟨_,_,h,_⟩=>h.ext,fun dn s s' ⟨td,bk,h1,h2,h3⟩ e=>⟨td,bk,h1.later e,h2,h3⟩,fun dn s e e' x y ⟨td,bk,h1,h2,h3⟩ hpre _ _ _ _=>by
   have hmem:(e,e')∈qq xp.st xq.st:=hpre.subset (by simp)
   have hdl:dn.length+1≤144:=by have:=hpre.length_le;rw [kah,List.length_singleton] at this;simp only at this;omega
   have hsq2:=hF.sq h2.nodup h2.rng
   have hil:=(kad.1 h3).1
   have hbl:=h2.len (e.2.2,e'.2.2)
   have hpre2:UcX.pre ⟨s0,u,td,bk,i,z,(e.2.2,e'.2.2),x,y⟩ ([qu (e.2.2,e'.2.2),x,y]++[.ptr u.kb 0 0,.ptr u.kt 0 0,.ptr u.ki 0 0,.ptr u.ks 0 0]) s:=⟨rfl,h1,h3,by simp only;omega,by simp only;omega⟩
   refine ⟨⟨_,hpre2⟩,fun v s' hpost=>?_⟩
   obtain ⟨g1,g2⟩:=hpost _ hpre2
   exact ⟨⟨_,_,g1,h2.visit hF h3 hp hq hmem,ze9 h3⟩,g2⟩⟩,td,bk,hU,hV,hz⟩
  have e7:r.call 56 [.ptr gk 0 0,.ls 0 (pC z),.fn (.func 100) [] [.ptr u.kb 0 0,.ptr u.kt 0 0,.ptr u.ki 0 0,.ptr u.ks 0 0]] s=.ret v7 s2:=e7
  have hV3:=hV2.next hF hz2' hp hq
  obtain ⟨-,m2,-,-,-⟩:=hU2.loads
  have hi2:i<td2.length:=(kad.1 hz2').1
  have hsq2:=hF.sq hV2.nodup hV2.rng
  have hw:IntKind.i64.wrap ((i:Int)+1)=((i+1:Nat):Int):=by rw [z9 (by omega) (by omega)];omega
  have U3:=hU2.newI (i+1)
  have st3:=fun k:V→S→Go.Ev.A=>yT s2 3 (iv .i64 0) (iv .i64 (i:Int)) (zaU _ _) k
  have ga:=zx s2 (.row [iv .i64 (i:Int)] 1 3 false 0 0 0)
  have ldn:=fun k:V→S→Go.Ev.A=>zw ga 0 rfl (by omega) (show iv .i64 (i:Int)≠.bad from yN _ _) k
  have st4:=fun k:V→S→Go.Ev.A=>yT s2 3 (iv .i64 (i:Int)) (iv .i64 ((i+1:Nat):Int)) (zaU _ _) k
  have nr:∀ (c:Go.Ev.K→Nat→S→Go.Ev.A),Go.Ev.newRow s2 3 [iv .i64 0] false c=c s2.nx 1 (zN s2 (.row [iv .i64 0] 1 3 false 0 0 0)):=fun c=>zo s2 3 _ false c
  simp only [List.getD_cons_zero] at ldn
  have g3:=U3.i1
  have hmi:Tr.get B.none u.ki s.h=.row [iv .i64 (i:Int)] 1 3 false 0 0 0:=hU.i1
  generalize zN s2 (.row [iv .i64 ((i+1:Nat):Int)] 1 3 false 0 0 0)=s3 at U3 st4 g3
  simp -implicitDefEqProofs [zlj,yI,h0,h3,h4,h5,h6,l2,l5,hlen,hlt',ix,ld,e7,m2,nr,st3,ldn,hw,st4,-Int.natCast_add]
  refine IH ⟨s0,gk,G,{ u with ki:=s2.nx }⟩ _ s3 ?_ ⟨⟨by simp [h0],by simp [h3],by simp [h4],by simp [h5],by simp [h240]⟩,⟨⟨vS,vF,sv,hG⟩,hF⟩,by simp,td2,bk2,i+1,hi2,U3,hV3⟩
  have e2:(match gp 6 tm with | .ptr k _ _=>(toI ((yz (Tr.get B.none k s.h)).getD 0 .bad)).toNat | _=>0)=i:=by
   rw [h6]
   simp only [hmi,yz,List.getD_cons_zero,zn]
   exact Int.toNat_natCast i
  rw [e2]
  simp [g3,yz,zn,-Int.natCast_add]
  omega
 ·obtain rfl:i=td.length:=by omega
  simp -implicitDefEqProofs [zlj,yI,h5,h6,l2,l5,hlen]
  exact ⟨_,_,rfl,⟨by simp [h0],by simp [h3],by simp [h4],by simp [h5],by simp [h240]⟩,u.ki,td,bk,hU,hV⟩
theorem zFk {α:Type} {l:List α} (h:l.Nodup) {z:α} (hz:l[j]?=some z):¬z∈l.take j:=by
 have h2:=h.sublist (List.take_sublist (j+1) l)
 rw [zrZ hz] at h2
 intro hm
 exact (kaP.1 h2).2.2 z hm z (by simp) rfl
theorem EInv.full {q:List Pr} (h:EInv G td bk q) (hz:z∈td) (hf:zaA (z5 G) z) (hn:¬z∈q):EInv G td bk (q++[z]):=by
 refine ⟨fun w hw=>?_,?_,fun w hw=>?_⟩
 ·rcases kak.1 hw with hw | hw
  ·exact h.sub w hw
  ·rw [kag.1 hw];exact hz
 ·exact kaP.2 ⟨h.nodup,by simp,fun a ha b hb e2=>by
   rw [kag.1 hb] at e2
   rw [e2] at ha
   exact hn ha⟩
 ·rcases kak.1 hw with hw | hw
  ·exact h.cor w hw
  ·rw [kag.1 hw]
   exact ⟨z,hf,.refl _⟩
theorem zMp:∀ (x:UL2) tm s,x.pre52 tm s→x.post52 (zbl.run (Rk Tryz.prog KB7 ltU) tm s):=by
 refine y9 (L:=ltU) zG.1 zG.2 zBs rfl (fun tm _=>268435457 - (toI (gp 18 tm)).toNat) (fun x a ⟨_,_,h,_⟩=>by rw [h];exact fun h=>h) ?_
 rintro x tm s ⟨hb,h0,h3,h7,h240,h16,h17,j,q,hj,h18,hP,hq1,hq2⟩ IH
 show UL2.post52 _ (zbl.run _ tm _)
 generalize Rk Tryz.prog _ _=r at IH ⊢
 obtain ⟨⟨vS,vF,sv,hG⟩,hF,hU,hV,hT,hme⟩:=id hb
 have hsq:=hF.sq hV.nodup hV.rng
 generalize h8:gp 8 tm=v8 at hP
 by_cases hlt:j<x.td.length
 ·have hlt':((j:Int)<(x.td.length:Int))=True:=eq_true (by omega)
  have hw:IntKind.i64.wrap ((j:Int)+1)=((j+1:Nat):Int):=by rw [z9 (by omega) (by omega)];omega
  obtain ⟨z,hz⟩:∃ z,x.td[j]?=some z:=⟨_,kac hlt⟩
  have hzm:=kae hz
  obtain ⟨p,ix,ld⟩:=(hT.ext hP.ext).at_ hz
  obtain ⟨hz1,hz2⟩:=hV.rng z hzm
  obtain ⟨xp,hp⟩:∃ xp,x.G[z.1]?=some xp:=⟨_,kac hz1⟩
  obtain ⟨xq,hq⟩:∃ xq,x.G[z.2]?=some xq:=⟨_,kac hz2⟩
  obtain ⟨s1,hs1,E1,n1,g1⟩:=nB s (.row (pC z) 2 107 false 0 0 0)
  have st1:=fun k:V→S→Go.Ev.A=>qX s 107 2 [iv .i64 0,iv .i64 0] (pC z) rfl rfl k
  rw [←hs1] at st1
  have nr0:∀ (c:Go.Ev.K→Nat→S→Go.Ev.A),Go.Ev.newRow s 107 [iv .i64 0,iv .i64 0] false c=c s.nx 2 (zN s (.row [iv .i64 0,iv .i64 0] 2 107 false 0 0 0)):=fun c=>zo s 107 _ false c
  have nr:∀ (s:S) (w:Pr) (c:Go.Ev.K→Nat→S→Go.Ev.A),Go.Ev.newRow s 107 (pC w) false c=c s.nx 2 (zN s (.row (pC w) 2 107 false 0 0 0)):=fun s w c=>zo s 107 (pC w) false c
  have cl:∀ (c:List V→Go.Ev.A) (z:Pr),zp 2 (.ls 0 (pC z)) c=c (pC z):=fun c z=>qR 2 _ rfl c
  have up:∀ (w:Pr),upd (pC w) 0 [iv .i64 0,iv .i64 0]=pC w:=fun w=>rfl
  have b0:=fun k:V→S→Go.Ev.A=>zw g1 0 rfl (by omega) (show iv .i64 (z.1:Int)≠.bad from yN _ _) k
  have b1:=fun k:V→S→Go.Ev.A=>zw g1 1 rfl (by omega) (show iv .i64 (z.2:Int)≠.bad from yN _ _) k
  simp only [pC,List.getD_cons_zero,List.getD_cons_succ] at b0 b1
  obtain ⟨-,l1,hat⟩:=(hG.later ((hU.ext.trans hP.ext).trans E1)).at_
  obtain ⟨-,-,c1,c2,-,-⟩:=hat _ _ hp
  obtain ⟨-,-,d1,d2,-,-⟩:=hat _ _ hq
  have lp1:=fun k:V→S→Go.Ev.A=>qT g1 rfl (jO z) k
  have hnq:¬z∈q:=fun h=>zFk hV.nodup hz (hq1 z h)
  have htk:=zrZ hz
  have hfull:zaA (z5 x.G) z↔(xp.fl=true∧xq.fl=true):=by unfold zaA;rw [jA hp,jA hq]
  have hP1:=hP.later E1
  by_cases hf:xp.fl=true∧xq.fl=true
  ·obtain ⟨s6,v3,s8,e1,e2,e3,hP8⟩:=hP1.push hb hnq (hP.inv.full hzm (hfull.2 hf) hnq)
   have g6:=e3 _ _ _ _ _ _ _ (by omega) g1
   have lp6:=fun k:V→S→Go.Ev.A=>qT g6 rfl (jO z) k
   rw [hf.1] at c2
   rw [hf.2] at d2
   simp -implicitDefEqProofs [zbH,yI,h0,h16,h17,h18,hlt',ix,ld,nr0,st1,l1,b0,b1,c1,c2,d1,d2,h7,h8,lp1,e1,lp6,rep,cl,up,nr,e2,hw,-Int.natCast_add]
   refine IH x _ s8 ?_ ⟨hb,by simp [h0],by simp [h3],by simp [h7],by simp [h240],by simp [h16],by simp [h17],j+1,q++[z],hlt,by simp,by simpa using hP8,fun w hw=>?_,fun w hw hf=>?_⟩
   ·rw [h18,zn];simp [zn,-Int.natCast_add];omega
   ·rw [htk]
    rcases kak.1 hw with hw | hw
    ·exact kak.2 (.inl (hq1 w hw))
    ·exact kak.2 (.inr hw)
   ·rw [htk] at hw
    rcases kak.1 hw with hw | hw
    ·exact kak.2 (.inl (hq2 w hw hf))
    ·exact kak.2 (.inr hw)
  ·have jU:(∀ w∈q,w∈x.td.take (j+1))∧∀ w∈x.td.take (j+1),zaA (z5 x.G) w→w∈q:=by
    rw [htk]
    refine ⟨fun w hw=>kak.2 (.inl (hq1 w hw)),fun w hw hff=>?_⟩
    rcases kak.1 hw with hw | hw
    ·exact hq2 w hw hff
    ·rw [kag.1 hw] at hff
     exact absurd (hfull.1 hff) hf
   cases hfp:xp.fl with
   | false =>
    rw [hfp] at c2
    simp -implicitDefEqProofs [zbH,yI,h0,h16,h17,h18,hlt',ix,ld,nr0,st1,l1,b0,c1,c2,hw,-Int.natCast_add]
    refine IH x _ s1 ?_ ⟨hb,by simp [h0],by simp [h3],by simp [h7],by simp [h240],by simp [h16],by simp [h17],j+1,q,hlt,by simp,by simpa [h8] using hP1,jU⟩
    rw [h18,zn];simp [zn,-Int.natCast_add];omega
   | true =>
    have hfq:xq.fl=false:=by
     cases h:xq.fl with
     | false=>rfl
     | true=>exact absurd ⟨hfp,h⟩ hf
    rw [hfp] at c2
    rw [hfq] at d2
    simp -implicitDefEqProofs [zbH,yI,h0,h16,h17,h18,hlt',ix,ld,nr0,st1,l1,b0,b1,c1,c2,d1,d2,hw,-Int.natCast_add]
    refine IH x _ s1 ?_ ⟨hb,by simp [h0],by simp [h3],by simp [h7],by simp [h240],by simp [h16],by simp [h17],j+1,q,hlt,by simp,by simpa [h8] using hP1,jU⟩
    rw [h18,zn];simp [zn,-Int.natCast_add];omega
 ·obtain rfl:j=x.td.length:=by omega
  rw [List.take_length] at hq2
  simp -implicitDefEqProofs [zbH,yI,h17,h18]
  exact ⟨_,_,rfl,by simp [h3],by simp [h7],by simp [h240],q,by simpa [h8] using hP,hq2⟩
theorem zMg:∀ (x:UL2) tm s,x.pre38 tm s→x.post38 (za4.run (Rk Tryz.prog KB7 ltU) tm s):=by
 refine y9 (L:=ltU) zG.1 zG.2 zEG rfl (fun tm _=>(toI (gp 23 tm)).toNat - (toI (gp 24 tm)).toNat) (fun x a ⟨_,_,h,_⟩=>by rw [h];exact fun h=>h) ?_
 rintro x tm s ⟨hb,hL,h3,h7,h240,h11,h22,h23,j,q,hj,h24,⟨hP,hq1,hq2⟩,hqi,hq3⟩ IH
 show UL2.post38 _ (za4.run _ tm _)
 generalize Rk Tryz.prog _ _=r at IH ⊢
 obtain ⟨⟨vS,vF,sv,hG⟩,hF,hU,hV,hT,hme⟩:=id hb
 have hsq:=hF.sq hV.nodup hV.rng
 have hbl:=hV.len x.z
 simp only [List.length_nil] at hbl
 generalize h8:gp 8 tm=v8 at hP
 by_cases hlt:j<(x.bk x.z).length
 ·have hlt':((j:Int)<((x.bk x.z).length:Int))=True:=eq_true (by omega)
  have hw:IntKind.i64.wrap ((j:Int)+1)=((j+1:Nat):Int):=by rw [z9 (by omega) (by omega)];omega
  obtain ⟨y,hy⟩:∃ y,(x.bk x.z)[j]?=some y:=⟨_,kac hlt⟩
  have hym:=kae hy
  have hLs:=hL.ext hP.ext
  have ix:=fun kk (f:V→Go.Ev.A)=>hLs.idx (i:=j) (by rw [kai];exact hlt) kk f
  have ld:=fun (f:V→S→Go.Ev.A)=>hLs.load (i:=j) (x:=pC y) (by rw [kal,hy];rfl) (jO y) f
  obtain ⟨s1,hs1,E1,n1,g1⟩:=nB s (.row (pC y) 2 107 false 0 0 0)
  have st1:=fun k:V→S→Go.Ev.A=>qX s 107 2 [iv .i64 0,iv .i64 0] (pC y) rfl rfl k
  rw [←hs1] at st1
  have nr0:∀ (c:Go.Ev.K→Nat→S→Go.Ev.A),Go.Ev.newRow s 107 [iv .i64 0,iv .i64 0] false c=c s.nx 2 (zN s (.row [iv .i64 0,iv .i64 0] 2 107 false 0 0 0)):=fun c=>zo s 107 _ false c
  have nr:∀ (s:S) (w:Pr) (c:Go.Ev.K→Nat→S→Go.Ev.A),Go.Ev.newRow s 107 (pC w) false c=c s.nx 2 (zN s (.row (pC w) 2 107 false 0 0 0)):=fun s w c=>zo s 107 (pC w) false c
  have cl:∀ (c:List V→Go.Ev.A) (z:Pr),zp 2 (.ls 0 (pC z)) c=c (pC z):=fun c z=>qR 2 _ rfl c
  have up:∀ (w:Pr),upd (pC w) 0 [iv .i64 0,iv .i64 0]=pC w:=fun w=>rfl
  have lp1:=fun k:V→S→Go.Ev.A=>qT g1 rfl (jO y) k
  have hP1:=hP.later E1
  obtain ⟨el,eck,S1⟩:=hP1.seen
  have lk:∀ c:V→Go.Ev.A,z4 ⟨6,[7,7]⟩ (iv .i64 0) false (.ref 0 x.me) (.ls 0 (pC y)) s1 c=c (if y∈q then iv .i64 1 else iv .i64 0):=fun c=>by
   rw [←y4,zcn y5 S1.at_,S1.get]
  have htk:=zrZ hy
  by_cases hyq:y∈q
  ·rw [if_pos hyq] at lk
   simp -implicitDefEqProofs [zeZ,yI,h22,h23,h24,hlt',ix,ld,nr0,st1,lp1,h7,lk,hw,-Int.natCast_add]
   refine IH x _ s1 ?_ ⟨hb,hL,by simp [h3],by simp [h7],by simp [h240],by simp [h11],by simp [h22],by simp [h23],j+1,q,hlt,by simp,⟨by simpa [h8] using hP1,hq1,hq2⟩,hqi,fun w hw=>?_⟩
   ·rw [h23,h24,zn,zn];simp [h23,zn,-Int.natCast_add];omega
   ·rw [htk] at hw
    rcases kak.1 hw with hw | hw
    ·exact hq3 w hw
    ·rw [kag.1 hw];exact hyq
  ·rw [if_neg hyq] at lk
   obtain ⟨s6,v3,s8,e1,e2,e3,hP8⟩:=hP1.push hb hyq (hP.inv.push hV (kae hqi) hym hyq)
   have g6:=e3 _ _ _ _ _ _ _ (by omega) g1
   have lp6:=fun k:V→S→Go.Ev.A=>qT g6 rfl (jO y) k
   have hqlt:∀ {i:Nat} {w:Pr},q[i]?=some w→(q++[y])[i]?=some w:=fun {i w} h=>by rw [kam (kad.1 h).1];exact h
   have hil:=(kad.1 hqi).1
   simp -implicitDefEqProofs [zeZ,yI,h22,h23,h24,hlt',ix,ld,nr0,st1,lp1,h7,h8,lk,e1,lp6,rep,cl,up,nr,e2,hw,-Int.natCast_add]
   refine IH x _ s8 ?_ ⟨hb,hL,by simp [h3],by simp [h7],by simp [h240],by simp [h11],by simp [h22],by simp [h23],j+1,q++[y],hlt,by simp,⟨by simpa using hP8,fun w hw hf=>kak.2 (.inl (hq1 w hw hf)),fun j' w hj' hw y' hy'=>?_⟩,hqlt hqi,fun w hw=>?_⟩
   ·rw [h23,h24,zn,zn];simp [h23,zn,-Int.natCast_add];omega
   ·rw [kam (by omega)] at hw
    exact kak.2 (.inl (hq2 j' w hj' hw y' hy'))
   ·rw [htk] at hw
    rcases kak.1 hw with hw | hw
    ·exact kak.2 (.inl (hq3 w hw))
    ·exact kak.2 (.inr hw)
 ·obtain rfl:j=(x.bk x.z).length:=by omega
  rw [List.take_length] at hq3
  simp -implicitDefEqProofs [zeZ,yI,h23,h24]
  refine ⟨_,_,rfl,by simp [h3],by simp [h7],by simp [h240],by simp [h11],q,⟨by simpa [h8] using hP,hq1,fun j' w hj' hw y' hy'=>?_⟩,(kad.1 hqi).1⟩
  rcases kaq j' x.i with g | g
  ·exact hq2 j' w g hw y' hy'
  ·obtain rfl:j'=x.i:=by omega
   rw [hqi] at hw
   cases hw
   exact hq3 y' hy'
theorem UL2.P2.to {s:S} {q:List Pr} (h:x.P2 s v q) (i:Nat) (z:Pr) (lv:V):UL2.P2 { x with i:=i,z:=z,lv:=lv } s v q:=⟨h.ext,h.me_,h.seen,h.gz,h.inv⟩
theorem UL2.P2.from_ {s:S} {q:List Pr} {lv:V} (h:UL2.P2 { x with i:=i,z:=z,lv:=lv } s v q):x.P2 s v q:=⟨h.ext,h.me_,h.seen,h.gz,h.inv⟩
theorem zM3:∀ (x:UL2) tm s,x.pre66 tm s→x.post66 (za2.run (Rk Tryz.prog KB7 ltU) tm s):=by
 refine y9 (L:=ltU) zG.1 zG.2 zDK rfl (fun tm _=>268435457 - (toI (gp 11 tm)).toNat) (fun x a ⟨_,_,h,_⟩=>by rw [h];exact fun h=>h) ?_
 rintro x tm s ⟨hb,h3,h7,h240,i,q,hi,h11,hP,hq1,hq2⟩ IH
 show UL2.post66 _ (za2.run _ tm _)
 have h70:=zMg
 generalize Rk Tryz.prog _ _=r at IH h70 ⊢
 obtain ⟨⟨vS,vF,sv,hG⟩,hF,hU,hV,hT,hme⟩:=id hb
 have hlen:q.length≤268435456:=hF.sq hP.inv.nodup (fun z hz=>hV.rng z (hP.inv.sub z hz))
 generalize h8:gp 8 tm=v8 at hP
 have hl8:∀ c:V→Go.Ev.A,zz v8 c=c (iv .i64 (q.length:Int)):=fun c=>by rw [hP.gz.len,kai]
 by_cases hlt:i<q.length
 ·have hlt':((i:Int)<(q.length:Int))=True:=eq_true (by omega)
  have hw:IntKind.i64.wrap ((i:Int)+1)=((i+1:Nat):Int):=by rw [z9 (by omega) (by omega)];omega
  obtain ⟨z,hz⟩:∃ z,q[i]?=some z:=⟨_,kac hlt⟩
  have ix:=fun kk (f:V→Go.Ev.A)=>hP.gz.idx (i:=i) (by rw [kai];exact hlt) kk f
  have ld:=fun (f:V→S→Go.Ev.A)=>hP.gz.load (i:=i) (x:=pC z) (by rw [kal,hz];rfl) (jO z) f
  have hkb:Tr.get B.none x.u.kb s.h=.row [.ref 0 x.u.mb] 1 181 false 0 0 0:=by rw [hP.ext.get _ (hU.rng _ (by simp)).2];exact hU.b1
  have lkb:=fun k:V→S→Go.Ev.A=>zw hkb 0 rfl (by omega) (show V.ref 0 x.u.mb≠.bad from fun e=>by cases e) k
  simp only [List.getD_cons_zero] at lkb
  obtain ⟨tv0,-,-,bl,bck,B1⟩:=hU.t1
  have hmb:yj qu s x.u.mb bl bck:=by unfold yj;rw [hP.ext.get _ (hU.rng _ (by simp)).2];exact B1.at_
  obtain ⟨lv,hlv⟩:∃ lv,lv=(qh bl z).getD (.nil 1):=⟨_,rfl⟩
  have hzl:Gz 107 2 x.s0 x.b lv ((x.bk z).map pC):=by
   rw [hlv]
   cases hh:qh bl z with
   | none=>rw [B1.none_ z hh];exact .inl ⟨rfl,rfl⟩
   | some v=>exact (B1.some_ z v hh).1
  have lk:∀ c:V→Go.Ev.A,z4 ⟨6,[7,7]⟩ (.nil 1) false (.ref 0 x.u.mb) (.ls 0 (pC z)) s c=c lv:=fun c=>by
   rw [←y4,zcn y5 hmb,hlv]
  have hll:∀ c:V→Go.Ev.A,zz lv c=c (iv .i64 ((x.bk z).length:Int)):=fun c=>by rw [hzl.len,kai]
  simp -implicitDefEqProofs [zlo,yI,h8,h11,hl8,hlt',h3,lkb,ix,ld,lk,hll,-Int.natCast_add]
  generalize hA:za4.run r _ s=A1
  obtain ⟨tm',s2,rfl,k3,k7,k240,k11,q2,hq,hiq⟩:=hA▸h70 { x with i:=i,z:=z,lv:=lv } _ s ⟨hb,hzl,by simp [h3],by simp [h7],by simp [h240],by simp [h11],by simp,by simp,0,q,Nat.zero_le _,by simp,⟨by simpa [h8] using hP.to i z lv,hq1,hq2⟩,hz,fun y hy=>by simp at hy⟩
  simp only at k3 k7 k240 k11 hq hiq
  simp -implicitDefEqProofs [k11,hw,-Int.natCast_add]
  refine IH x _ s2 ?_ ⟨hb,by simp [k3],by simp [k7],by simp [k240],i+1,q2,hiq,by simp,by simpa using UL2.P2.from_ hq.1,hq.2⟩
  rw [h11,zn];simp [zn,-Int.natCast_add];omega
 ·obtain rfl:i=q.length:=by omega
  simp -implicitDefEqProofs [zlo,yI,h8,h11,hl8]
  exact ⟨_,_,rfl,by simp [h7],by simp [h240],q,by simpa [h8] using hP,hq1,hq2⟩
theorem zuJ (a:Go.Ev.K) (v o l c:Nat) (f:List V→Go.Ev.A):zp 1 (.sl a v o l c) f=f [.sl a v o l c]:=rfl
theorem zIv:zL Tryz.prog KB7 55:=by
 refine zaj (L:=ltU) zG.1 zG.2 (X:=Go.Ev.K × List PS) rfl ?_
 rintro ⟨gk,G⟩ a s ⟨rfl,⟨vS,vF,sv,hG⟩,hF⟩
 have h12:=zME
 have h35:=zMp
 have h58:=zM3
 generalize Rk Tryz.prog _ _=r at h12 h35 h58 ⊢
 obtain ⟨t1,e1,E1,n1,-⟩:=nB s (.map [] 0)
 obtain ⟨t2,e2,E2,n2,-⟩:=nB t1 (.row [.ref 0 s.nx] 1 181 false 0 0 0)
 obtain ⟨t3,e3,E3,n3,-⟩:=nB t2 (.map [] 0)
 obtain ⟨t4,e4⟩:∃ t4,t4=qj t3 t2.nx (.map (([((0,0),iv .i64 1,0)]:LG Pr).map (toG qu)) 1):=⟨_,rfl⟩
 obtain ⟨t5,e5,E5,n5,-⟩:=nB t4 (.row [.ref 0 t2.nx] 1 104 false 0 0 0)
 obtain ⟨t6,e6,E6,n6,-⟩:=nB t5 (.row [iv .i64 0,iv .i64 0] 2 107 false 0 0 0)
 obtain ⟨t7,e7,E7,n7,-⟩:=nB t6 (.row [.sl t5.nx 0 0 1 1] 1 111 false 0 0 0)
 obtain ⟨t8,e8,E8,n8,g8⟩:=nB t7 (.row [iv .i64 0] 1 3 false 0 0 0)
 have n4:t4.nx.toNat=t3.nx.toNat:=by rw [e4];rfl
 have k4:∀ c,c≠t2.nx→Tr.get B.none c t4.h=Tr.get B.none c t3.h:=fun c hc=>by rw [e4,zm,if_neg hc]
 have E24:Ext t2 t4:=⟨by omega,fun c hc=>by rw [k4 c (fun e=>by rw [e] at hc;omega)];exact E3.get c hc⟩
 have E48:Ext t4 t8:=(E5.trans E6).trans (E7.trans E8)
 have E08:Ext s t8:=((E1.trans E2).trans E24).trans E48
 have g1:Tr.get B.none s.nx t8.h=.map [] 0:=by rw [(E2.trans (E24.trans E48)).get _ (by omega),e1];exact zx _ _
 have g2:Tr.get B.none t1.nx t8.h=.row [.ref 0 s.nx] 1 181 false 0 0 0:=by rw [(E24.trans E48).get _ (by omega),e2];exact zx _ _
 have g4:Tr.get B.none t2.nx t8.h=.map (([((0,0),iv .i64 1,0)]:LG Pr).map (toG qu)) 1:=by rw [E48.get _ (by omega),e4,zm,if_pos rfl]
 have g5:Tr.get B.none t4.nx t8.h=.row [.ref 0 t2.nx] 1 104 false 0 0 0:=by rw [(E6.trans (E7.trans E8)).get _ (by omega),e5];exact zx _ _
 have g6:Tr.get B.none t5.nx t8.h=.row (pC (0,0)) 2 107 false 0 0 0:=by rw [(E7.trans E8).get _ (by omega),e6];exact zx _ _
 have g7:Tr.get B.none t6.nx t8.h=.row [.sl t5.nx 0 0 1 1] 1 111 false 0 0 0:=by rw [E8.get _ (by omega),e7];exact zx _ _
 have st2:=fun k:V→S→Go.Ev.A=>yT t1 181 (.nil 2) (.ref 0 s.nx) (zdA _ _) k
 have st5:=fun k:V→S→Go.Ev.A=>yT t4 104 (.nil 2) (.ref 0 t2.nx) (zdA _ _) k
 have st7:=fun k:V→S→Go.Ev.A=>yT t6 111 (.nil 1) (.sl t5.nx 0 0 1 1) (zuJ _ _ _ _ _) k
 have st8:=fun k:V→S→Go.Ev.A=>yT t7 3 (iv .i64 0) (iv .i64 0) (zaU _ _) k
 rw [←e2] at st2
 rw [←e5] at st5
 rw [←e7] at st7
 rw [←e8] at st8
 have mu:∀ k:V→S→Go.Ev.A,qw ⟨6,[7,7]⟩ (.ref 0 t2.nx) (.ls 0 [iv .i64 0,iv .i64 0]) (iv .i64 1) t3 k=k Go.Ev.undef t4:=fun k=>by
  have hm:yj qu t3 t2.nx ([]:LG Pr) 0:=by unfold yj;rw [e3];exact zx _ _
  have:=zbo y5 hm (0,0) (iv .i64 1) k
  rw [e4];exact this
 obtain ⟨u,hu⟩:∃ u:UB,u=⟨t1.nx,t6.nx,t7.nx,t4.nx,s.nx,t2.nx⟩:=⟨_,rfl⟩
 have hU8:USt s t8 u [(0,0)] (fun _=>[]) 0:=by
  rw [hu]
  refine ⟨E08,g2,g8,g5,⟨.sl t5.nx 0 0 1 1,g7,.inr ⟨t5.nx,rfl,by omega,by omega,g6,rfl⟩,[],0,⟨g1,zAX.nil,fun _ _=>rfl,(fun z v h=>by cases h),fun z z' v v' h=>by cases h⟩⟩,⟨_,_,⟨g4,rfl,fun z v h=>?_⟩⟩,fun c hc=>?_,fun e=>?_⟩
  ·simp only [qh] at h
   split at h
   ·exact (Option.some.inj h).symm
   ·cases h
  ·simp only [kaj,List.not_mem_nil,or_false] at hc
   rcases hc with rfl | rfl | rfl | rfl | rfl | rfl<;>omega
  ·have:=congrArg K.toNat e
   simp only at this
   omega
 generalize hFF:(fnC zj 55).run r _ _=F0
 simp -implicitDefEqProofs [yI,←e1,zo,st2,←e3,upd,put,mu,st5,rep,qR,←e6,st7,←e8,st8] at hFF
 generalize hA:zby.run r _ t8=A1 at hFF
 obtain ⟨tm2,s2,rfl,⟨k0,k3,k4',k5,k240⟩,ki,td,bk,hU2,hV2⟩:=hA▸h12 ⟨s,gk,G,u⟩ _ t8 ⟨⟨by simp,by simp [hu],by simp [hu],by simp [hu],by simp⟩,⟨⟨vS,vF,sv,hG⟩,hF⟩,by simp [hu],[(0,0)],fun _=>[],0,Nat.zero_le _,hU8,UInv.init hF⟩
 simp only at k0 k3 k4' k5 hU2 hV2
 obtain ⟨tv,g9,hT,-⟩:=hU2.t1
 obtain ⟨s3,e9,E9,n9,g10⟩:=nB s2 (.map [] 0)
 have g9':Tr.get B.none u.kt s3.h=.row [tv] 1 111 false 0 0 0:=by rw [E9.get _ (hU2.rng _ (by simp)).2];exact g9
 have ldt:=fun k:V→S→Go.Ev.A=>zw g9' 0 rfl (by omega) (show tv≠.bad from hT.ne) k
 simp only [List.getD_cons_zero] at ldt
 have hln:=fun c:V→Go.Ev.A=>hT.len c
 simp -implicitDefEqProofs [←e9,k5,ldt,hln] at hFF
 obtain ⟨x,hx⟩:∃ x:UL2,x=⟨s,s2,gk,G,{ u with ki:=ki },td,bk,tv,s2.nx,0,(0,0),.nil 1⟩:=⟨_,rfl⟩
 have hb:x.base:=by rw [hx];exact ⟨⟨vS,vF,sv,hG⟩,hF,hU2,hV2,hT,kab _⟩
 have hP0:x.P2 s3 (.nil 1) []:=by
  rw [hx]
  exact ⟨E9,by show s2.nx.toNat<_;omega,⟨[],0,g10,rfl,fun z v h=>by cases h⟩,.inl ⟨rfl,rfl⟩,(fun z h=>by cases h),List.nodup_nil,fun z h=>by cases h⟩
 generalize hB:zbl.run r _ s3=B1 at hFF
 obtain ⟨tm4,s4,rfl,m3,m7,m240,q,hP4,hq4⟩:=hB▸h35 x _ s3 ⟨hb,by rw [hx];simp [k0],by rw [hx];simp [k3],by rw [hx];simp,by simp [k240],by rw [hx];simp,by rw [hx];simp,0,[],Nat.zero_le _,by simp,by simpa using hP0,(fun z h=>by cases h),fun z h=>by simp at h⟩
 simp -implicitDefEqProofs at hFF
 generalize hC:za2.run r _ s4=C1 at hFF
 obtain ⟨tm5,s5,rfl,w7,w240,q5,hP5,hq5,hc5⟩:=hC▸h58 x _ s4 ⟨hb,by simp [m3],by simp [m7],by simp [m240],0,q,Nat.zero_le _,by simp,by simpa using hP4,hq4,fun j z hj=>by omega⟩
 simp -implicitDefEqProofs [w7,w240] at hFF
 have hfin:=hP5.inv.final (by rw [hx];exact hV2) hq5 (fun z hz y hy=>by
  obtain ⟨j,hj,hjz⟩:=List.getElem_of_mem hz
  exact hc5 j z hj (by rw [kac hj,hjz]) y hy)
 obtain ⟨el,eck,hS⟩:=hP5.seen
 have hme:=hP5.me_
 have hex:=hP5.ext
 rw [hx] at hfin hS hme hex hFF
 exact ⟨_,s5,hFF.symm,hU2.ext.trans hex,s2.nx,q5,el,eck,rfl,hU2.ext.nx,hme,hS,hfin⟩
theorem zJb (x y:List Int):(qK x y).1.length≤x.length∧(qK x y).2.length≤y.length:=by
 obtain ⟨c,h1,h2,-⟩:=zeA x y
 generalize qK x y=d at h1 h2
 subst h1 h2
 simp
structure DBase (G:List PS) (td:List Pr) (dl:Pr→Option Dl):Prop where
 nodup:td.Nodup
 zero:td[0]?=some (0,0)∧dl (0,0)=some ([],[])
 keys:∀ z,z∈td↔dl z≠none
 rng:∀ z∈td,z.1<G.length∧z.2<G.length
 len:∀ j z d,td[j]?=some z→dl z=some d→d.1.length≤13*j∧d.2.length≤13*j
structure DOk (G:List PS) (td:List Pr) (dl:Pr→Option Dl) (i m:Nat) (dn:List (Stp × Stp)):Prop where
 kn:∀ z d,dl z=some d→Kn (z5 G) z.1 z.2 d
 fin:∀ j z d,j<m→td[j]?=some z→dl z=some d→zaA (z5 G) z→d=([],[])
 done:∀ j z d,j<i→td[j]?=some z→dl z=some d→∀ e∈(z5 G).steps z.1,∀ e'∈(z5 G).steps z.2,e.2.1=e'.2.1→Usf (z5 G) e.2.2 e'.2.2→dl (e.2.2,e'.2.2)=some (qK (d.1++e.1) (d.2++e'.1))
 cur:∀ z d,td[i]?=some z→dl z=some d→∀ p∈dn,Usf (z5 G) p.1.2.2 p.2.2.2→dl (p.1.2.2,p.2.2.2)=some (qK (d.1++p.1.1) (d.2++p.2.1))
structure DInv (G:List PS) (td:List Pr) (dl:Pr→Option Dl) (ok:Bool) (i m:Nat) (dn:List (Stp × Stp)):Prop where
 base:DBase G td dl
 yes:ok=true→DOk G td dl i m dn
 no:ok=false→¬zjE (z5 G)
def dl0:Pr→Option Dl:=fun z=>if z=(0,0) then some ([],[]) else none
theorem DInv.init (h:GFin G):DInv G [(0,0)] dl0 true 0 0 []:=by
 refine ⟨⟨by simp,⟨rfl,rfl⟩,fun z=>?_,fun z hz=>?_,fun j z d hj hd=>?_⟩,fun _=>⟨fun z d hd=>?_,fun j z d hj=>by omega,fun j z d hj=>by omega,(fun z d _ _ p hp=>by cases hp)⟩,fun e=>by cases e⟩
 ·unfold dl0
  by_cases g:z=(0,0)<;>simp [g]
 ·rw [kag.1 hz];exact ⟨h.pos,h.pos⟩
 ·unfold dl0 at hd
  split at hd
  ·cases hd;simp
  ·cases hd
 ·unfold dl0 at hd
  split at hd
  ·rename_i e;cases hd;subst e;exact Kn.zero
  ·cases hd
theorem DInv.visit {ok:Bool} {dn:List (Stp × Stp)} (h:DInv G td dl ok i (i+1) dn) (hG:GFin G) (hin:∀ x∈G,∀ e∈x.st,e.1.length≤13) (hends:∀ z,z∈ends↔Usf (z5 G) z.1 z.2) (hz:td[i]?=some z) (hd:dl z=some d) (hp:G[z.1]?=some xp) (hq:G[z.2]?=some xq) (he:(e,e')∈qq xp.st xq.st) :
  (fun to d'=>DInv G (if to∈ends∧dl to=none then td++[to] else td) (if to∈ends∧dl to=none then wX dl to d' else dl) (if to∈ends then ok && !zb4 dl to d' else ok) i (i+1) (dn++[(e,e')]) ∧
   (if to∈ends∧dl to=none then td++[to] else td)[i]?=some z∧(if to∈ends∧dl to=none then wX dl to d' else dl) z=some d) (e.2.2,e'.2.2) (qK (d.1++e.1) (d.2++e'.1)):=by
 obtain ⟨h1,h2,h3⟩:=zbc.1 he
 have hs1:e∈(z5 G).steps z.1:=by rw [yY hp];exact h1
 have hs2:e'∈(z5 G).steps z.2:=by rw [yY hq];exact h2
 obtain ⟨to,hto⟩:∃ to:Pr,to=(e.2.2,e'.2.2):=⟨_,rfl⟩
 obtain ⟨d',hd'⟩:∃ d',d'=qK (d.1++e.1) (d.2++e'.1):=⟨_,rfl⟩
 show DInv G (if (e.2.2,e'.2.2)∈ends∧dl (e.2.2,e'.2.2)=none then td++[(e.2.2,e'.2.2)] else td) (if (e.2.2,e'.2.2)∈ends∧dl (e.2.2,e'.2.2)=none then wX dl (e.2.2,e'.2.2) (qK (d.1++e.1) (d.2++e'.1)) else dl) (if (e.2.2,e'.2.2)∈ends then ok && !zb4 dl (e.2.2,e'.2.2) (qK (d.1++e.1) (d.2++e'.1)) else ok) i (i+1) (dn++[(e,e')]) ∧
   (if (e.2.2,e'.2.2)∈ends∧dl (e.2.2,e'.2.2)=none then td++[(e.2.2,e'.2.2)] else td)[i]?=some z∧(if (e.2.2,e'.2.2)∈ends∧dl (e.2.2,e'.2.2)=none then wX dl (e.2.2,e'.2.2) (qK (d.1++e.1) (d.2++e'.1)) else dl) z=some d
 rw [←hto,←hd']
 have hu:to∈ends↔Usf (z5 G) e.2.2 e'.2.2:=by rw [hends,hto]
 by_cases hE:to∈ends
 case neg =>
  rw [if_neg (fun g=>hE g.1),if_neg (fun g=>hE g.1),if_neg hE]
  refine ⟨⟨h.base,fun ho=>?_,h.no⟩,hz,hd⟩
  obtain ⟨k1,k2,k3,k4⟩:=h.yes ho
  refine ⟨k1,k2,k3,fun y dy hy hdy p hpd hup=>?_⟩
  rcases kak.1 hpd with hpd | hpd
  ·exact k4 y dy hy hdy p hpd hup
  ·rw [kag.1 hpd] at hup
   exact absurd (hu.2 hup) hE
 case pos =>
 have hU:=hu.1 hE
 rw [if_pos hE]
 have hwf1:=hG.wf xp (kae hp) e h1
 have hwf2:=hG.wf xq (kae hq) e' h2
 have hl1:=hin xp (kae hp) e h1
 have hl2:=hin xq (kae hq) e' h2
 have hil:=(kad.1 hz).1
 have hlen:=h.base.len i z d hz hd
 have hsl:=zJb (d.1++e.1) (d.2++e'.1)
 rw [←hd',kah,kah] at hsl
 -- what is bad
 have hbad:ok=true→zb4 dl to d'=true→¬zjE (z5 G):=fun ho hb=>by
  obtain ⟨k1,-,-,-⟩:=h.yes ho
  have hk:=k1 z d hd
  by_cases hr:red d'
  ·have hkt:Kn (z5 G) e.2.2 e'.2.2 d':=by
    obtain ⟨x,x',y,c,g1,g2,g3,g4⟩:=hk.steps hs1 hs2 h3
    rw [←hd'] at g3 g4
    exact ⟨hr,x,x',y,c,g1,g2,g3,g4⟩
   unfold zb4 at hb
   have hnb:(decide (0<d'.1.length) && decide (0<d'.2.length))=false:=by
    rcases hr with hr | hr<;>simp [hr]
   rw [hnb,Bool.false_or] at hb
   cases hh:dl to with
   | none=>rw [hh] at hb;cases hb
   | some d0 =>
    rw [hh] at hb
    have hne:d'≠d0:=fun e=>by simp [e] at hb
    have hk0:=k1 to d0 hh
    rw [hto] at hk0
    exact hkt.clash hk0 hU hne
  ·exact hk.broken hs1 hs2 h3 hU (by rw [←hd'];exact hr)
 have hred:zb4 dl to d'=false→red d':=fun hb=>by
  unfold zb4 at hb
  simp only [Bool.or_eq_false_iff,Bool.and_eq_false_iff,decide_eq_false_iff_not,Nat.not_lt,Nat.le_zero] at hb
  rcases hb.1 with g | g
  ·exact .inl (kaw.1 g)
  ·exact .inr (kaw.1 g)
 cases hh:dl to with
 | none =>
  have hnt:¬to∈td:=fun g=>(h.base.keys to).1 g hh
  have hzt:z≠to:=fun g=>by rw [g,hh] at hd;cases hd
  rw [if_pos ⟨hE,rfl⟩,if_pos ⟨hE,rfl⟩]
  have zY:∀ {j:Nat} {y:Pr},j<td.length→((td++[to])[j]?=some y↔td[j]?=some y):=fun {j y} hj=>by rw [kam hj]
  have jP:∀ {y:Pr},y∈td→wX dl to d' y=dl y:=fun {y} hy=>by
   unfold wX
   rw [if_neg (fun g:y=to=>hnt (g▸hy))]
  refine ⟨⟨⟨?_,⟨?_,?_⟩,fun y=>?_,fun y hy=>?_,fun j y dy hj hdy=>?_⟩,fun ho=>?_,fun ho=>?_⟩,by rw [zY hil];exact hz,by rw [jP (kae hz)];exact hd⟩
  ·exact kaP.2 ⟨h.base.nodup,by simp,fun a ha b hb e2=>by
    rw [kag.1 hb] at e2
    rw [e2] at ha
    exact hnt ha⟩
  ·rw [zY (by omega)];exact h.base.zero.1
  ·rw [jP (kae h.base.zero.1)];exact h.base.zero.2
  ·rw [kak,kag,h.base.keys]
   unfold wX
   by_cases g:y=to
   ·simp [g]
   ·simp [g]
  ·rcases kak.1 hy with hy | hy
   ·exact h.base.rng y hy
   ·rw [kag.1 hy,hto];exact ⟨hwf1,hwf2⟩
  ·rcases kaq j td.length with g | g
   ·rw [zY g] at hj
    rw [jP (kae hj)] at hdy
    exact h.base.len j y dy hj hdy
   ·have hj2:=(kad.1 hj).1
    rw [kah,List.length_singleton] at hj2
    obtain rfl:j=td.length:=by omega
    rw [kax (kab _),Nat.sub_self] at hj
    have:y=to:=by simpa using hj.symm
    rw [this] at hdy
    unfold wX at hdy
    rw [if_pos rfl] at hdy
    cases hdy
    omega
  ·rw [kas,Bool.not_eq_true'] at ho
   obtain ⟨k1,k2,k3,k4⟩:=h.yes ho.1
   have hr:=hred ho.2
   have hdl:∀ {y:Pr} {w:Dl},dl y=some w→wX dl to d' y=some w:=fun {y w} hy=>by rw [jP ((h.base.keys y).2 (by rw [hy];simp))];exact hy
   have hback:∀ {j:Nat} {y:Pr} {w:Dl},j≤i→(td++[to])[j]?=some y→wX dl to d' y=some w→td[j]?=some y∧dl y=some w:=fun {j y w} hj hy hw=>by
    rw [zY (by omega)] at hy
    rw [jP (kae hy)] at hw
    exact ⟨hy,hw⟩
   refine ⟨fun y dy hdy=>?_,fun j y dy hj hy hdy hf=>?_,fun j y dy hj hy hdy a ha b hb hab hU2=>?_,fun y dy hy hdy p hpd hup=>?_⟩
   ·unfold wX at hdy
    by_cases g:y=to
    ·rw [if_pos g] at hdy
     cases hdy
     obtain ⟨x,x',w,c,g1,g2,g3,g4⟩:=(k1 z d hd).steps hs1 hs2 h3
     rw [←hd'] at g3 g4
     rw [g,hto]
     exact ⟨hr,x,x',w,c,g1,g2,g3,g4⟩
    ·rw [if_neg g] at hdy
     exact k1 y dy hdy
   ·obtain ⟨g1,g2⟩:=hback (by omega) hy hdy
    exact k2 j y dy hj g1 g2 hf
   ·obtain ⟨g1,g2⟩:=hback (by omega) hy hdy
    exact hdl (k3 j y dy hj g1 g2 a ha b hb hab hU2)
   ·obtain ⟨g1,g2⟩:=hback (kab _) hy hdy
    rcases kak.1 hpd with hpd | hpd
    ·exact hdl (k4 y dy g1 g2 p hpd hup)
    ·rw [kag.1 hpd]
     rw [hz] at g1
     cases g1
     rw [hd] at g2
     cases g2
     show wX dl to d' (e.2.2,e'.2.2)=some (qK (d.1++e.1) (d.2++e'.1))
     rw [←hto,←hd']
     unfold wX
     rw [if_pos rfl]
  ·cases ok with
   | false=>exact h.no rfl
   | true =>
    refine hbad rfl ?_
    cases hb:zb4 dl to d' with
    | true=>rfl
    | false=>rw [hb] at ho;cases ho
 | some d0 =>
  rw [if_neg (fun g=>by cases g.2),if_neg (fun g=>by cases g.2)]
  refine ⟨⟨h.base,fun ho=>?_,fun ho=>?_⟩,hz,hd⟩
  ·rw [kas,Bool.not_eq_true'] at ho
   obtain ⟨k1,k2,k3,k4⟩:=h.yes ho.1
   refine ⟨k1,k2,k3,fun y dy hy hdy p hpd hup=>?_⟩
   rcases kak.1 hpd with hpd | hpd
   ·exact k4 y dy hy hdy p hpd hup
   ·rw [kag.1 hpd]
    rw [hz] at hy
    cases hy
    rw [hd] at hdy
    cases hdy
    show dl (e.2.2,e'.2.2)=some (qK (d.1++e.1) (d.2++e'.1))
    rw [←hto,←hd',hh]
    have hb:=ho.2
    unfold zb4 at hb
    rw [hh] at hb
    simp only [Bool.or_eq_false_iff,decide_eq_false_iff_not,ne_eq,Decidable.not_not] at hb
    rw [show d'=d0 from Prod.ext hb.2.1 hb.2.2]
  ·cases ok with
   | false=>exact h.no rfl
   | true =>
    refine hbad rfl ?_
    cases hb:zb4 dl to d' with
    | true=>rfl
    | false=>rw [hb] at ho;cases ho
theorem DInv.next (h:DInv G td dl true i (i+1) (qq xp.st xq.st)) (hz:td[i]?=some z) (hd:dl z=some d) (hp:G[z.1]?=some xp) (hq:G[z.2]?=some xq):DInv G td dl true (i+1) (i+1) []:=by
 refine ⟨h.base,fun _=>?_,h.no⟩
 obtain ⟨k1,k2,k3,k4⟩:=h.yes rfl
 refine ⟨k1,k2,fun j y dy hj hy hdy e he e' he' hs hU=>?_,(fun _ _ _ _ p hp=>by cases hp)⟩
 rcases kaq j i with g | g
 ·exact k3 j y dy g hy hdy e he e' he' hs hU
 ·obtain rfl:j=i:=by omega
  rw [hz] at hy
  cases hy
  rw [hd] at hdy
  cases hdy
  rw [yY hp] at he
  rw [yY hq] at he'
  exact k4 z d hz hd (e,e') (zbc.2 ⟨he,he',hs⟩) hU
theorem DInv.look (h:DInv G td dl true i i []) (hz:td[i]?=some z) (hd:dl z=some d):(zaA (z5 G) z∧d≠([],[])→¬zjE (z5 G))∧(¬(zaA (z5 G) z∧d≠([],[]))→DInv G td dl true i (i+1) []):=by
 obtain ⟨k1,k2,k3,k4⟩:=h.yes rfl
 refine ⟨fun ⟨hf,hne⟩=>(k1 z d hd).fin hf.1 hf.2 hne,fun hn=>⟨h.base,fun _=>⟨k1,fun j y dy hj hy hdy hf=>?_,k3,k4⟩,h.no⟩⟩
 rcases kaq j i with g | g
 ·exact k2 j y dy g hy hdy hf
 ·obtain rfl:j=i:=by omega
  rw [hz] at hy
  cases hy
  rw [hd] at hdy
  cases hdy
  exact Classical.byContradiction fun hne=>hn ⟨hf,hne⟩
theorem DInv.final (h:DInv G td dl true td.length td.length []):zjE (z5 G):=by
 obtain ⟨k1,k2,k3,-⟩:=h.yes rfl
 have idx:∀ z d,dl z=some d→∃ j,j<td.length∧td[j]?=some z:=fun z d hd=>by
  have:z∈td:=(h.base.keys z).2 (by rw [hd];simp)
  obtain ⟨j,hj,hjz⟩:=List.getElem_of_mem this
  exact ⟨j,hj,by rw [kac hj,hjz]⟩
 refine Lab.inj (δ:=fun p q=>dl (p,q)) ⟨h.base.zero.2,fun p q d hd hp hq=>?_,fun p q d hd e he e' he' hs hU=>?_⟩
 ·obtain ⟨j,hj,hz⟩:=idx (p,q) d hd
  exact k2 j (p,q) d hj hz hd ⟨hp,hq⟩
 ·obtain ⟨j,hj,hz⟩:=idx (p,q) d hd
  exact k3 j (p,q) d hj hz hd e he e' he' hs hU
noncomputable def KB8:Nat→Ct
 | 29=>ctI (X:=Go.Ev.K × List PS) (fun ⟨gk,G⟩ a s=>a=[.ptr gk 0 0]∧(∃ vS vF sv,GRd s gk G vS vF sv)∧GFin G∧∀ x∈G,∀ e∈x.st,e.1.length≤13)
   (fun ⟨_,G⟩ s v s'=>Ext s s'∧∃ b,v=.bool b∧(b=true↔zjE (z5 G)))
 | f=>KB7 f
theorem ISt.newF {s:S} {ok:Bool} {fr:Pr} (h:ISt s0 s ib ends td dl ok fr) (z:Pr):ISt s0 (zN s (.row (pC z) 2 107 false 0 0 0)) { ib with kf:=s.nx } ends td dl ok z:=by
 have e:=zO s (.row (pC z) 2 107 false 0 0 0)
 have hg:=zx s (.row (pC z) 2 107 false 0 0 0)
 have hn:=ziG s (.row (pC z) 2 107 false 0 0 0)
 have h2:=h.later e
 have h0:=h.ext.nx
 refine ⟨h2.ext,h2.u1,h2.k1,hg,h2.o1,h2.t1,h2.e1,h2.d1,fun c hc=>?_,h2.ne⟩
 simp only [kaj,List.not_mem_nil,or_false] at hc
 rcases hc with rfl | rfl | rfl | rfl | rfl | rfl | rfl
 ·exact h2.rng _ (by simp)
 ·exact h2.rng _ (by simp)
 ·exact ⟨h0,by omega⟩
 ·exact h2.rng _ (by simp)
 ·exact h2.rng _ (by simp)
 ·exact h2.rng _ (by simp)
 ·exact h2.rng _ (by simp)
structure IL where
 s0:S
 gk:Go.Ev.K
 G:List PS
 ib:IB
 ends:List Pr
def IL.base (x:IL):Prop:=(∃ vS vF sv,GRd x.s0 x.gk x.G vS vF sv)∧GFin x.G∧(∀ y∈x.G,∀ e∈y.st,e.1.length≤13)∧∀ z,z∈x.ends↔Usf (z5 x.G) z.1 z.2
def IL.fr (x:IL) (tm:T):Prop:=gp 0 tm=.ptr x.gk 0 0∧gp 3 tm=.ptr x.ib.ku 0 0∧gp 4 tm=.ptr x.ib.kk 0 0∧gp 5 tm=.ptr x.ib.kt 0 0∧gp 6 tm=.ptr x.ib.ko 0 0∧gp 240 tm=.bad
def IL.pre (x:IL) (tm:T) (s:S):Prop:=x.base∧x.fr tm∧∃ (td:List Pr) (dl:Pr→Option Dl) (fr:Pr) (i:Nat),i≤td.length∧gp 7 tm=iv .i64 (i:Int)∧ISt x.s0 s x.ib x.ends td dl true fr∧DInv x.G td dl true i i []
def IL.post (x:IL) (a:Go.Ev.A):Prop:=∃ tm s b,a=.ext 0 tm s∧gp 6 tm=.ptr x.ib.ko 0 0∧gp 240 tm=.bad∧Ext x.s0 s∧Tr.get B.none x.ib.ko s.h=.row [.bool b] 1 4 false 0 0 0∧(b=true↔zjE (z5 x.G))
theorem zM7:∀ (x:IL) tm s,x.pre tm s→x.post (zdX.run (Rk Tryz.prog KB8 fun _=>ltI IL.pre IL.post) tm s):=by
 refine y9 (L:=fun _=>ltI IL.pre IL.post) zG.1 zG.2 zJa rfl (fun tm _=>268435457 - (toI (gp 7 tm)).toNat) (fun x a ⟨_,_,_,h,_⟩=>by rw [h];exact fun h=>h) ?_
 rintro ⟨s0,gk,G,ib,ends⟩ tm s ⟨⟨⟨vS,vF,sv,hG⟩,hF,hin,hends⟩,⟨h0,h3,h4,h5,h6,h240⟩,td,dl,fr,i,hi,h7,hI,hV⟩ IH
 show IL.post _ (zdX.run _ tm _)
 have hEa:=qV (zQ (L:=fun _=>ltI IL.pre IL.post) (show zL Tryz.prog KB8 56 from zHF)) (X:=EaX) rfl
 generalize Rk Tryz.prog _ _=r at IH hEa ⊢
 simp only at h0 h3 h4 h5 h6 hG hF hin hends hI hV
 have hsq:=hF.sq hV.base.nodup hV.base.rng
 obtain ⟨-,-,-,-,-,⟨tv,l5,ht⟩,-⟩:=hI.loads
 have hlen:=fun c:V→Go.Ev.A=>ht.len c
 by_cases hlt:i<td.length
 case neg =>
  obtain rfl:i=td.length:=by omega
  simp -implicitDefEqProofs [jG,zak,h5,h7,l5,hlen]
  exact ⟨_,_,true,rfl,by simp [h6],by simp [h240],hI.ext,hI.o1,fun _=>hV.final,fun _=>rfl⟩
 case pos =>
 have hlt':((i:Int)<(td.length:Int))=True:=eq_true (by omega)
 have hw:IntKind.i64.wrap ((i:Int)+1)=((i+1:Nat):Int):=by rw [z9 (by omega) (by omega)];omega
 obtain ⟨z,hz⟩:∃ z,td[i]?=some z:=⟨_,kac hlt⟩
 have hzm:=kae hz
 obtain ⟨p,ix,ld⟩:=ht.at_ hz
 obtain ⟨hz1,hz2⟩:=hV.base.rng z hzm
 obtain ⟨xp,hp⟩:∃ xp,G[z.1]?=some xp:=⟨_,kac hz1⟩
 obtain ⟨xq,hq⟩:∃ xq,G[z.2]?=some xq:=⟨_,kac hz2⟩
 obtain ⟨d,hd⟩:=kaz.1 ((hV.base.keys z).1 hzm)
 obtain ⟨s1,hs1,E1,n1,g1⟩:=nB s (.row (pC z) 2 107 false 0 0 0)
 have I1:=hI.newF z
 rw [←hs1] at I1
 have st1:=fun k:V→S→Go.Ev.A=>qX s 107 2 [iv .i64 0,iv .i64 0] (pC z) rfl rfl k
 rw [←hs1] at st1
 have nr0:∀ (c:Go.Ev.K→Nat→S→Go.Ev.A),Go.Ev.newRow s 107 [iv .i64 0,iv .i64 0] false c=c s.nx 2 (zN s (.row [iv .i64 0,iv .i64 0] 2 107 false 0 0 0)):=fun c=>zo s 107 _ false c
 obtain ⟨-,m2,m3,-,-,-,m7⟩:=I1.loads
 obtain ⟨ax,ay,ha,hb,-,q4⟩:=(m7 z).2 d hd
 have lp1:=fun k:V→S→Go.Ev.A=>qT g1 rfl (jO z) k
 obtain ⟨s2,hs2,E2,n2,g2⟩:=nB s1 (.row [ax,ay] 2 109 false 0 0 0)
 have g1b:Tr.get B.none s.nx s2.h=.row (pC z) 2 107 false 0 0 0:=by rw [E2.get _ (by omega)];exact g1
 have st2:=fun k:V→S→Go.Ev.A=>qX s1 109 2 [.nil 1,.nil 1] [ax,ay] rfl rfl k
 rw [←hs2] at st2
 have nr9:∀ (c:Go.Ev.K→Nat→S→Go.Ev.A),Go.Ev.newRow s1 109 [.nil 1,.nil 1] false c=c s1.nx 2 (zN s1 (.row [.nil 1,.nil 1] 2 109 false 0 0 0)):=fun c=>zo s1 109 _ false c
 have I2:=I1.later E2
 obtain ⟨-,l1,hat⟩:=(hG.later I2.ext).at_
 obtain ⟨-,-,c1,c2,-,-⟩:=hat _ _ hp
 obtain ⟨-,-,d1,d2,-,-⟩:=hat _ _ hq
 have b0:=fun k:V→S→Go.Ev.A=>zw g1b 0 rfl (by omega) (show iv .i64 (z.1:Int)≠.bad from yN _ _) k
 have b1:=fun k:V→S→Go.Ev.A=>zw g1b 1 rfl (by omega) (show iv .i64 (z.2:Int)≠.bad from yN _ _) k
 have a0:=fun k:V→S→Go.Ev.A=>zw g2 0 rfl (by omega) (show ax≠.bad from ha.1.ne) k
 have a1:=fun k:V→S→Go.Ev.A=>zw g2 1 rfl (by omega) (show ay≠.bad from hb.1.ne) k
 simp only [pC,List.getD_cons_zero,List.getD_cons_succ] at b0 b1 a0 a1
 have hla:∀ c:V→Go.Ev.A,zz ax c=c (iv .i64 (d.1.length:Int)):=fun c=>by rw [ha.1.1.len,←zA s1 ax,ha.2.1]
 have hlb:∀ c:V→Go.Ev.A,zz ay c=c (iv .i64 (d.2.length:Int)):=fun c=>by rw [hb.1.1.len,←zA s1 ay,hb.2.1]
 obtain ⟨okE,I2f,-⟩:=I2.setOk false
 have okE:∀ k:V→S→Go.Ev.A,zJ 1 (.ptr ib.ko 0 0) (.bool false) s2 k=k Go.Ev.undef (qj s2 ib.ko (.row [.bool false] 1 4 false 0 0 0)):=okE
 have hfull:zaA (z5 G) z↔(xp.fl=true∧xq.fl=true):=by unfold zaA;rw [jA hp,jA hq]
 have hdne:d≠([],[])↔(0<d.1.length∨0<d.2.length):=by
  rcases d with ⟨u,w⟩
  cases u<;>cases w<;>simp
 obtain ⟨hlook1,hlook2⟩:=hV.look hz hd
 have main:DInv G td dl true i (i+1) []→∃ v7 s3 td2 dl2 ok2,r.call 56 [.ptr gk 0 0,.ls 0 (pC z),.fn (.func 57) [] [.ptr ib.ku 0 0,.ptr ib.kk 0 0,.ptr s.nx 0 0,.ptr ib.ko 0 0,.ptr ib.kt 0 0]] s2=.ret v7 s3∧ISt s0 s3 { ib with kf:=s.nx } ends td2 dl2 ok2 z∧DInv G td2 dl2 ok2 i (i+1) (qq xp.st xq.st)∧td2[i]?=some z∧dl2 z=some d:=by
  intro hV1
  obtain ⟨v7,s3,e7,td2,dl2,ok2,I3,hV3,hz3,hd3⟩:=hEa ⟨s0,gk,G,z.1,z.2,xp,xq,57,[.ptr ib.ku 0 0,.ptr ib.kk 0 0,.ptr s.nx 0 0,.ptr ib.ko 0 0,.ptr ib.kt 0 0],fun dn s'=>∃ td dl ok,ISt s0 s' { ib with kf:=s.nx } ends td dl ok z∧DInv G td dl ok i (i+1) dn∧td[i]?=some z∧dl z=some d⟩ _ s2 ⟨rfl,⟨.inr rfl,⟨vS,vF,sv,hG⟩,hp,hq,hF.st xp (kae hp),hF.st xq (kae hq),fun dn s ⟨_,_,_,h,_⟩=>h.ext,fun dn s s' ⟨td,dl,ok,k1,k2,k3⟩ e=>⟨td,dl,ok,k1.later e,k2,k3⟩,fun dn s' e e' x y ⟨td,dl,ok,k1,k2,k3,k4⟩ hpre hx hxw hy hyw=>by
   have hmem:(e,e')∈qq xp.st xq.st:=hpre.subset (by simp)
   have hsq2:=hF.sq k2.base.nodup k2.base.rng
   obtain ⟨m1,m2,-⟩:=zbc.1 hmem
   have hl1:=hin xp (kae hp) e m1
   have hl2:=hin xq (kae hq) e' m2
   have hil:=(kad.1 k3).1
   have hdl:=k2.base.len i z d k3 k4
   have hpre2:IcX.pre ⟨s0,{ ib with kf:=s.nx },ends,td,dl,ok,z,d,(e.2.2,e'.2.2),x,y,e.1,e'.1⟩ ([qu (e.2.2,e'.2.2),x,y]++[.ptr ib.ku 0 0,.ptr ib.kk 0 0,.ptr s.nx 0 0,.ptr ib.ko 0 0,.ptr ib.kt 0 0]) s':=⟨rfl,k1,k4,hx,hy,hxw,hyw,by simp only;omega,by simp only;omega,by simp only;omega⟩
   refine ⟨⟨_,hpre2⟩,fun v s'' hpost=>?_⟩
   obtain ⟨q1,q2⟩:=hpost _ hpre2
   obtain ⟨q3,q4,q5⟩:=k2.visit hF hin hends k3 k4 hp hq hmem
   exact ⟨⟨_,_,_,q1,q3,q4,q5⟩,q2⟩⟩,td,dl,true,I2,hV1,hz,hd⟩
  exact ⟨v7,s3,td2,dl2,ok2,e7,I3,hV3,hz3,hd3⟩
 have lp2:=fun k:V→S→Go.Ev.A=>qT g1b rfl (jO z) k
 have endF:∀ {s3:S} {td2:List Pr} {dl2:Pr→Option Dl},ISt s0 s3 { ib with kf:=s.nx } ends td2 dl2 false z→DInv G td2 dl2 false i (i+1) (qq xp.st xq.st)→∀ tm2,gp 6 tm2=.ptr ib.ko 0 0→gp 240 tm2=.bad→IL.post ⟨s0,gk,G,ib,ends⟩ (.ext 0 tm2 s3):=fun I3 hV3 tm2 h1 h2=>⟨_,_,false,rfl,h1,h2,I3.ext,I3.o1,fun e=>(by cases e),fun h=>absurd h (hV3.no rfl)⟩
 have endT:∀ {s3:S} {td2:List Pr} {dl2:Pr→Option Dl},ISt s0 s3 { ib with kf:=s.nx } ends td2 dl2 true z→DInv G td2 dl2 true i (i+1) (qq xp.st xq.st)→td2[i]?=some z→dl2 z=some d→∀ tm2,gp 0 tm2=.ptr gk 0 0→gp 3 tm2=.ptr ib.ku 0 0→gp 4 tm2=.ptr ib.kk 0 0→gp 5 tm2=.ptr ib.kt 0 0→gp 6 tm2=.ptr ib.ko 0 0→gp 240 tm2=.bad→gp 7 tm2=iv .i64 ((i+1:Nat):Int)→IL.post ⟨s0,gk,G,ib,ends⟩ (r.code wz ziU tm2 s3):=by
  intro s3 td2 dl2 I3 hV3 hz3 hd3 tm2 w0 w3 w4 w5 w6 w240 w7
  refine IH ⟨s0,gk,G,{ ib with kf:=s.nx },ends⟩ tm2 s3 ?_ ⟨⟨⟨vS,vF,sv,hG⟩,hF,hin,hends⟩,⟨w0,w3,w4,w5,w6,w240⟩,td2,dl2,z,i+1,(kad.1 hz3).1,w7,I3,hV3.next hz3 hd3 hp hq⟩
  rw [h7,w7,zn,zn]
  simp only [Int.toNat_natCast]
  omega
 have bad:zaA (z5 G) z∧d≠([],[])→∀ tm2,gp 6 tm2=.ptr ib.ko 0 0→gp 240 tm2=.bad→IL.post ⟨s0,gk,G,ib,ends⟩ (.ext 0 tm2 (qj s2 ib.ko (.row [.bool false] 1 4 false 0 0 0))):=fun h tm2 h1 h2=>⟨_,_,false,rfl,h1,h2,I2f.ext,I2f.o1,fun e=>(by cases e),fun h'=>absurd h' (hlook1 h)⟩
 generalize qj s2 ib.ko (.row [.bool false] 1 4 false 0 0 0)=s9 at okE bad
 by_cases hf1:xp.fl=true
 ·rw [hf1] at c2
  by_cases hf2:xq.fl=true
  ·rw [hf2] at d2
   by_cases hda:0<d.1.length
   ·have hda':((0:Int)<(d.1.length:Int))=True:=eq_true (by omega)
    simp -implicitDefEqProofs [jG,zak,h0,h4,h5,h6,h7,l5,hlen,hlt',ix,ld,nr0,st1,m2,lp1,q4,nr9,st2,l1,b0,b1,c1,c2,d1,d2,a0,hla,hda,okE]
    exact bad ⟨hfull.2 ⟨hf1,hf2⟩,hdne.2 (.inl hda)⟩ _ (by simp [h6]) (by simp [h240])
   ·have hda':((0:Int)<(d.1.length:Int))=False:=eq_false (by omega)
    by_cases hdb:0<d.2.length
    ·have hdb':((0:Int)<(d.2.length:Int))=True:=eq_true (by omega)
     simp -implicitDefEqProofs [jG,zak,h0,h4,h5,h6,h7,l5,hlen,hlt',ix,ld,nr0,st1,m2,lp1,q4,nr9,st2,l1,b0,b1,c1,c2,d1,d2,a0,a1,hla,hlb,hda,hdb,okE]
     exact bad ⟨hfull.2 ⟨hf1,hf2⟩,hdne.2 (.inr hdb)⟩ _ (by simp [h6]) (by simp [h240])
    ·have hdb':((0:Int)<(d.2.length:Int))=False:=eq_false (by omega)
     have hV1:=hlook2 fun h=>(hdne.1 h.2).elim hda hdb
     obtain ⟨v7,s3,td2,dl2,ok2,e7,I3,hV3,hz3,hd3⟩:=main hV1
     have l3:∀ k:V→S→Go.Ev.A,zd false 1 (.ptr ib.ko 0 0) s3 k=k (.bool ok2) s3:=I3.loads.2.2.2.1
     cases ok2 with
     | false =>
      simp -implicitDefEqProofs [jG,zak,h0,h3,h4,h5,h6,h7,l5,hlen,hlt',ix,ld,nr0,st1,m2,lp1,q4,nr9,st2,l1,b0,b1,c1,c2,d1,d2,a0,a1,hla,hlb,hda,hdb,lp2,e7,l3,-Int.natCast_add]
      exact endF I3 hV3 _ (by simp [h6]) (by simp [h240])
     | true =>
      simp -implicitDefEqProofs [jG,zak,h0,h3,h4,h5,h6,h7,l5,hlen,hlt',ix,ld,nr0,st1,m2,lp1,q4,nr9,st2,l1,b0,b1,c1,c2,d1,d2,a0,a1,hla,hlb,hda,hdb,lp2,e7,l3,hw,-Int.natCast_add]
      exact endT I3 hV3 hz3 hd3 _ (by simp [h0]) (by simp [h3]) (by simp [h4]) (by simp [h5]) (by simp [h6]) (by simp [h240]) (by simp)
  ·have hf2':xq.fl=false:=by simpa using hf2
   rw [hf2'] at d2
   have hV1:=hlook2 fun h=>hf2 (hfull.1 h.1).2
   obtain ⟨v7,s3,td2,dl2,ok2,e7,I3,hV3,hz3,hd3⟩:=main hV1
   have l3:∀ k:V→S→Go.Ev.A,zd false 1 (.ptr ib.ko 0 0) s3 k=k (.bool ok2) s3:=I3.loads.2.2.2.1
   cases ok2 with
   | false =>
    simp -implicitDefEqProofs [jG,zak,h0,h3,h4,h5,h6,h7,l5,hlen,hlt',ix,ld,nr0,st1,m2,lp1,q4,nr9,st2,l1,b0,b1,c1,c2,d1,d2,lp2,e7,l3,-Int.natCast_add]
    exact endF I3 hV3 _ (by simp [h6]) (by simp [h240])
   | true =>
    simp -implicitDefEqProofs [jG,zak,h0,h3,h4,h5,h6,h7,l5,hlen,hlt',ix,ld,nr0,st1,m2,lp1,q4,nr9,st2,l1,b0,b1,c1,c2,d1,d2,lp2,e7,l3,hw,-Int.natCast_add]
    exact endT I3 hV3 hz3 hd3 _ (by simp [h0]) (by simp [h3]) (by simp [h4]) (by simp [h5]) (by simp [h6]) (by simp [h240]) (by simp)
 ·have hf1':xp.fl=false:=by simpa using hf1
  rw [hf1'] at c2
  have hV1:=hlook2 fun h=>hf1 (hfull.1 h.1).1
  obtain ⟨v7,s3,td2,dl2,ok2,e7,I3,hV3,hz3,hd3⟩:=main hV1
  have l3:∀ k:V→S→Go.Ev.A,zd false 1 (.ptr ib.ko 0 0) s3 k=k (.bool ok2) s3:=I3.loads.2.2.2.1
  cases ok2 with
  | false =>
   simp -implicitDefEqProofs [jG,zak,h0,h3,h4,h5,h6,h7,l5,hlen,hlt',ix,ld,nr0,st1,m2,lp1,q4,nr9,st2,l1,b0,c1,c2,lp2,e7,l3,-Int.natCast_add]
   exact endF I3 hV3 _ (by simp [h6]) (by simp [h240])
  | true =>
   simp -implicitDefEqProofs [jG,zak,h0,h3,h4,h5,h6,h7,l5,hlen,hlt',ix,ld,nr0,st1,m2,lp1,q4,nr9,st2,l1,b0,c1,c2,lp2,e7,l3,hw,-Int.natCast_add]
   exact endT I3 hV3 hz3 hd3 _ (by simp [h0]) (by simp [h3]) (by simp [h4]) (by simp [h5]) (by simp [h6]) (by simp [h240]) (by simp)
theorem zM8:zL Tryz.prog KB8 29:=by
 refine zaj (L:=fun _=>ltI IL.pre IL.post) zG.1 zG.2 (X:=Go.Ev.K × List PS) rfl ?_
 rintro ⟨gk,G⟩ a s ⟨rfl,⟨vS,vF,sv,hG⟩,hF,hin⟩
 have hUs:=qV (zQ (L:=fun _=>ltI IL.pre IL.post) (show zL Tryz.prog KB8 55 from zIv)) (X:=Go.Ev.K × List PS) rfl
 have h17:=zM7
 generalize Rk Tryz.prog _ _=r at hUs h17 ⊢
 obtain ⟨v0,t0,e0,E0,me,ends,el,eck,rfl,hme1,hme2,hS,hends⟩:=hUs (gk,G) _ s ⟨rfl,⟨vS,vF,sv,hG⟩,hF⟩
 obtain ⟨t1,e1,E1,n1,-⟩:=nB t0 (.row [.ref 0 me] 1 104 false 0 0 0)
 obtain ⟨t2,e2,E2,n2,-⟩:=nB t1 (.map [] 0)
 obtain ⟨t3,e3⟩:∃ t3,t3=qj t2 t1.nx (.map (([((0,0),.ls 0 [.nil 1,.nil 1],0)]:LG Pr).map (toG qu)) 1):=⟨_,rfl⟩
 obtain ⟨t4,e4,E4,n4,-⟩:=nB t3 (.row [.ref 0 t1.nx] 1 110 false 0 0 0)
 obtain ⟨t5,e5,E5,n5,-⟩:=nB t4 (.row [iv .i64 0,iv .i64 0] 2 107 false 0 0 0)
 obtain ⟨t6,e6,E6,n6,-⟩:=nB t5 (.row [.sl t4.nx 0 0 1 1] 1 111 false 0 0 0)
 obtain ⟨t7,e7,E7,n7,g7⟩:=nB t6 (.row [.bool true] 1 4 false 0 0 0)
 have n0:=E0.nx
 have n3:t3.nx.toNat=t2.nx.toNat:=by rw [e3];rfl
 have k3:∀ c,c≠t1.nx→Tr.get B.none c t3.h=Tr.get B.none c t2.h:=fun c hc=>by rw [e3,zm,if_neg hc]
 have E13:Ext t1 t3:=⟨by omega,fun c hc=>by rw [k3 c (fun e=>by rw [e] at hc;omega)];exact E2.get c hc⟩
 have E37:Ext t3 t7:=(E4.trans E5).trans (E6.trans E7)
 have E07:Ext t0 t7:=(E1.trans E13).trans E37
 have g1:Tr.get B.none t0.nx t7.h=.row [.ref 0 me] 1 104 false 0 0 0:=by rw [(E13.trans E37).get _ (by omega),e1];exact zx _ _
 have g3:Tr.get B.none t1.nx t7.h=.map (([((0,0),.ls 0 [.nil 1,.nil 1],0)]:LG Pr).map (toG qu)) 1:=by rw [E37.get _ (by omega),e3,zm,if_pos rfl]
 have g4:Tr.get B.none t3.nx t7.h=.row [.ref 0 t1.nx] 1 110 false 0 0 0:=by rw [(E5.trans (E6.trans E7)).get _ (by omega),e4];exact zx _ _
 have g5:Tr.get B.none t4.nx t7.h=.row (pC (0,0)) 2 107 false 0 0 0:=by rw [(E6.trans E7).get _ (by omega),e5];exact zx _ _
 have g6:Tr.get B.none t5.nx t7.h=.row [.sl t4.nx 0 0 1 1] 1 111 false 0 0 0:=by rw [E7.get _ (by omega),e6];exact zx _ _
 have st1:=fun k:V→S→Go.Ev.A=>yT t0 104 (.nil 2) (.ref 0 me) (zdA _ _) k
 have st4:=fun k:V→S→Go.Ev.A=>yT t3 110 (.nil 2) (.ref 0 t1.nx) (zdA _ _) k
 have st6:=fun k:V→S→Go.Ev.A=>yT t5 111 (.nil 1) (.sl t4.nx 0 0 1 1) (zuJ _ _ _ _ _) k
 have st7:=fun k:V→S→Go.Ev.A=>yT t6 4 (.bool false) (.bool true) (fun _=>rfl) k
 rw [←e1] at st1
 rw [←e4] at st4
 rw [←e6] at st6
 rw [←e7] at st7
 have mu:∀ k:V→S→Go.Ev.A,qw ⟨6,[7,7]⟩ (.ref 0 t1.nx) (.ls 0 [iv .i64 0,iv .i64 0]) (.ls 0 [.nil 1,.nil 1]) t2 k=k Go.Ev.undef t3:=fun k=>by
  have hm:yj qu t2 t1.nx ([]:LG Pr) 0:=by unfold yj;rw [e2];exact zx _ _
  have:=zbo y5 hm (0,0) (.ls 0 [.nil 1,.nil 1]) k
  rw [e3];exact this
 obtain ⟨ib,hib⟩:∃ ib:IB,ib=⟨t0.nx,t3.nx,t4.nx,t6.nx,t5.nx,me,t1.nx⟩:=⟨_,rfl⟩
 have hI7:ISt s t7 ib ends [(0,0)] dl0 true (0,0):=by
  rw [hib]
  refine ⟨E0.trans E07,g1,g4,g5,g7,⟨.sl t4.nx 0 0 1 1,g6,.inr ⟨t4.nx,rfl,by omega,by omega,g5,rfl⟩⟩,⟨el,eck,?_,hS.keys,hS.one⟩,⟨_,_,g3,fun z=>?_⟩,fun c hc=>?_,fun e=>?_⟩
  ·unfold yj;rw [E07.get _ hme2];exact hS.at_
  ·unfold dl0
   by_cases g:z=(0,0)
   ·rw [if_pos g]
    refine ⟨(fun e=>by cases e),fun d hd=>?_⟩
    cases hd
    exact ⟨.nil 1,.nil 1,by rw [g];rfl,NW.nil _,NW.nil _⟩
   ·rw [if_neg g]
    refine ⟨fun _=>?_,fun d hd=>by cases hd⟩
    simp only [qh]
    rw [if_neg (fun e=>g e.symm)]
  ·simp only [kaj,List.not_mem_nil,or_false] at hc
   rcases hc with rfl | rfl | rfl | rfl | rfl | rfl | rfl<;>omega
  ·have:=congrArg K.toNat e
   simp only at this
   omega
 generalize hFF:(fnC zj 29).run r _ _=F0
 simp -implicitDefEqProofs [zak,e0,zo,st1,←e2,upd,put,mu,st4,rep,qR,←e5,st6,st7] at hFF
 generalize hA:zdX.run r _ t7=A1 at hFF
 obtain ⟨tm2,s2,b,rfl,k6,k240,E2',hko,hb⟩:=hA▸h17 ⟨s,gk,G,ib,ends⟩ _ t7 ⟨⟨⟨vS,vF,sv,hG⟩,hF,hin,hends⟩,⟨by simp,by simp [hib],by simp [hib],by simp [hib],by simp [hib],by simp⟩,[(0,0)],dl0,(0,0),0,Nat.zero_le _,by simp,hI7,DInv.init hF⟩
 simp only at k6 E2' hko hb
 have ldo:=fun k:V→S→Go.Ev.A=>zw hko 0 rfl (by omega) (show V.bool b≠.bad from fun e=>by cases e) k
 simp only [List.getD_cons_zero] at ldo
 simp -implicitDefEqProofs [k6,k240,ldo] at hFF
 exact ⟨_,s2,hFF.symm,E2',b,rfl,hb⟩
structure GoodB (F T:Nat→List Int) (n:Nat) (sigma:Int):Prop where
 ok:qJ n F T
 lo:0≤sigma
 hi:sigma≤500
 sym:∀ i,i<n→jl sigma (F i)∧jl sigma (T i)
def zjJ (F T:Nat→List Int) (n:Nat) (sigma:Int):Prop:=sigma≤4∧((∀ i,i<n→T i≠[])→qJ n F T→n≤8∧qv F n+qv T n≤14+n∧∀ i,i<n→(F i).length≤13)
def zB2 (sigma:Int):Int→Prop:=fun z=>1≤z∧z≤sigma
theorem zjJ.small {F T:Nat→List Int} {n:Nat} {sigma:Int} (h:zjJ F T n sigma) (hg:GoodB F T n sigma) (hT:∀ i,i<n→T i≠[]):SmallR F T n sigma:=by
 obtain ⟨h1,h2⟩:=h
 obtain ⟨g1,g2,g3⟩:=h2 hT hg.ok
 refine ⟨g1,g2,g3,hT,fun z ⟨i,hi,hz⟩=>?_,hg.lo,h1⟩
 rcases hz with hz | hz
 ·exact (hg.sym i hi).1 z hz
 ·exact (hg.sym i hi).2 z hz
theorem zLp {F T:Nat→List Int} {n:Nat} {sigma:Int} (hg:GoodB F T n sigma) {A:Int→Prop} (hGO:GOk F T n A (z5 G)) (hA:AOK F T n sigma A):zjE (z5 G)↔Inj F T n (zB2 sigma):=by
 have hF:∀ i,i<n→F i≠[]:=fun i hi e=>by
  have:=(hg.ok.2.2 i hi).1
  rw [e] at this
  exact absurd this (by decide)
 have hFs:∀ j,j<n→∀ s∈F j,za6 F T n s:=fun j hj s hs=>⟨j,hj,.inl hs⟩
 have hTs:∀ j,j<n→∀ s∈T j,za6 F T n s:=fun j hj s hs=>⟨j,hj,.inr hs⟩
 rw [hGO.inj_iff hF fun i hi s hs=>hA.sym s (hFs i hi s hs)]
 exact zLG (U:=za6 F T n) hg.ok (fun s hs=>hA.rng s hs) hA.sym hFs hTs fun ⟨s,h1,h2⟩=>hA.oth ⟨s,h1.1,h1.2,h2⟩
theorem zFg {F T:Nat→List Int} {n:Nat} {sigma:Int} (hg:GoodB F T n sigma) (hi:i<n) (h:T i=[]):¬Inj F T n (zB2 sigma) :=
 ztl hg.ok hi h fun s hs=>(hg.sym i hi).1 s hs
open Classical in
noncomputable def wj (F T:Nat→List Int) (n:Nat) (sigma:Int):V:=.ls 1 [.bool (decide (GoodB F T n sigma∧Inj F T n (zB2 sigma))),iv .i64 (if GoodB F T n sigma then 0 else 1)]
noncomputable def KB9:Nat→Ct
 | 11=>ctI (X:=V × Int) (fun ⟨l,sigma⟩ a s=>a=[l,iv .i64 sigma]∧Tab s l∧zjJ (zi s l) (toV s l) (zb l) sigma) (fun ⟨l,sigma⟩ s v s'=>Ext s s'∧v=wj (zi s l) (toV s l) (zb l) sigma)
 | f=>KB8 f
structure TbX where
 l:V
 sigma:Int
 s0:S
noncomputable abbrev TbX.FF (x:TbX):Nat→List Int:=zi x.s0 x.l
noncomputable abbrev TbX.TT (x:TbX):Nat→List Int:=toV x.s0 x.l
def TbX.fr (x:TbX) (tm:T):Prop:=gp 0 tm=x.l∧gp 1 tm=iv .i64 x.sigma∧gp 4 tm=.bool false
def TbX.pre40 (x:TbX) (tm:T) (s:S):Prop:=x.fr tm∧Tab x.s0 x.l∧Ext x.s0 s∧gp 5 tm=iv .i64 0∧gp 11 tm=x.l∧gp 12 tm=iv .i64 (zb x.l:Int)∧gp 240 tm=.bad∧∃ i:Nat,i≤zb x.l∧gp 13 tm=iv .i64 (i:Int)∧∀ k,k<i→jl x.sigma (x.FF k)∧jl x.sigma (x.TT k)
def TbX.post40 (x:TbX) (a:Go.Ev.A):Prop:=((∀ k,k<zb x.l→jl x.sigma (x.FF k)∧jl x.sigma (x.TT k))∧∃ tm s,a=.ext 0 tm s∧x.fr tm∧gp 5 tm=iv .i64 0∧gp 240 tm=.bad∧Ext x.s0 s) ∨
 ((¬∀ k,k<zb x.l→jl x.sigma (x.FF k)∧jl x.sigma (x.TT k))∧∃ tm s,a=.ret tm s∧gp 4 tm=.bool false∧gp 5 tm=iv .i64 1∧gp 240 tm=.bad∧Ext x.s0 s)
def TbX.pre32 (x:TbX) (tm:T) (s:S):Prop:=x.fr tm∧Tab x.s0 x.l∧Ext x.s0 s∧gp 16 tm=x.l∧gp 17 tm=iv .i64 (zb x.l:Int)∧gp 240 tm=.bad∧∃ i:Nat,i≤zb x.l∧gp 18 tm=iv .i64 (i:Int)∧∀ k,k<i→x.TT k≠[]
def TbX.post32 (x:TbX) (a:Go.Ev.A):Prop:=((∀ k,k<zb x.l→x.TT k≠[])∧∃ tm s,a=.ext 2 tm s∧x.fr tm∧gp 240 tm=.bad∧Ext x.s0 s) ∨
 ((¬∀ k,k<zb x.l→x.TT k≠[])∧∃ tm s,a=.ret tm s∧gp 4 tm=.bool false∧gp 5 tm=iv .i64 0∧gp 240 tm=.bad∧Ext x.s0 s)
noncomputable def ltT:Nat→Lt
 | 40=>ltI TbX.pre40 TbX.post40
 | _=>ltI TbX.pre32 TbX.post32
theorem zMR:∀ (x:TbX) tm s,x.pre40 tm s→x.post40 (zcO.run (RkN Tryz.prog KB8 KNB ltT) tm s):=by
 refine zdf (L:=ltT) zG.1 zG.2 zFw rfl (fun tm _=>(toI (gp 12 tm)).toNat - (toI (gp 13 tm)).toNat) (fun x a h=>by
  rcases h with ⟨-,_,_,h,-⟩ | ⟨-,_,_,h,-⟩<;>(rw [h];exact fun h=>h)) ?_
 rintro ⟨l,sigma,s0⟩ tm s ⟨⟨h0,h1,h4⟩,hl,hE,h5,h11,h12,h240,i,hi,h13,hok⟩ IH
 show TbX.post40 _ (zcO.run _ tm _)
 have hSy:=zd8 (KN:=KNB) (L:=ltT) (show zL Tryz.prog KB8 27 from zgI) (fun _ _ h=>h)
 generalize RkN Tryz.prog _ _ _=r at IH hSy ⊢
 simp only at h0 h1 h4 hl hE h11 h12 hi
 by_cases hlt:i<zb l
 ·have hlt':((i:Int)<(zb l:Int))=True:=eq_true (by omega)
  have hmax:=hl.2.1.1
  have hw:IntKind.i64.wrap ((i:Int)+1)=((i+1:Nat):Int):=by rw [z9 (by omega) (by omega)];omega
  obtain ⟨hl2,hc2,hF2,hT2⟩:=hl.ext hE
  obtain ⟨p,-,-,ix,-,-,-,-,ld⟩:=hl2.fields hlt
  obtain ⟨hx,hy⟩:=hl2.2.2 i hlt
  rw [hc2] at hx hy
  rw [hc2,hc2] at ld
  have hFx:word s (zt s0 l (i*2))=zi s0 l i:=by rw [←hF2 i hlt];unfold zi;rw [hc2]
  have hTx:word s (zt s0 l (i*2+1))=toV s0 l i:=by rw [←hT2 i hlt];unfold toV;rw [hc2]
  generalize zt s0 l (i*2)=x at hx ld hFx
  generalize zt s0 l (i*2+1)=y at hy ld hTx
  obtain ⟨s1,hs1,E1,n1,g1⟩:=nB s (.row [x,y] 2 49 false 0 0 0)
  have st1:=fun k:V→S→Go.Ev.A=>qX s 49 2 [.nil 1,.nil 1] [x,y] rfl rfl k
  rw [←hs1] at st1
  have nr:∀ (c:Go.Ev.K→Nat→S→Go.Ev.A),Go.Ev.newRow s 49 [.nil 1,.nil 1] false c=c s.nx 2 (zN s (.row [.nil 1,.nil 1] 2 49 false 0 0 0)):=fun c=>zo s 49 _ false c
  have a0:=fun k:V→S→Go.Ev.A=>zw g1 0 rfl (by omega) (show x≠.bad from hx.ne) k
  obtain ⟨v2,s2,e2,hp2⟩:=hSy [x,iv .i64 sigma] s1 ⟨x,sigma,rfl,(hx.ext E1).1⟩
  obtain ⟨E2,hv2⟩:=hp2 x sigma rfl
  rw [hx.word E1,hFx] at hv2
  have g2:Tr.get B.none s.nx s2.h=.row [x,y] 2 49 false 0 0 0:=by rw [E2.get _ (by omega)];exact g1
  have a1:=fun k:V→S→Go.Ev.A=>zw g2 1 rfl (by omega) (show y≠.bad from hy.ne) k
  obtain ⟨v3,s3,e3,hp3⟩:=hSy [y,iv .i64 sigma] s2 ⟨y,sigma,rfl,(hy.ext (E1.trans E2)).1⟩
  obtain ⟨E3,hv3⟩:=hp3 y sigma rfl
  rw [hy.word (E1.trans E2),hTx] at hv3
  simp only [List.getD_cons_zero,List.getD_cons_succ] at a0 a1
  by_cases k1:jl sigma (zi s0 l i)
  ·obtain rfl:v2=.bool true:=by rw [hv2];simp [k1]
   by_cases k2:jl sigma (toV s0 l i)
   ·obtain rfl:v3=.bool true:=by rw [hv3];simp [k2]
    simp -implicitDefEqProofs [zc0,y3,h1,h11,h12,h13,hlt',ix,ld,nr,st1,a0,e2,a1,e3,hw,-Int.natCast_add]
    refine IH ⟨l,sigma,s0⟩ _ s3 ?_ ⟨⟨by simp [h0],by simp [h1],by simp [h4]⟩,hl,hE.trans (E1.trans (E2.trans E3)),by simp [h5],by simp [h11],by simp [h12],by simp [h240],i+1,hlt,by simp,fun k hk=>?_⟩
    ·rw [h12,h13,zn,zn];simp [h12,zn,-Int.natCast_add];omega
    ·rcases kaq k i with g | g
     ·exact hok k g
     ·obtain rfl:k=i:=by omega
      exact ⟨k1,k2⟩
   ·obtain rfl:v3=.bool false:=by rw [hv3];simp [k2]
    simp -implicitDefEqProofs [zc0,y3,h1,h11,h12,h13,hlt',ix,ld,nr,st1,a0,e2,a1,e3]
    exact .inr ⟨fun h=>k2 (h i hlt).2,_,_,rfl,by simp,by simp,by simp [h240],hE.trans (E1.trans (E2.trans E3))⟩
  ·obtain rfl:v2=.bool false:=by rw [hv2];simp [k1]
   simp -implicitDefEqProofs [zc0,y3,h1,h11,h12,h13,hlt',ix,ld,nr,st1,a0,e2]
   exact .inr ⟨fun h=>k1 (h i hlt).1,_,_,rfl,by simp,by simp,by simp [h240],hE.trans (E1.trans E2)⟩
 ·obtain rfl:i=zb l:=by omega
  simp -implicitDefEqProofs [zc0,y3,h12,h13]
  exact .inl ⟨hok,_,_,rfl,⟨by simp [h0],by simp [h1],by simp [h4]⟩,by simp [h5],by simp [h240],hE⟩
theorem zMT:∀ (x:TbX) tm s,x.pre32 tm s→x.post32 (zca.run (RkN Tryz.prog KB8 KNB ltT) tm s):=by
 refine zdf (L:=ltT) zG.1 zG.2 zET rfl (fun tm _=>(toI (gp 17 tm)).toNat - (toI (gp 18 tm)).toNat) (fun x a h=>by
  rcases h with ⟨-,_,_,h,-⟩ | ⟨-,_,_,h,-⟩<;>(rw [h];exact fun h=>h)) ?_
 rintro ⟨l,sigma,s0⟩ tm s ⟨⟨h0,h1,h4⟩,hl,hE,h16,h17,h240,i,hi,h18,hok⟩ IH
 show TbX.post32 _ (zca.run _ tm _)
 generalize RkN Tryz.prog _ _ _=r at IH ⊢
 simp only at h0 h1 h4 hl hE h16 h17 hi
 by_cases hlt:i<zb l
 ·have hlt':((i:Int)<(zb l:Int))=True:=eq_true (by omega)
  have hmax:=hl.2.1.1
  have hw:IntKind.i64.wrap ((i:Int)+1)=((i+1:Nat):Int):=by rw [z9 (by omega) (by omega)];omega
  obtain ⟨hl2,hc2,hF2,hT2⟩:=hl.ext hE
  obtain ⟨p,-,-,ix,-,-,-,-,ld⟩:=hl2.fields hlt
  obtain ⟨hx,hy⟩:=hl2.2.2 i hlt
  rw [hc2] at hx hy
  rw [hc2,hc2] at ld
  have hTx:word s (zt s0 l (i*2+1))=toV s0 l i:=by rw [←hT2 i hlt];unfold toV;rw [hc2]
  generalize zt s0 l (i*2)=x at hx ld
  generalize zt s0 l (i*2+1)=y at hy ld hTx
  obtain ⟨s1,hs1,E1,-,g1⟩:=nB s (.row [x,y] 2 49 false 0 0 0)
  have st1:=fun k:V→S→Go.Ev.A=>qX s 49 2 [.nil 1,.nil 1] [x,y] rfl rfl k
  rw [←hs1] at st1
  have nr:∀ (c:Go.Ev.K→Nat→S→Go.Ev.A),Go.Ev.newRow s 49 [.nil 1,.nil 1] false c=c s.nx 2 (zN s (.row [.nil 1,.nil 1] 2 49 false 0 0 0)):=fun c=>zo s 49 _ false c
  have a1:=fun k:V→S→Go.Ev.A=>zw g1 1 rfl (by omega) (show y≠.bad from hy.ne) k
  simp only [List.getD_cons_zero,List.getD_cons_succ] at a1
  have hly:∀ c:V→Go.Ev.A,zz y c=c (iv .i64 (zb y:Int)):=fun c=>hy.1.len c
  have hlen:zb y=(toV s0 l i).length:=by rw [←hTx,zA]
  by_cases k1:toV s0 l i=[]
  ·have hz:((zb y:Int)=0)=True:=eq_true (by rw [hlen,k1];rfl)
   have hz':zb y=0:=by rw [hlen,k1];rfl
   simp -implicitDefEqProofs [zgD,y3,h16,h17,h18,hlt',ix,ld,nr,st1,a1,hly,hz']
   exact .inr ⟨fun h=>h i hlt k1,_,_,rfl,by simp,by simp,by simp [h240],hE.trans E1⟩
  ·have hz':¬zb y=0:=fun h=>k1 (kaw.1 (by rw [←hlen];exact h))
   have hz:((zb y:Int)=0)=False:=eq_false (by omega)
   simp -implicitDefEqProofs [zgD,y3,h16,h17,h18,hlt',ix,ld,nr,st1,a1,hly,hz',hw,-Int.natCast_add]
   refine IH ⟨l,sigma,s0⟩ _ s1 ?_ ⟨⟨by simp [h0],by simp [h1],by simp [h4]⟩,hl,hE.trans E1,by simp [h16],by simp [h17],by simp [h240],i+1,hlt,by simp,fun k hk=>?_⟩
   ·rw [h17,h18,zn,zn];simp [h17,zn,-Int.natCast_add];omega
   ·rcases kaq k i with g | g
    ·exact hok k g
    ·obtain rfl:k=i:=by omega
     exact k1
 ·obtain rfl:i=zb l:=by omega
  simp -implicitDefEqProofs [zgD,y3,h17,h18]
  exact .inl ⟨hok,_,_,rfl,⟨by simp [h0],by simp [h1],by simp [h4]⟩,by simp [h240],hE⟩
theorem zMs {P:Program} {pc:PC} (hp:PcOk P pc) (hh:pc.hooks=[]) {K' K KN:Nat→Ct} {pre:X→List V→S→Prop} {post:X→S→V→S→Prop} (hK:K' f=ctI pre post) (val:X→S→V)
  (hpost:∀ x a s s',pre x a s→Ext s s'→post x s (val x s) s') (h:∀ x a s,pre x a s→((fnC pc f).run (RkN P K KN L) a s).all fun v1 s1=>v1=val x s∧Ext s s1):zL P K' f:=by
 intro a s hx
 rw [hK] at hx ⊢
 have hall:=F.all_forall (p:=fun x=>pre x a s) (Q:=fun x v1 s1=>v1=val x s∧Ext s s1) hx fun y hy=>h y a s hy
 obtain ⟨x,hx⟩:=hx
 obtain ⟨Y,c1,c2⟩:=zBm hp hh (zFX pc K KN L) hall
 obtain ⟨v0,s0,hv0,-⟩:=F.all_some c2
 obtain ⟨s',d1,d2,d3⟩:=c1.trim (v:=val x s) (G:=fun k=>Tr.get B.none k s.h) (c2.imp fun v1 s1 g=>⟨(g x hx).1,(g x hx).2.nx,(g x hx).2.get⟩)
 refine ⟨val x s,s',d1,fun y hy=>?_⟩
 have e:val x s=val y s:=(hv0 x hx).1.symm.trans (hv0 y hy).1
 rw [e]
 exact hpost y a s s' hy ⟨d2,d3⟩
theorem zcH {F T:Nat→List Int} {n:Nat} {sigma:Int} (h:¬GoodB F T n sigma):wj F T n sigma=.ls 1 [.bool false,iv .i64 1]:=by
 unfold wj
 rw [if_neg h]
 simp [h]
theorem zdh {F T:Nat→List Int} {n:Nat} {sigma:Int} (h:GoodB F T n sigma) {b:Bool} (hb:b=true↔Inj F T n (zB2 sigma)):wj F T n sigma=.ls 1 [.bool b,iv .i64 0]:=by
 unfold wj
 rw [if_pos h]
 cases b with
 | true =>
  have hI:=hb.1 rfl
  simp [h,hI]
 | false =>
  have hI:¬Inj F T n (zB2 sigma):=fun g=>by cases hb.2 g
  simp [h,hI]
theorem j7 {F F':Nat→List Int}:∀ n,(∀ i,i<n→F' i=F i)→qv F' n=qv F n
 | 0,_=>rfl
 | n+1,h=>by
  show qv F' n+(F' n).length=qv F n+(F n).length
  rw [j7 n fun i hi=>h i (by omega),h n (by omega)]
section
variable {F T F' T':Nat→List Int} {n:Nat} {sigma:Int}
theorem GoodB.congr (h:GoodB F T n sigma) (hF:∀ i,i<n→F' i=F i) (hT:∀ i,i<n→T' i=T i):GoodB F' T' n sigma :=
 ⟨(ya hF hT).2 h.ok,h.lo,h.hi,fun i hi=>by rw [hF i hi,hT i hi];exact h.sym i hi⟩
theorem SmallR.congr (h:SmallR F T n sigma) (hF:∀ i,i<n→F' i=F i) (hT:∀ i,i<n→T' i=T i):SmallR F' T' n sigma:=by
 refine ⟨h.n8,by rw [j7 n hF,j7 n hT];exact h.sum,fun i hi=>by rw [hF i hi];exact h.f13 i hi,fun i hi=>by rw [hT i hi];exact h.tne i hi,fun z ⟨i,hi,hz⟩=>h.sym z ⟨i,hi,?_⟩,h.sg⟩
 rw [hF i hi,hT i hi] at hz
 exact hz
theorem Inj.congr {A:Int→Prop} (h:Inj F T n A) (hF:∀ i,i<n→F' i=F i) (hT:∀ i,i<n→T' i=T i):Inj F' T' n A :=
 fun x x' y hx hx' hr hr'=>h x x' y hx hx' (zi9 hF hT hr) (zi9 hF hT hr')
end
theorem zK6:zL Tryz.prog KB9 11:=by
 refine zMs (K:=KB8) (KN:=KNB) (L:=ltT) zG.1 zG.2 (X:=V × Int) rfl (fun x s=>wj (zi s x.1) (toV s x.1) (zb x.1) x.2) (fun x a s s' _ e=>⟨e,rfl⟩) ?_
 rintro ⟨l,sigma⟩ a s ⟨rfl,hl,hsm⟩
 have hVa:=zd8 (KN:=KNB) (L:=ltT) (show zL Tryz.prog KB8 22 from zoR) (fun _ _ h=>h)
 have hIn:=qV (zd8 (KN:=KNB) (L:=ltT) zM8 (fun _ _ h=>h)) (X:=Go.Ev.K × List PS) rfl
 have hBu:=zIf (K:=KB8) (L:=ltT) zKC (fun _ _ h=>h)
 have h14:=zMR
 have h37:=zMT
 generalize RkN Tryz.prog _ _ _=r at hVa hIn hBu h14 h37 ⊢
 simp only
 obtain ⟨v1,s1,e1,hp1⟩:=hVa [l] s ⟨l,rfl,hl⟩
 obtain ⟨E1,hv1⟩:=hp1 l rfl
 have hlen:∀ f:V→Go.Ev.A,zz l f=f (iv .i64 (zb l:Int)):=fun f=>hl.1.len f
 have hF:∀ i,i<zb l→(zi s l i≠[]→True):=fun _ _ _=>trivial
 suffices H:∀ x,A.leaf x→(∃ tm s',x=.ret tm s'∧gp 240 tm=.bad∧Ext s s'∧.ls 1 [gp 4 tm,gp 5 tm]=wj (zi s l) (toV s l) (zb l) sigma)→(qk (z7 (fun tm s=>zg6 tm s) x)).all (fun v1 s1=>v1=wj (zi s l) (toV s l) (zb l) sigma∧Ext s s1) by
  have main:(zhf.run r (sp 1 (iv .i64 sigma) (sp 0 l T.new)) s).all (fun x=>∃ tm s',x=.ret tm s'∧gp 240 tm=.bad∧Ext s s'∧.ls 1 [gp 4 tm,gp 5 tm]=wj (zi s l) (toV s l) (zb l) sigma):=by
   by_cases hok:qx s l
   case neg =>
    obtain rfl:v1=.bool false:=by rw [hv1];simp [hok]
    simp -implicitDefEqProofs [y3,e1]
    refine ⟨_,_,⟨rfl,rfl⟩,by simp,E1,?_⟩
    rw [zcH fun h=>hok h.ok];simp
   obtain rfl:v1=.bool true:=by rw [hv1];simp [hok]
   by_cases h0:sigma<0
   ·simp -implicitDefEqProofs [y3,e1,h0]
    refine ⟨_,_,⟨rfl,rfl⟩,by simp,E1,?_⟩
    rw [zcH fun h=>by have:=h.lo;omega];simp
   by_cases h5:500<sigma
   ·simp -implicitDefEqProofs [y3,e1,h0,h5]
    refine ⟨_,_,⟨rfl,rfl⟩,by simp,E1,?_⟩
    rw [zcH fun h=>by have:=h.hi;omega];simp
   simp -implicitDefEqProofs [y3,e1,h0,h5,hlen]
   generalize hA1:zcO.run r _ s1=a1
   rcases hA1▸h14 ⟨l,sigma,s⟩ _ s1 ⟨⟨by simp,by simp,by simp⟩,hl,E1,by simp,by simp,by simp,by simp,0,Nat.zero_le _,by simp,fun k hk=>by omega⟩ with ⟨hsym,tm2,s2,rfl,⟨k0,k1,k4⟩,k5,k240,E2⟩ | ⟨hns,tm2,s2,rfl,k4,k5,k240,E2⟩
   case inr =>
    simp -implicitDefEqProofs
    refine ⟨_,_,⟨rfl,rfl⟩,k240,E2,?_⟩
    rw [zcH fun h=>hns h.sym,k4,k5]
   have hgood:GoodB (zi s l) (toV s l) (zb l) sigma:=⟨hok,by omega,by omega,hsym⟩
   simp only at k0 k1 E2
   simp -implicitDefEqProofs [k0,hlen]
   generalize hA2:zca.run r _ s2=a2
   rcases hA2▸h37 ⟨l,sigma,s⟩ _ s2 ⟨⟨by simp [k0],by simp [k1],by simp [k4]⟩,hl,E2,by simp,by simp,by simp [k240],0,Nat.zero_le _,by simp,fun k hk=>by omega⟩ with ⟨hT,tm3,s3,rfl,⟨m0,m1,m4⟩,m240,E3⟩ | ⟨hnT,tm3,s3,rfl,m4,m5,m240,E3⟩
   case inr =>
    simp -implicitDefEqProofs
    refine ⟨_,_,⟨rfl,rfl⟩,m240,E3,?_⟩
    rw [m4,m5,zdh hgood (b:=false)]
    constructor
    ·intro e;cases e
    ·intro hi
     refine absurd (fun k hk hk2=>?_) hnT
     exact zFg hgood hk hk2 hi
   simp only at m0 m1 E3
   simp -implicitDefEqProofs [m0,m1]
   obtain ⟨hl3,hc3,hF3,hT3⟩:=hl.ext E3
   have hsmall:=hsm.small hgood hT
   have hgood3:=hgood.congr hF3 hT3
   have hpre:(KNB 28).pre [l,iv .i64 sigma] s3:=⟨(l,sigma),rfl,hl3,hgood3.ok,hsmall.congr hF3 hT3⟩
   refine A.all_seq' ?_
   refine A.all_fold (R:=(KNB 28).post [l,iv .i64 sigma] s3) (fun v4 s4 hq=>?_) (hBu _ _ hpre)
   obtain ⟨E4,gk,b,nd,nm,G,nl,nc,A,rfl,hGR,hGO,hAOK,hsz,hst⟩:=hq (l,sigma) ⟨rfl,hl3,hgood3.ok,hsmall.congr hF3 hT3⟩
   obtain ⟨vS,vF,sv,hrd⟩:=hGR.rd
   have hGF:GFin G:=⟨by
    obtain ⟨x,hx,-⟩:=zeR hGO.start.1
    have:=(kad.1 hx).1
    omega,hsz,fun x hx=>(hst x hx).1,fun x hx e he=>((hst x hx).2 e he).1⟩
   obtain ⟨v5,s5,e5,E5,b',rfl,hb'⟩:=hIn (gk,G) _ s4 ⟨rfl,⟨vS,vF,sv,hrd⟩,hGF,fun x hx e he=>((hst x hx).2 e he).2⟩
   have hlaw:=zLp hgood3 hGO hAOK
   simp -implicitDefEqProofs [e5]
   refine ⟨_,_,⟨rfl,rfl⟩,by simp [m240],(E3.trans E4).trans E5,?_⟩
   rw [zdh hgood (b:=b')]
   ·simp
   ·rw [hb',hlaw]
    exact ⟨fun h=>h.congr (fun i hi=>(hF3 i hi).symm) (fun i hi=>(hT3 i hi).symm),fun h=>h.congr hF3 hT3⟩
  have e0:(fnC zj 11).run r [l,iv .i64 sigma] s=qk (z7 (fun tm s=>zg6 tm s) (zhf.run r (sp 1 (iv .i64 sigma) (sp 0 l T.new)) s)):=by simp only [y3]
  rw [e0]
  exact F.all_fn H main
 rintro x - ⟨tm,s',rfl,h240,hE,hv⟩
 simp -implicitDefEqProofs [y3,h240]
 exact ⟨hv,hE⟩
def zKJ (w:List Int) (sg:Int):Prop:=∀ z∈w,z≤sg
structure SmallS (F T:Nat→List Int) (n:Nat) (sigma:Int):Prop where
 sg:sigma≤4
 sum:qJ n F T→qv F n+qv T n≤14
open Classical in
noncomputable def zmQ:Nat→Ct
 | 15=>ctI (X:=V × Int) (fun ⟨x,g⟩ a s=>a=[x,iv .i64 g]∧zZ s x) (fun ⟨x,g⟩ s v s'=>s'=s∧v=.bool (decide (zKJ (word s x) g)))
 | 30=>ctI (X:=V) (fun l a s=>a=[l]∧Tab s l) (fun l s v s'=>s'=s∧∃ z:Int,v=iv .i64 z∧(qx s l→z=((qv (zi s l) (zb l)+qv (toV s l) (zb l):Nat):Int)))
 | 12=>ctI (X:=V × Int) (fun ⟨l,sigma⟩ a s=>a=[l,iv .i64 sigma]∧Tab s l) (fun ⟨l,sigma⟩ s v s'=>s'=s∧∃ b:Bool,v=.bool b∧(b=true→SmallS (zi s l) (toV s l) (zb l) sigma))
 | f=>KB9 f
structure WiX where
 x:V
 g:Int
 s0:S
def WiX.pre (c:WiX) (tm:T) (s:S):Prop:=s=c.s0∧zZ s c.x∧gp 240 tm=.bad∧gp 0 tm=c.x∧gp 1 tm=iv .i64 c.g∧∃ q:Nat,q≤zb c.x∧gp 5 tm=iv .i64 (q:Int)∧∀ j,j<q→qi s c.x j≤c.g
def WiX.post (c:WiX) (a:Go.Ev.A):Prop:=(zKJ (word c.s0 c.x) c.g∧∃ tm,a=.ext 0 tm c.s0∧gp 240 tm=.bad)∨(¬zKJ (word c.s0 c.x) c.g∧∃ tm,a=.ret tm c.s0∧gp 240 tm=.bad∧gp 4 tm=.bool false)
structure SyX where
 l:V
 s0:S
def SyX.pre (c:SyX) (tm:T) (s:S):Prop:=s=c.s0∧Tab s c.l∧gp 240 tm=.bad∧gp 0 tm=c.l∧∃ q:Nat,q≤zb c.l∧gp 4 tm=iv .i64 (q:Int)∧∃ z:Int,gp 3 tm=iv .i64 z∧(qx s c.l→z=((qv (zi s c.l) q+qv (toV s c.l) q:Nat):Int))
def SyX.post (c:SyX) (a:Go.Ev.A):Prop:=∃ tm,a=.ext 0 tm c.s0∧gp 240 tm=.bad∧∃ z:Int,gp 3 tm=iv .i64 z∧(qx c.s0 c.l→z=((qv (zi c.s0 c.l) (zb c.l)+qv (toV c.s0 c.l) (zb c.l):Nat):Int))
theorem zNy:∀ (c:SyX) tm s,c.pre tm s→c.post (zeU.run (Rk Tryz.prog zmQ fun _=>ltI SyX.pre SyX.post) tm s):=by
 refine y9 (L:=fun _=>ltI SyX.pre SyX.post) zG.1 zG.2 zIu rfl (fun tm _=>9223372036854775808 - (toI (gp 4 tm)).toNat) (fun x a ⟨_,h,_⟩=>by rw [h];exact fun h=>h) ?_
 rintro ⟨l,s0⟩ tm s ⟨hs,hl,h240,h0,q,hq,h4,z,h3,hz⟩ IH
 show SyX.post _ (zeU.run _ tm _)
 generalize Rk Tryz.prog _ _=r at IH ⊢
 simp only at hs hl h0 hq hz
 subst hs
 have hmax:=hl.2.1.1
 have hll:∀ c:V→Go.Ev.A,zz l c=c (iv .i64 (zb l:Int)):=fun c=>hl.1.len c
 by_cases hlt:q<zb l
 ·obtain ⟨p,q0,q1,ix,f0,f1,ld0,ld1,-⟩:=hl.fields hlt
  obtain ⟨hx,hy⟩:=hl.2.2 q hlt
  have hlt':((q:Int)<(zb l:Int))=True:=eq_true (by omega)
  have hw:IntKind.i64.wrap ((q:Int)+1)=((q+1:Nat):Int):=by rw [z9 (by omega) (by omega)];omega
  have hFx:(zi s l q).length=zb (zt s l (q*2)):=zA _ _
  have hTx:(toV s l q).length=zb (zt s l (q*2+1)):=zA _ _
  have hlx:∀ c:V→Go.Ev.A,zz (zt s l (q*2)) c=c (iv .i64 ((zi s l q).length:Int)):=fun c=>by rw [hFx];exact hx.1.len c
  have hly:∀ c:V→Go.Ev.A,zz (zt s l (q*2+1)) c=c (iv .i64 ((toV s l q).length:Int)):=fun c=>by rw [hTx];exact hy.1.len c
  simp -implicitDefEqProofs [ztZ,zq4,h0,h4,h3,hll,hlt',ix,f0,ld0,hlx,f1,ld1,hly,hw,-Int.natCast_add]
  refine IH ⟨l,s⟩ _ s ?_ ⟨rfl,hl,by simp [h240],by simp [h0],q+1,hlt,by simp,_,by simp;rfl,fun hok=>?_⟩
  ·rw [h4,zn];simp [zn,-Int.natCast_add];omega
  ·simp only at hok
   have hzz:=hz hok
   have hr:∀ k,k<zb l→(zi s l k).length≤20∧(toV s l k).length≤20:=fun k hk=>⟨(hok.2.2 k hk).2.1,(hok.2.2 k hk).2.2.1⟩
   have hn:=hok.2.1
   have b1:=zmY (F:=zi s l) (b:=20) q (fun k hk=>(hr k (by omega)).1)
   have b2:=zmY (F:=toV s l) (b:=20) q (fun k hk=>(hr k (by omega)).2)
   obtain ⟨b3,b4⟩:=hr q hlt
   show _=(((qv (zi s l) q+(zi s l q).length)+(qv (toV s l) q+(toV s l q).length):Nat):Int)
   have e1:IntKind.i64.wrap (z+((zi s l q).length:Int))=z+((zi s l q).length:Int):=z9 (by omega) (by omega)
   rw [e1,z9 (by omega) (by omega)]
   omega
 ·obtain rfl:q=zb l:=by omega
  simp -implicitDefEqProofs [ztZ,zq4,h0,h4,hll]
  exact ⟨_,rfl,by simp [h240],z,by simp [h3],hz⟩
theorem zLx:zL Tryz.prog zmQ 30:=by
 refine zaj (L:=fun _=>ltI SyX.pre SyX.post) zG.1 zG.2 (X:=V) rfl ?_
 rintro l a s ⟨rfl,hl⟩
 have hL:=zNy
 generalize Rk Tryz.prog _ _=r at hL ⊢
 generalize hF:(fnC zj 30).run r _ _=F0
 simp -implicitDefEqProofs [zq4] at hF
 generalize hA:zeU.run r _ s=A1 at hF
 obtain ⟨tm,rfl,k240,z,k3,hz⟩:=hA▸hL ⟨l,s⟩ _ s ⟨rfl,hl,by simp,by simp,0,Nat.zero_le _,by simp,0,by simp,fun _=>rfl⟩
 simp -implicitDefEqProofs [k240,k3] at hF
 exact ⟨_,s,hF.symm,rfl,z,rfl,hz⟩
theorem zFl:zL Tryz.prog zmQ 12:=by
 refine zaj (L:=noL) zG.1 zG.2 (X:=V × Int) rfl ?_
 rintro ⟨l,sigma⟩ a s ⟨rfl,hl⟩
 have hS:=qV (zQ (L:=noL) zLx) (X:=V) rfl
 generalize Rk Tryz.prog _ _=r at hS ⊢
 obtain ⟨v,s1,e1,rfl,z,rfl,hz⟩:=hS l _ s ⟨rfl,hl⟩
 generalize hF:(fnC zj 12).run r _ _=F0
 by_cases g1:z≤14
 ·by_cases g2:sigma≤4
  ·simp -implicitDefEqProofs [zgP,e1,g1,g2] at hF
   exact ⟨_,_,hF.symm,rfl,true,rfl,fun _=>⟨g2,fun hok=>by have:=hz hok;omega⟩⟩
  ·simp -implicitDefEqProofs [zgP,e1,g1,g2] at hF
   exact ⟨_,_,hF.symm,rfl,false,rfl,fun h=>by cases h⟩
 ·simp -implicitDefEqProofs [zgP,e1,g1] at hF
  exact ⟨_,_,hF.symm,rfl,false,rfl,fun h=>by cases h⟩
theorem zhY {F:Nat→List Int}:∀ n,(∀ i,i<n→F i≠[])→n≤qv F n
 | 0,_=>Nat.zero_le _
 | n+1,h=>by
  have h1:=zhY n fun i hi=>h i (by omega)
  have h2:0<(F n).length:=List.length_pos_iff.2 (h n (by omega))
  show n+1≤qv F n+(F n).length
  omega
theorem zzM {F:Nat→List Int}:∀ n i,i<n→(F i).length≤qv F n
 | 0,i,h=>by omega
 | n+1,i,h=>by
  show _≤qv F n+(F n).length
  rcases kaq i n with g | g
  ·have:=zzM (F:=F) n i g;omega
  ·obtain rfl:i=n:=by omega
   omega
theorem SmallS.w {F T:Nat→List Int} {n:Nat} {sigma:Int} (h:SmallS F T n sigma):zjJ F T n sigma:=by
 refine ⟨h.sg,fun hT hok=>?_⟩
 have hsum:=h.sum hok
 have h1:=zhY (F:=F) n fun i hi e=>by
  have:=(hok.2.2 i hi).1
  rw [e] at this
  exact absurd this (by decide)
 have h2:=zhY n hT
 refine ⟨by omega,by omega,fun i hi=>?_⟩
 have:=zzM (F:=F) n i hi
 omega
section
variable {F T F' T':Nat→List Int} {n n':Nat}
def zjB (F T:Nat→List Int) (n:Nat) (F' T':Nat→List Int) (n':Nat):Prop:=∀ i,i<n→∃ i',i'<n'∧F' i'=F i∧T' i'=T i
variable {x:List Int}
theorem zKK (h1:zjB F T n F' T' n') (h2:zjB F' T' n' F T n) {out:List Int} {k:Nat} (h:wE F T n x k out):wE F' T' n' x k out:=by
 rcases h with ⟨j,⟨hj,hp,hb⟩,rfl,rfl⟩ | ⟨hn,rfl,rfl⟩
 ·obtain ⟨j',hj',e1,e2⟩:=h1 j hj
  refine .inl ⟨j',⟨hj',by rw [e1];exact hp,fun k hk hp=>?_⟩,by rw [e1],e2.symm⟩
  obtain ⟨k',hk',g1,-⟩:=h2 k hk
  rw [e1,←g1]
  exact hb k' hk' (by rw [g1];exact hp)
 ·refine .inr ⟨fun j hj hp=>?_,rfl,rfl⟩
  obtain ⟨j',hj',g1,-⟩:=h2 j hj
  exact hn j' hj' (by rw [g1];exact hp)
variable {y:List Int}
theorem zHR (h1:zjB F T n F' T' n') (h2:zjB F' T' n' F T n) (h:ResP F T n x y):ResP F' T' n' x y:=by
 induction h with
 | nil=>exact .nil
 | step hx hs _ ih=>exact .step hx (zKK h1 h2 hs) ih
theorem zha (h1:zjB F T n F' T' n') (h2:zjB F' T' n' F T n):ResP F T n x y↔ResP F' T' n' x y:=⟨zHR h1 h2,zHR h2 h1⟩
theorem zLt (h1:zjB F T n F' T' n') (h2:zjB F' T' n' F T n) {B:Int→Prop}:Inj F T n B↔Inj F' T' n' B:=by
 unfold Inj
 simp only [zha h1 h2]
structure IdRow (F T:Nat→List Int) (n:Nat) (F' T':Nat→List Int) (s:Int):Prop where
 old:∀ i,i<n→F' i=F i∧T' i=T i
 neu:F' n=[s]∧T' n=[s]
 ne:∀ i,i<n→F i≠[s]
 non:∀ i,i<n→F i≠[]
theorem IdRow.step {s:Int} (h:IdRow F T n F' T' s) {x out:List Int} {k:Nat} (_:x≠[]):wE F T n x k out↔wE F' T' (n+1) x k out:=by
 have hrow:∀ i,i<n+1→(i<n∧F' i=F i∧T' i=T i)∨(i=n∧F' i=[s]∧T' i=[s]):=fun i hi=>by
  by_cases g:i<n
  ·exact .inl ⟨g,h.old i g⟩
  ·obtain rfl:i=n:=by omega
   exact .inr ⟨rfl,h.neu⟩
 have hpos:∀ i,i<n→1≤(F i).length:=fun i hi=>List.length_pos_iff.2 (h.non i hi)
 have h1:∀ {i},i<n→F i <+: x→[s] <+: x→2≤(F i).length:=fun {i} hi hp hs=>by
  have:=hpos i hi
  rcases kaq 1 (F i).length with g | g
  ·exact g
  ·refine absurd (zLP hp hs (by simp;omega)) (h.ne i hi)
 constructor
 ·rintro (⟨j,⟨hj,hp,hb⟩,rfl,rfl⟩ | ⟨hn,rfl,rfl⟩)
  ·obtain ⟨e1,e2⟩:=h.old j hj
   refine .inl ⟨j,⟨by omega,by rw [e1];exact hp,fun k hk hpk=>?_⟩,by rw [e1],e2.symm⟩
   rcases hrow k hk with ⟨g,e,-⟩ | ⟨rfl,e,-⟩
   ·rw [e] at hpk ⊢;rw [e1];exact hb k g hpk
   ·rw [e,e1];exact hpos j hj
  ·by_cases hs:[s] <+: x
   ·refine .inl ⟨n,⟨by omega,by rw [h.neu.1];exact hs,fun k hk hpk=>?_⟩,by rw [h.neu.1];rfl,?_⟩
    ·rcases hrow k hk with ⟨g,e,-⟩ | ⟨rfl,e,-⟩
     ·rw [e] at hpk;exact absurd hpk (hn k g)
     ·exact kab _
    ·rw [h.neu.2];exact (List.prefix_iff_eq_take.1 hs).symm
   ·refine .inr ⟨fun k hk hpk=>?_,rfl,rfl⟩
    rcases hrow k hk with ⟨g,e,-⟩ | ⟨rfl,e,-⟩
    ·rw [e] at hpk;exact hn k g hpk
    ·rw [e] at hpk;exact hs hpk
 ·rintro (⟨j,⟨hj,hp,hb⟩,rfl,rfl⟩ | ⟨hn,rfl,rfl⟩)
  ·rcases hrow j hj with ⟨g,e1,e2⟩ | ⟨rfl,e1,e2⟩
   ·refine .inl ⟨j,⟨g,by rw [←e1];exact hp,fun k hk hpk=>?_⟩,by rw [e1],e2⟩
    have:=hb k (by omega) (by rw [(h.old k hk).1];exact hpk)
    rw [(h.old k hk).1,e1] at this
    exact this
   ·rw [e1] at hp
    refine .inr ⟨fun k hk hpk=>?_,by rw [e1];rfl,by rw [e2];exact List.prefix_iff_eq_take.1 hp⟩
    have:=hb k (by omega) (by rw [(h.old k hk).1];exact hpk)
    rw [(h.old k hk).1,e1] at this
    have h2:=h1 hk hpk hp
    simp at this
    omega
  ·exact .inr ⟨fun k hk hpk=>hn k (by omega) (by rw [(h.old k hk).1];exact hpk),rfl,rfl⟩
theorem IdRow.res {s:Int} (h:IdRow F T n F' T' s):ResP F T n x y↔ResP F' T' (n+1) x y:=by
 constructor
 ·intro hr
  induction hr with
  | nil=>exact .nil
  | step hx hs _ ih=>exact .step hx ((h.step hx).1 hs) ih
 ·intro hr
  induction hr with
  | nil=>exact .nil
  | step hx hs _ ih=>exact .step hx ((h.step hx).2 hs) ih
theorem IdRow.inj {s:Int} (h:IdRow F T n F' T' s) {B:Int→Prop}:Inj F T n B↔Inj F' T' (n+1) B:=by
 unfold Inj
 simp only [h.res]
end
section
variable {F T F' T':Nat→List Int} {n n':Nat}
theorem yJ (hF:∀ i,i<n→F' i=F (n - 1 - i)):∀ i,i<n→F i=F' (n - 1 - i):=fun i hi=>by
 rw [hF _ (by omega),show n - 1 - (n - 1 - i)=i by omega]
theorem zdw (hF:∀ i,i<n→F' i=F (n - 1 - i)) (hT:∀ i,i<n→T' i=T (n - 1 - i)):zjB F T n F' T' n :=
 fun i hi=>⟨n - 1 - i,by omega,(yJ hF i hi).symm,(yJ hT i hi).symm⟩
theorem zEU (hF:∀ i,i<n→F' i=F (n - 1 - i)) (hT:∀ i,i<n→T' i=T (n - 1 - i)) (h:qJ n F T):qJ n F' T':=by
 refine ⟨h.1,h.2.1,fun i hi=>?_⟩
 obtain ⟨a1,a2,a3,a4,a5,-⟩:=h.2.2 (n - 1 - i) (by omega)
 unfold zoa
 rw [hF i hi,hT i hi]
 refine ⟨a1,a2,a3,a4,a5,fun k hk e=>?_⟩
 rw [hF k (by omega)] at e
 have:=zpu h (by omega) (by omega) e
 omega
theorem zBt (F:Nat→List Int):∀ n,qv F (n+1)=(F 0).length+qv (fun i=>F (i+1)) n
 | 0=>by simp [qv]
 | n+1=>by rw [qv,zBt F n,qv];omega
theorem zy5:∀ {n:Nat} {F F':Nat→List Int},(∀ i,i<n→F' i=F (n - 1 - i))→qv F' n=qv F n
 | 0,_,_,_=>rfl
 | n+1,F,F',h=>by
  rw [zBt F n,qv,h n (by omega),show n+1 - 1 - n=0 by omega,zy5 (n:=n) (F:=fun i=>F (i+1)) (F':=F') fun i hi=>by
   rw [h i (by omega),show n+1 - 1 - i=n - 1 - i+1 by omega]]
  omega
theorem zyD {sigma:Int} (hF:∀ i,i<n→F' i=F (n - 1 - i)) (hT:∀ i,i<n→T' i=T (n - 1 - i)) (h:SmallS F T n sigma):SmallS F' T' n sigma :=
 ⟨h.sg,fun ho=>by rw [zy5 hF,zy5 hT];exact h.sum (zEU (yJ hF) (yJ hT) ho)⟩
theorem zzX {x y:List Int} {e:Int} (ho:qJ n F T↔qJ n' F' T') (hr:∀ w,ResP F T n x w↔ResP F' T' n' x w) (h:ApP F T n x y e):ApP F' T' n' x y e:=by
 rcases h with ⟨h,h1⟩ | ⟨h,z,hz,h1⟩
 ·exact .inl ⟨fun g=>h ⟨ho.2 g.1,g.2⟩,h1⟩
 ·exact .inr ⟨⟨ho.1 h.1,h.2⟩,z,(hr z).1 hz,h1⟩
theorem zin {sigma:Int} (ho:qJ n F T→qJ n' F' T') (h2:zjB F' T' n' F T n) (h:GoodB F T n sigma):GoodB F' T' n' sigma :=
 ⟨ho h.ok,h.lo,h.hi,fun i hi=>by obtain ⟨j,hj,e1,e2⟩:=h2 i hi;rw [←e1,←e2];exact h.sym j hj⟩
theorem zvf {sigma:Int} (hg:GoodB F T n sigma↔GoodB F' T' n' sigma) (hi:Inj F T n (zB2 sigma)↔Inj F' T' n' (zB2 sigma)):wj F T n sigma=wj F' T' n' sigma:=by
 unfold wj
 rw [propext hg,propext hi]
theorem zN1 {s:Int} (h1:∀ i,i<n→F' i=F i∧T' i=T i) (h2:F' n=[s]∧T' n=[s]) (ho:qJ (n+1) F' T') (hok:qJ n F T):IdRow F T n F' T' s :=
 ⟨h1,h2,fun i hi e=>by
  have:=zpu ho (show i<n+1 by omega) (show n<n+1 by omega) (by rw [(h1 i hi).1,e,h2.1])
  omega,fun i hi e=>by
  have:=(hok.2.2 i hi).1
  rw [e] at this
  exact absurd this (by decide)⟩
theorem zJJ {s sigma:Int} (h:IdRow F T n F' T' s) (hok:qJ n F T) (hs:SmallS F T n sigma):zjJ F' T' (n+1) sigma:=by
 refine ⟨hs.sg,fun hT _=>?_⟩
 have h1:=zhY n h.non
 have h2:=zhY (F:=T) n fun i hi=>by rw [←(h.old i hi).2];exact hT i (by omega)
 have h3:=hs.sum hok
 have h4:=hok.1
 have e1:qv F' (n+1)=qv F n+1:=by rw [qv,j7 (F:=F) n fun i hi=>(h.old i hi).1,h.neu.1];rfl
 have e2:qv T' (n+1)=qv T n+1:=by rw [qv,j7 (F:=T) n fun i hi=>(h.old i hi).2,h.neu.2];rfl
 refine ⟨by omega,by omega,fun i hi=>?_⟩
 by_cases g:i<n
 ·have:=zzM (F:=F) n i g
  rw [(h.old i g).1];omega
 ·obtain rfl:i=n:=by omega
  rw [h.neu.1];simp
theorem zMa {s sigma:Int} (h:IdRow F T n F' T' s) (ho:qJ (n+1) F' T') (hs:s≤sigma) (hg:GoodB F T n sigma):GoodB F' T' (n+1) sigma:=by
 refine ⟨ho,hg.lo,hg.hi,fun i hi=>?_⟩
 by_cases g:i<n
 ·rw [(h.old i g).1,(h.old i g).2];exact hg.sym i g
 ·obtain rfl:i=n:=by omega
  have h1:=(ho.2.2 i hi).2.2.2.1
  rw [h.neu.1] at h1
  rw [h.neu.1,h.neu.2]
  have h2:jl sigma [s]:=fun z hz=>by
   have:=h1 z hz
   simp only [kag] at hz
   subst hz
   exact ⟨this.1,hs⟩
  exact ⟨h2,h2⟩
end
def zMf (s s':S):Prop:=s.nx.toNat≤s'.nx.toNat∧∀ c,c.toNat<s.nx.toNat→Tr.get B.none c s'.h=Tr.get B.none c s.h∨∃ fl l' n el mn f1 f2,Tr.get B.none c s.h=.row fl n el true mn f1 f2∧Tr.get B.none c s'.h=.row (fl++l') (n+l'.length) el true mn f1 f2
variable {v:V}
theorem slG {s s':S} {sz:Nat} (h:Sl s sz v) (e:zMf s s'):Sl s' sz v∧∀ j,j<zb v*sz→zt s' v j=zt s v j:=by
 have key:∀ a w o len,a.toNat<s.nx.toNat→(∃ l n el gr mn f1 f2,Tr.get B.none a s.h=.row l n el gr mn f1 f2∧l.length=n∧j9 n gr mn w (o+len*sz)=true) →
   (∃ l n el gr mn f1 f2,Tr.get B.none a s'.h=.row l n el gr mn f1 f2∧l.length=n∧j9 n gr mn w (o+len*sz)=true)∧∀ j,j<len*sz→(yz (Tr.get B.none a s'.h)).getD (o+j) .bad=(yz (Tr.get B.none a s.h)).getD (o+j) .bad:=by
  intro a w o len ha ⟨l,n,el,gr,mn,f1,f2,g1,g2,g3⟩
  rcases e.2 a ha with h | ⟨fl,l',n',el',mn',f1',f2',h1,h2⟩
  ·exact ⟨⟨l,n,el,gr,mn,f1,f2,h.trans g1,g2,g3⟩,fun j hj=>by rw [h]⟩
  ·rw [h1] at g1
   obtain ⟨rfl,rfl,rfl,rfl,rfl,rfl,rfl⟩:=B.row.inj g1
   have q:mn'≤w∧w≤n'∧o+len*sz≤w:=by
    rcases qG.1 g3 with ⟨-,q⟩ | ⟨q,-⟩
    ·exact q
    ·cases q
   refine ⟨⟨fl++l',n'+l'.length,el',true,mn',f1',f2',h2,by rw [kah,g2],qG.2 (.inl ⟨rfl,q.1,by omega,q.2.2⟩)⟩,fun j hj=>?_⟩
   rw [h1,h2]
   show (fl++l').getD _ _=fl.getD _ _
   rw [kan,kam (by omega),←kan]
 rcases h with h | ⟨a,w,o,len,hv,ha,hb⟩
 ·refine ⟨.inl h,fun j hj=>?_⟩
  rcases h with rfl | ⟨c,rfl⟩<;>rfl
 ·obtain ⟨k1,k2⟩:=key a w o len ha hb
  refine ⟨.inr ⟨a,w,o,len,hv,kaf ha e.1,k1⟩,fun j hj=>?_⟩
  rcases hv with ⟨cap,rfl,-⟩ | ⟨e0,rfl⟩<;>exact k2 j hj
theorem zqm {s s':S} (h:zZ s v) (e:zMf s s'):zZ s' v∧word s' v=word s v:=by
 obtain ⟨h1,h2⟩:=slG h.1 e
 rw [kaK] at h2
 refine ⟨⟨h1,h.2.1,fun j hj=>by rw [h2 j hj];exact h.2.2 j hj⟩,kaO fun j hj=>?_⟩
 show toI (zt s' v j)=toI (zt s v j)
 rw [h2 j (List.mem_range.1 hj)]
theorem zO9 {s s':S} (h:Tab s v) (e:zMf s s'):Tab s' v∧∀ i,i<zb v→zi s' v i=zi s v i∧toV s' v i=toV s v i:=by
 obtain ⟨h1,h2⟩:=slG h.1 e
 refine ⟨⟨h1,⟨h.2.1.1,?_⟩,fun i hi=>?_⟩,fun i hi=>?_⟩
 ·rcases h.2.1.2 with g | ⟨a,w,len,e0,l,n,gr,mn,f1,f2,rfl,g1,g2⟩
  ·exact .inl g
  ·rcases e.2 a g1 with g | ⟨fl,l',n',el',mn',f1',f2',q1,q2⟩
   ·exact .inr ⟨a,w,len,e0,l,n,gr,mn,f1,f2,rfl,kaf g1 e.1,g.trans g2⟩
   ·rw [g2] at q1
    cases q1
    exact .inr ⟨a,w,len,e0,_,_,_,_,_,_,rfl,kaf g1 e.1,q2⟩
 ·rw [h2 _ (by omega),h2 _ (by omega)]
  exact ⟨(zqm (h.2.2 i hi).1 e).1,(zqm (h.2.2 i hi).2 e).1⟩
 ·unfold zi toV
  rw [h2 _ (by omega),h2 _ (by omega)]
  exact ⟨(zqm (h.2.2 i hi).1 e).2,(zqm (h.2.2 i hi).2 e).2⟩
variable {rows:List (List V)} {b:S}
theorem zNl {s:S} (h:Gz 49 2 b s v rows) (hlen:rows.length≤9223372036854775807) (hr:∀ j,j<rows.length→∃ x y,rows[j]?=some [x,y]∧zZ s x∧zZ s y) :
  Tab s v∧zb v=rows.length∧∀ j x y,rows[j]?=some [x,y]→zi s v j=word s x∧toV s v j=word s y:=by
 obtain ⟨h1,h2,h3⟩:=h.sl
 have hc:∀ j x y,rows[j]?=some [x,y]→zt s v (j*2)=x∧zt s v (j*2+1)=y:=fun j x y hj=>by
  have hlt:j<rows.length:=(kad.1 hj).1
  have e:rows.getD j []=[x,y]:=by rw [kan,hj];rfl
  have g0:=h3 j 0 hlt (by omega)
  have g1:=h3 j 1 hlt (by omega)
  rw [e] at g0 g1
  exact ⟨g0,g1⟩
 refine ⟨⟨h1,⟨by omega,?_⟩,fun j hj=>?_⟩,h2,fun j x y hj=>?_⟩
 ·rcases h with ⟨rfl,-⟩ | ⟨a,mn,rfl,q1,q2,q3,q4,q5⟩
  ·exact .inl trivial
  ·exact .inr ⟨a,_,_,0,_,_,_,mn,0,0,rfl,q2,q4⟩
 ·obtain ⟨x,y,e,hx,hy⟩:=hr j (by omega)
  obtain ⟨c0,c1⟩:=hc j x y e
  rw [c0,c1];exact ⟨hx,hy⟩
 ·obtain ⟨c0,c1⟩:=hc j x y hj
  unfold zi toV
  rw [c0,c1];exact ⟨rfl,rfl⟩
theorem zNT {s:S} {a:Go.Ev.K} {L mn:Nat} {fl:List V} (h:Tr.get B.none a s.h=.row fl (L*2) 49 true mn 0 0) (hL:L+1≤68719476736) (new:List V) (k:V→S→Go.Ev.A) :
  jL 49 2 (.so a (L*2) 0 L 0) 1 new s k=k (.so a ((L+1)*2) 0 (L+1) 0) (qj s a (.row (fl++new) ((L+1)*2) 49 true mn 0 0)):=by
 have e3:(L+1)*2=L*2+2:=by omega
 rw [e3]
 show fN (Nat.add L 1) _=_
 rw [zH]
 show zY s a _=_
 rw [zK,h]
 show fN (Nat.add 0 (Nat.mul L 2)) _=_
 rw [zH]
 show (Bool.rec (motive:=fun _=>Go.Ev.A) _ _ (zq (Nat.beq (L*2) (L*2)) (Nat.ble (Nat.add (Nat.add 0 (Nat.mul L 2)) (Nat.mul 1 2)) (L*2))):Go.Ev.A)=_
 have e0:Nat.add 0 (Nat.mul L 2)=L*2:=by show 0+L*2=_;omega
 rw [e0,show Nat.beq (L*2) (L*2)=true from kay _,show Nat.ble (Nat.add (L*2) (Nat.mul 1 2)) (L*2)=false by
  cases e:Nat.ble (Nat.add (L*2) (Nat.mul 1 2)) (L*2) with
  | true=>have:=kaM e;have e2:Nat.add (L*2) (Nat.mul 1 2)=L*2+2:=rfl;omega
  | false=>rfl]
 show (Bool.rec (motive:=fun _=>Go.Ev.A) _ _ (Nat.ble (Nat.add L 1) 68719476736):Go.Ev.A)=_
 rw [show Nat.ble (Nat.add L 1) 68719476736=true from kap hL]
 show zah fl new _=_
 rw [yf,zH,qp];rfl
theorem zCb {s:S} (h:Gz 49 2 b s v rows) (hE:Ext b s) {x y:V} (hx:x≠.bad) (hy:y≠.bad) (hlim:rows.length+1≤68719476736) :
  ∃ v' s',(∀ k:V→S→Go.Ev.A,zP 49 2 v (.sl s.nx 0 0 1 1) (zN s (.row [x,y] 2 49 false 0 0 0)) k=k v' s')∧Gz 49 2 b s' v' (rows++[[x,y]])∧Ext b s'∧zMf s s':=by
 have hn:∀ z∈[x,y],z≠.bad:=fun z hz=>by
  rcases kaj.1 hz with rfl | hz
  ·exact hx
  ·rcases kag.1 hz with rfl;exact hy
 obtain ⟨v',s',h1,h2,h3,h4,h5⟩:=h.app1 hE.nx (by omega) (x:=[x,y]) hn rfl hlim
 refine ⟨v',s',h1,h2,ext_of hE h3 (D:=fun c=>zC v=some c) h4 fun c hc=>(h.blk hc).1,h3,fun c hc=>?_⟩
 by_cases hcv:zC v=some c
 ·rcases h with ⟨rfl,rfl⟩ | ⟨a,mn,rfl,q1,q2,q3,q4,q5⟩
  ·cases hcv
  ·obtain rfl:=Option.some.inj hcv
   have hA:=zO s (.row [x,y] 2 49 false 0 0 0)
   have e:=h1 fun v s=>.fin v s
   rw [show zP 49 2 (.so a (rows.length*2) 0 rows.length 0) (.sl s.nx 0 0 1 1) (zN s (.row [x,y] 2 49 false 0 0 0)) (fun v s=>Go.Ev.A.fin v s)=Go.Ev.A.fin (.so a ((rows.length+1)*2) 0 (rows.length+1) 0) (qj (zN s (.row [x,y] 2 49 false 0 0 0)) a (.row (rows.flatten++[x,y]) ((rows.length+1)*2) 49 true mn 0 0)) by
    show qy 2 (.sl s.nx 0 0 1 1) _ _=_
    rw [zNf 49 2 hn rfl]
    exact zNT ((hA.get a q2).trans q4) hlim _ _] at e
   obtain ⟨rfl,rfl⟩:=A.fin.inj e
   exact .inr ⟨_,[x,y],_,49,mn,0,0,q4,by rw [zm,if_pos rfl,Nat.add_mul];rfl⟩
 ·exact .inl (h4 c hc hcv)
def zaB (b:S) (l:V) (q:Nat):List (List V):=(List.range q).map fun j=>[zt b l ((zb l - 1 - j)*2),zt b l ((zb l - 1 - j)*2+1)]
theorem zfq {l:V} {q j:Nat} (hj:j<q):(zaB b l q)[j]?=some [zt b l ((zb l - 1 - j)*2),zt b l ((zb l - 1 - j)*2+1)]:=by
 simp [zaB,hj]
theorem zJN {s:S} {l:V} (hl:Tab b l) (hE:Ext b s) (h:Gz 49 2 b s v (zaB b l (zb l))) :
  Tab s v∧zb v=zb l∧(∀ i,i<zb l→zi s v i=zi b l (zb l - 1 - i))∧∀ i,i<zb l→toV s v i=toV b l (zb l - 1 - i):=by
 have hlen:(zaB b l (zb l)).length=zb l:=by simp [zaB]
 obtain ⟨h1,h2,h3⟩:=zNl h (by rw [hlen];exact hl.2.1.1) fun j hj=>by
  rw [hlen] at hj
  obtain ⟨g0,g1⟩:=hl.2.2 (zb l - 1 - j) (by omega)
  exact ⟨_,_,zfq hj,(g0.ext hE).1,(g1.ext hE).1⟩
 refine ⟨h1,h2.trans hlen,fun i hi=>?_,fun i hi=>?_⟩
 ·rw [(h3 i _ _ (zfq hi)).1,(hl.2.2 _ (by omega)).1.word hE];rfl
 ·rw [(h3 i _ _ (zfq hi)).2,(hl.2.2 _ (by omega)).2.word hE];rfl
theorem zJT {s:S} {l p q:V} {w w':List Int} (hl:Tab b l) (h30:zb l≤30) (hE:Ext b s) (h:Gz 49 2 b s v (zaB b l (zb l)++[[p,q]])) (hp:zZ s p∧word s p=w) (hq:zZ s q∧word s q=w') :
  Tab s v∧zb v=zb l+1∧(∀ i,i<zb l→zi s v i=zi b l (zb l - 1 - i)∧toV s v i=toV b l (zb l - 1 - i))∧zi s v (zb l)=w∧toV s v (zb l)=w':=by
 have hlen:(zaB b l (zb l)).length=zb l:=by simp [zaB]
 have old:∀ j,j<zb l→(zaB b l (zb l)++[[p,q]])[j]?=some [zt b l ((zb l - 1 - j)*2),zt b l ((zb l - 1 - j)*2+1)]:=fun j hj=>by
  rw [kam (by omega)];exact zfq hj
 have neu:(zaB b l (zb l)++[[p,q]])[zb l]?=some [p,q]:=by
  rw [kax (by omega),hlen,Nat.sub_self];rfl
 have hlen2:(zaB b l (zb l)++[[p,q]]).length=zb l+1:=by rw [kah,hlen];rfl
 obtain ⟨h1,h2,h3⟩:=zNl h (by omega) fun j hj=>by
  by_cases g:j<zb l
  ·obtain ⟨g0,g1⟩:=hl.2.2 (zb l - 1 - j) (by omega)
   exact ⟨_,_,old j g,(g0.ext hE).1,(g1.ext hE).1⟩
  ·obtain rfl:j=zb l:=by omega
   exact ⟨_,_,neu,hp.1,hq.1⟩
 refine ⟨h1,h2.trans hlen2,fun i hi=>⟨?_,?_⟩,(h3 _ _ _ neu).1.trans hp.2,(h3 _ _ _ neu).2.trans hq.2⟩
 ·rw [(h3 i _ _ (old i hi)).1,(hl.2.2 _ (by omega)).1.word hE];rfl
 ·rw [(h3 i _ _ (old i hi)).2,(hl.2.2 _ (by omega)).2.word hE];rfl
structure OrX where
 l:V
 x:V
 sv:Int
 sg:Int
 b:S
def OrX.fr (c:OrX) (tm:T):Prop:=gp 0 tm=c.l∧gp 1 tm=c.x∧gp 2 tm=iv .i64 c.sv∧gp 3 tm=iv .i64 c.sg∧gp 240 tm=.bad
def OrX.pre (c:OrX) (tm:T) (s:S):Prop:=Tab c.b c.l∧Ext c.b s∧zb c.l≤30∧c.fr tm∧∃ q:Nat,q≤zb c.l∧gp 10 tm=iv .i64 ((zb c.l:Int) - 1 - q)∧Gz 49 2 c.b s (gp 9 tm) (zaB c.b c.l q)
def OrX.post (c:OrX) (a:Go.Ev.A):Prop:=∃ tm s,a=.ext 0 tm s∧Ext c.b s∧c.fr tm∧Gz 49 2 c.b s (gp 9 tm) (zaB c.b c.l (zb c.l))
theorem zNQ:∀ (c:OrX) tm s,c.pre tm s→c.post (zbx.run (Rk Tryz.prog zmQ fun _=>ltI OrX.pre OrX.post) tm s):=by
 refine y9 (L:=fun _=>ltI OrX.pre OrX.post) zG.1 zG.2 zAG rfl (fun tm _=>(toI (gp 10 tm)+1).toNat) (fun x a ⟨_,_,h,_⟩=>by rw [h];exact fun h=>h) ?_
 rintro ⟨l,x,sv,sg,b⟩ tm s ⟨hl,hE,hn,⟨h0,h1,h2,h3,h240⟩,q,hq,h10,hz⟩ IH
 show OrX.post _ (zbx.run _ tm _)
 generalize Rk Tryz.prog _ _=r at IH ⊢
 simp only at hl hE hn h0 h1 h2 h3 hq h10 hz
 by_cases hlt:q<zb l
 ·have hi:zb l - 1 - q<zb l:=by omega
  have e10:((zb l:Int) - 1 - q)=((zb l - 1 - q:Nat):Int):=by omega
  rw [e10] at h10
  obtain ⟨hls,hc,-,-⟩:=hl.ext hE
  obtain ⟨p,q0,q1,ix,-,-,-,-,ld⟩:=hls.fields hi
  rw [hc,hc] at ld
  have hx0:=(hl.2.2 _ hi).1.ne
  have hx1:=(hl.2.2 _ hi).2.ne
  obtain ⟨v',s',ap,hz',hE',-⟩:=zCb hz hE hx0 hx1 (by simp [zaB];omega)
  have hge:((0:Int)≤((zb l - 1 - q:Nat):Int))=True:=eq_true (by omega)
  have hw:IntKind.i64.wrap (((zb l - 1 - q:Nat):Int) - 1)=(zb l:Int) - 1 - (q+1:Nat):=by rw [z9 (by omega) (by omega)];omega
  have nr:∀ (c0 c1:V) (c:Go.Ev.K→Nat→S→Go.Ev.A),Go.Ev.newRow s 49 [c0,c1] false c=c s.nx 2 (zN s (.row [c0,c1] 2 49 false 0 0 0)):=fun c0 c1 c=>zo s 49 [c0,c1] false c
  have c2:∀ (c0 c1:V) (c:List V→Go.Ev.A),zp 2 (.ls 0 [c0,c1]) c=c [c0,c1]:=fun _ _ _=>rfl
  have up:∀ c0 c1:V,upd [c0,c1] 0 (rep [.nil 1,.nil 1] 1)=[c0,c1]:=fun _ _=>rfl
  simp -implicitDefEqProofs [zlA,je,h0,h10,ix,ld,hge,nr,c2,up,ap,hw]
  refine IH ⟨l,x,sv,sg,b⟩ _ s' ?_ ⟨hl,hE',hn,⟨by simp [h0],by simp [h1],by simp [h2],by simp [h3],by simp [h240]⟩,q+1,hlt,by simp,?_⟩
  ·rw [h10,zn];simp [zn];omega
  ·simp only [zaB,List.range_succ,kaE,kaN,List.map_nil] at hz' ⊢
   simpa using hz'
 ·obtain rfl:q=zb l:=by omega
  rw [show ((zb l:Int) - 1 - (zb l:Nat))=-1 by omega] at h10
  have hge:((0:Int)≤-1)=False:=eq_false (by omega)
  simp -implicitDefEqProofs [zlA,je,h10]
  exact ⟨_,s,rfl,hE,⟨by simp [h0],by simp [h1],by simp [h2],by simp [h3],by simp [h240]⟩,by simpa using hz⟩
section
variable {F T F' T':Nat→List Int} {n n':Nat} {sg:Int}
theorem zKR (hF:∀ i,i<n→F' i=F i) (hT:∀ i,i<n→T' i=T i):zjB F T n F' T' n:=fun i hi=>⟨i,hi,hF i hi,hT i hi⟩
theorem zKT {x y:List Int} {e:Int} (hF:∀ i,i<n→F' i=F i) (hT:∀ i,i<n→T' i=T i) (h:ApP F' T' n x y e):ApP F T n x y e :=
 zzX (ya hF hT) (fun _=>zha (fun i hi=>⟨i,hi,(hF i hi).symm,(hT i hi).symm⟩) (zKR hF hT)) h
theorem zwV (ho:qJ n F T↔qJ n' F' T') (h1:zjB F T n F' T' n') (h2:zjB F' T' n' F T n):wj F T n sg=wj F' T' n' sg :=
 zvf ⟨zin ho.1 h2,zin ho.2 h1⟩ (zLt h1 h2)
theorem zJ2 (hF:∀ i,i<n→F' i=F i) (hT:∀ i,i<n→T' i=T i) (h:SmallS F T n sg):SmallS F' T' n sg :=
 ⟨h.sg,fun ho=>by rw [j7 n hF,j7 n hT];exact h.sum ((ya hF hT).1 ho)⟩
end
structure Orv (s:S) (l o:V):Prop where
 tl:Tab s l
 to:Tab s o
 no:zb o=zb l
 oF:∀ i,i<zb l→zi s o i=zi s l (zb l - 1 - i)
 oT:∀ i,i<zb l→toV s o i=toV s l (zb l - 1 - i)
structure Wth (s:S) (l o w:V) (sv:Int):Prop extends Orv s l o where
 tw:Tab s w
 nw:zb w=zb l+1
 wF:∀ i,i<zb l→zi s w i=zi s o i∧toV s w i=toV s o i
 wN:zi s w (zb l)=[sv]∧toV s w (zb l)=[sv]
section
variable {s s':S} {l o w:V} {sv sg:Int}
theorem znd (h:Orv s l o) (e:Ext s s'):Orv s' l o:=by
 obtain ⟨h1,-,h2,h3⟩:=h.tl.ext e
 obtain ⟨g1,-,g2,g3⟩:=h.to.ext e
 rw [h.no] at g2 g3
 exact ⟨h1,g1,h.no,fun i hi=>by rw [g2 i hi,h2 _ (by omega)];exact h.oF i hi,fun i hi=>by rw [g3 i hi,h3 _ (by omega)];exact h.oT i hi⟩
theorem zfa (h:Wth s l o w sv) (e:Ext s s'):Wth s' l o w sv:=by
 obtain ⟨h1,-,h2,h3⟩:=h.tw.ext e
 obtain ⟨-,-,g2,g3⟩:=h.to.ext e
 rw [h.no] at g2 g3
 rw [h.nw] at h2 h3
 exact ⟨znd h.toOrv e,h1,h.nw,fun i hi=>by rw [h2 i (by omega),h3 i (by omega),g2 i hi,g3 i hi];exact h.wF i hi,by rw [h2 _ (by omega),h3 _ (by omega)];exact h.wN⟩
theorem Orv.ok (h:Orv s l o):qx s l↔qx s o:=by
 unfold qx
 rw [h.no]
 exact ⟨zEU h.oF h.oT,zEU (yJ h.oF) (yJ h.oT)⟩
variable {e f:Int} {x y z:List Int}
theorem Orv.ap (h:Orv s l o) (h1:ApP (zi s l) (toV s l) (zb l) x y e) (h2:ApP (zi s o) (toV s o) (zb o) x z f):y=z∧e=f:=by
 have ho:=h.ok
 unfold qx at ho
 rw [h.no] at h2 ho
 exact zHG (zzX ho (fun w=>zha (zdw h.oF h.oT) (zdw (yJ h.oF) (yJ h.oT))) h1) h2
theorem Orv.back (h:Orv s l o):wj (zi s l) (toV s l) (zb l) sg=wj (zi s o) (toV s o) (zb o) sg:=by
 have ho:=h.ok
 unfold qx at ho
 rw [h.no] at ho ⊢
 exact zwV ho (zdw h.oF h.oT) (zdw (yJ h.oF) (yJ h.oT))
theorem Wth.row (h:Wth s l o w sv) (hl:qx s l) (hw:qx s w):IdRow (zi s o) (toV s o) (zb l) (zi s w) (toV s w) sv:=by
 unfold qx at hw
 rw [h.nw] at hw
 have ho:=h.ok.1 hl
 unfold qx at ho
 rw [h.no] at ho
 exact zN1 h.wF h.wN hw ho
theorem Wth.ap (h:Wth s l o w sv) (hl:qx s l) (hw:qx s w) (h1:ApP (zi s l) (toV s l) (zb l) x y e) (h2:ApP (zi s w) (toV s w) (zb w) x z f):y=z∧e=f:=by
 have hI:=h.row hl hw
 have ho:=h.ok.1 hl
 unfold qx at ho hw hl
 rw [h.no] at ho
 rw [h.nw] at h2 hw
 have h3:=zzX (iff_of_true hl ho) (fun w=>zha (zdw h.oF h.oT) (zdw (yJ h.oF) (yJ h.oT))) h1
 exact zHG (zzX (iff_of_true ho hw) (fun w=>hI.res) h3) h2
theorem Wth.back (h:Wth s l o w sv) (hw:qx s w) (hg:GoodB (zi s l) (toV s l) (zb l) sg) (hs:SmallS (zi s l) (toV s l) (zb l) sg) (hle:sv≤sg) :
  zjJ (zi s w) (toV s w) (zb w) sg∧wj (zi s l) (toV s l) (zb l) sg=wj (zi s w) (toV s w) (zb w) sg:=by
 have hl:qx s l:=hg.ok
 have hI:=h.row hl hw
 have ho:=h.ok.1 hl
 have hb:=h.toOrv.back (sg:=sg)
 unfold qx at ho hw
 rw [h.no] at ho hb
 rw [h.nw] at hw ⊢
 refine ⟨zJJ hI ho (zyD h.oF h.oT hs),hb.trans (zvf ?_ hI.inj)⟩
 have hgo:GoodB (zi s o) (toV s o) (zb l) sg:=zin (fun _=>ho) (zdw (yJ h.oF) (yJ h.oT)) hg
 exact iff_of_true hgo (zMa hI hw hle hgo)
theorem zEH (hl:Tab s l) (e:Ext s s'):wj (zi s' l) (toV s' l) (zb l) sg=wj (zi s l) (toV s l) (zb l) sg:=by
 obtain ⟨-,-,h2,h3⟩:=hl.ext e
 exact (zwV (ya h2 h3).symm (zKR h2 h3) fun i hi=>⟨i,hi,(h2 i hi).symm,(h3 i hi).symm⟩).symm
theorem zvq (hl:Tab s l) (e:Ext s s') (h:SmallS (zi s l) (toV s l) (zb l) sg):SmallS (zi s' l) (toV s' l) (zb l) sg:=by
 obtain ⟨-,-,h2,h3⟩:=hl.ext e
 exact zJ2 h2 h3 h
theorem zJ1 (hl:Tab s l) (e:Ext s s') (h:GoodB (zi s l) (toV s l) (zb l) sg):GoodB (zi s' l) (toV s' l) (zb l) sg:=by
 obtain ⟨-,-,h2,h3⟩:=hl.ext e
 exact zin (ya h2 h3).2 (fun i hi=>⟨i,hi,(h2 i hi).symm,(h3 i hi).symm⟩) h
end
open Classical in
theorem zIq (hEx:zL Tryz.prog K 8) {s:S} {l x:V} {sv sg:Int} (hl:Tab s l) (hx:zZ s x) (fx:Fx x):∃ s',qO Tryz.prog 5 [l,x,iv .i64 sv,iv .i64 sg] s (.bool true) s':=by
 have hE:=zQ (L:=fun _=>ltI OrX.pre OrX.post) (show zL Tryz.prog zmQ 8 from hEx)
 have hLa:=zQ (L:=fun _=>ltI OrX.pre OrX.post) (show zL Tryz.prog zmQ 7 from zJF)
 have hFa:=zQ (L:=fun _=>ltI OrX.pre OrX.post) (show zL Tryz.prog zmQ 21 from zNA)
 have hVa:=zQ (L:=fun _=>ltI OrX.pre OrX.post) (show zL Tryz.prog zmQ 22 from zoR)
 have hCo:=zQ (L:=fun _=>ltI OrX.pre OrX.post) (show zL Tryz.prog zmQ 20 from zFB)
 have hAp:=zQ (L:=fun _=>ltI OrX.pre OrX.post) (show zL Tryz.prog zmQ 17 from zJG)
 have hSm:=qV (zQ (L:=fun _=>ltI OrX.pre OrX.post) zFl) (X:=V × Int) rfl
 have hBa:=qV (zQ (L:=fun _=>ltI OrX.pre OrX.post) (show zL Tryz.prog zmQ 11 from zK6)) (X:=V × Int) rfl
 have hLo:=zNQ
 suffices h:∃ s',(fnC zj 5).run (Rk Tryz.prog zmQ fun _=>ltI OrX.pre OrX.post) [l,x,iv .i64 sv,iv .i64 sg] s=.ret (.bool true) s' from ⟨_,zbD zG.1 zG.2 (zKY zj _ _) h.choose_spec⟩
 generalize Rk Tryz.prog _ _=r at hE hLa hFa hVa hCo hAp hSm hBa hLo ⊢
 have ex:∀ s,r.call 8 [] s=.ret (.bool true) s:=fun s=>by
  obtain ⟨w,s2,e2,hp⟩:=hE [] s rfl
  obtain ⟨rfl,rfl⟩:=hp
  exact e2
 obtain ⟨v1,s1,e1,hp1⟩:=hLa [l] s ⟨l,rfl,hl⟩
 obtain ⟨q1,hv1⟩:=hp1 l rfl
 rw [q1] at e1
 obtain ⟨v2,s2,e2,hp2⟩:=hFa [x] s ⟨x,rfl,hx⟩
 obtain ⟨q2,hv2⟩:=hp2 x rfl
 rw [q2] at e2
 by_cases g1:30<zb l
 ·obtain rfl:v1=.bool true:=by rw [hv1];simp [g1]
  exact ⟨s,by simp [je,e1,ex]⟩
 obtain rfl:v1=.bool false:=by rw [hv1];simp [g1]
 by_cases g2:250<zb x
 ·obtain rfl:v2=.bool true:=by rw [hv2];simp [g2]
  exact ⟨s,by simp [je,e1,e2,ex]⟩
 obtain rfl:v2=.bool false:=by rw [hv2];simp [g2]
 have hll:∀ c:V→Go.Ev.A,zz l c=c (iv .i64 (zb l:Int)):=fun c=>hl.1.len c
 have hw0:IntKind.i64.wrap ((zb l:Int) - 1)=(zb l:Int) - 1 - (0:Nat):=by rw [z9 (by omega) (by omega)];omega
 generalize hF:(fnC zj 5).run r _ _=F0
 simp -implicitDefEqProofs [je,e1,e2,hll,hw0] at hF
 generalize hA:zbx.run r _ s=A1 at hF
 obtain ⟨tm2,s3,rfl,hE3,⟨k0,k1,k2,k3,k240⟩,hz⟩:=hA▸hLo ⟨l,x,sv,sg,s⟩ _ s ⟨hl,Ext.refl s,by show zb l≤30;omega,⟨by simp,by simp,by simp,by simp,by simp⟩,0,Nat.zero_le _,by simp,.inl ⟨by simp,rfl⟩⟩
 simp only at k0 k1 k2 k3 hE3 hz
 generalize ko:gp 9 tm2=o at hz
 obtain ⟨to3,no,oF,oT⟩:=zJN hl hE3 hz
 obtain ⟨hl3,-,hF3,hT3⟩:=hl.ext hE3
 have O3:Orv s3 l o:=⟨hl3,to3,no,fun i hi=>by rw [oF i hi,hF3 _ (by omega)],fun i hi=>by rw [oT i hi,hT3 _ (by omega)]⟩
 obtain ⟨v4,s4,e4,hp4⟩:=hAp [l,x] s3 ⟨l,x,rfl,hl3,(hx.ext hE3).1,fx⟩
 obtain ⟨E4,y,er,rfl,hy,hA4⟩:=hp4 l x rfl
 have O4:=znd O3 E4
 obtain ⟨v5,s5,e5,hp5⟩:=hAp [o,x] s4 ⟨o,x,rfl,O4.to,(hx.ext (hE3.trans E4)).1,fx⟩
 obtain ⟨E5,z,fr,rfl,hz5,hA5⟩:=hp5 o x rfl
 have O5:=znd O4 E5
 obtain ⟨-,-,hF4,hT4⟩:=hl3.ext E4
 have hx4:word s4 x=word s3 x:=by rw [hx.word (hE3.trans E4),hx.word hE3]
 obtain ⟨hyz,rfl⟩:=O4.ap (zKT (fun i hi=>(hF4 i hi).symm) (fun i hi=>(hT4 i hi).symm) hA4) (hx4▸hA5)
 obtain ⟨v6,s6,e6,hp6⟩:=hCo [y,z] s5 ⟨y,z,rfl,(hy.ext E5).1,hz5⟩
 obtain ⟨q6,z6,rfl,hz6⟩:=hp6 y z rfl
 rw [q6] at e6
 obtain rfl:z6=0:=hz6.2 (by rw [hy.word E5];exact hyz)
 -- the row that changes nothing
 have E51:=zO s5 (.row [iv .i64 sv] 1 3 false 0 0 0)
 have E52:=zO (zN s5 (.row [iv .i64 sv] 1 3 false 0 0 0)) (.row [iv .i64 sv] 1 3 false 0 0 0)
 have b1:=zrX s5 sv
 have b2:=zrX (zN s5 (.row [iv .i64 sv] 1 3 false 0 0 0)) sv
 have nr3:∀ (s:S) (c:Go.Ev.K→Nat→S→Go.Ev.A),Go.Ev.newRow s 3 [iv .i64 sv] false c=c s.nx 1 (zN s (.row [iv .i64 sv] 1 3 false 0 0 0)):=fun s c=>zo s 3 _ false c
 generalize hs51:zN s5 (.row [iv .i64 sv] 1 3 false 0 0 0)=s51 at E51 E52 b1 b2
 generalize hs52:zN s51 (.row [iv .i64 sv] 1 3 false 0 0 0)=s52 at E52 b2
 have EA:=E4.trans (E5.trans (E51.trans E52))
 obtain ⟨w,s7,ap,hz7,hE7,hG7⟩:=zCb (hz.ext EA) (hE3.trans EA) (x:=.sl s5.nx 0 0 1 1) (y:=.sl s51.nx 0 0 1 1) (by intro e;cases e) (by intro e;cases e) (by simp [zaB];omega)
 have p1:=zqm (b1.1.ext E52).1 hG7
 have p2:=zqm b2.1 hG7
 obtain ⟨tw,nw,wFT,wF,wT⟩:=zJT hl (by omega) hE7 hz7 ⟨p1.1,p1.2.trans ((b1.1.word E52).trans b1.2)⟩ ⟨p2.1,p2.2.trans b2.2⟩
 obtain ⟨hl7,-,hF7,hT7⟩:=hl.ext hE7
 have O52:=znd O5 (E51.trans E52)
 obtain ⟨to7,oFT⟩:=zO9 O52.to hG7
 obtain ⟨-,-,hF52,hT52⟩:=hl.ext (hE3.trans EA)
 rw [no] at oFT
 have O7:Orv s7 l o:=⟨hl7,to7,no,fun i hi=>by rw [(oFT i hi).1,O52.oF i hi,hF52 _ (by omega),hF7 _ (by omega)],fun i hi=>by rw [(oFT i hi).2,O52.oT i hi,hT52 _ (by omega),hT7 _ (by omega)]⟩
 have W7:Wth s7 l o w sv:=⟨O7,tw,nw,fun i hi=>⟨by rw [(wFT i hi).1,O7.oF i hi,hF7 _ (by omega)],by rw [(wFT i hi).2,O7.oT i hi,hT7 _ (by omega)]⟩,wF,wT⟩
 have hy7:=zqm (hy.ext (E5.trans (E51.trans E52))).1 hG7
 have nr49:∀ (c:Go.Ev.K→Nat→S→Go.Ev.A),Go.Ev.newRow s52 49 [.sl s5.nx 0 0 1 1,.sl s51.nx 0 0 1 1] false c=c s52.nx 2 (zN s52 (.row [.sl s5.nx 0 0 1 1,.sl s51.nx 0 0 1 1] 2 49 false 0 0 0)):=fun c=>zo s52 49 _ false c
 have c2:∀ (c0 c1:V) (c:List V→Go.Ev.A),zp 2 (.ls 0 [c0,c1]) c=c [c0,c1]:=fun _ _ _=>rfl
 have up:∀ c0 c1:V,upd [c0,c1] 0 (rep [.nil 1,.nil 1] 1)=[c0,c1]:=fun _ _=>rfl
 have c1:∀ (a:Go.Ev.K) (c:List V→Go.Ev.A),zp 1 (.sl a 0 0 1 1) c=c [.sl a 0 0 1 1]:=fun _ _=>rfl
 have up1:upd [iv .i64 sv] 0 (rep [iv .i64 0] 1)=[iv .i64 sv]:=rfl
 have up2:∀ c0 c1:V,upd [c1] 1 (upd [c0] 0 [.nil 1,.nil 1])=[c0,c1]:=fun _ _=>rfl
 have tail:∀ sX,Ext s7 sX→∃ bs,r.call 12 [l,iv .i64 sg] sX=.ret (.bool bs) sX∧(bs=true→∃ a g sA sB ow sC sD,r.call 11 [l,iv .i64 sg] sX=.ret (.ls 1 [.bool a,iv .i64 g]) sA ∧
   r.call 11 [o,iv .i64 sg] sA=.ret (.ls 1 [.bool a,iv .i64 g]) sB∧r.call 22 [w] sB=.ret (.bool ow) sC∧(g=0→ow=true→sv≤sg→r.call 11 [w,iv .i64 sg] sC=.ret (.ls 1 [.bool a,iv .i64 0]) sD)):=by
  intro sX eX
  have WX:=zfa W7 eX
  obtain ⟨v,sx,t1,tx,bs,rfl,hbs⟩:=hSm (l,sg) _ sX ⟨rfl,WX.tl⟩
  rw [tx] at t1
  refine ⟨bs,t1,fun hb=>?_⟩
  have hs:=hbs hb
  obtain ⟨vA,sA,t2,FA,hvA⟩:=hBa (l,sg) _ sX ⟨rfl,WX.tl,hs.w⟩
  have WA:=zfa WX FA
  have hsA:=zvq WX.tl FA hs
  obtain ⟨vB,sB,t3,FB,hvB⟩:=hBa (o,sg) _ sA ⟨rfl,WA.to,by rw [WA.no];exact (zyD WA.oF WA.oT hsA).w⟩
  have WB:=zfa WA FB
  obtain ⟨vC,sC,t4,hp⟩:=hVa [w] sB ⟨w,rfl,WB.tw⟩
  obtain ⟨FC,rfl⟩:=hp w rfl
  have WC:=zfa WB FC
  have E:=FA.trans (FB.trans FC)
  rw [←WA.toOrv.back,zEH WX.tl FA] at hvB
  by_cases hG:GoodB (zi sX l) (toV sX l) (zb l) sg
  case neg =>
   rw [zcH hG] at hvA hvB
   subst hvA hvB
   exact ⟨false,1,sA,sB,_,sC,sC,t2,t3,t4,fun h=>by omega⟩
  obtain ⟨b,hb'⟩:∃ b:Bool,(b=true↔Inj (zi sX l) (toV sX l) (zb l) (zB2 sg)):=by
   classical
   exact ⟨decide _,decide_eq_true_iff⟩
  rw [zdh hG hb'] at hvA hvB
  subst hvA hvB
  by_cases hc:qx sB w∧sv≤sg
  ·obtain ⟨-,-,h2,h3⟩:=WB.tw.ext FC
   obtain ⟨m1,m2⟩:=WC.back ((ya h2 h3).2 hc.1) (zJ1 WX.tl E hG) (zvq WX.tl E hs) hc.2
   obtain ⟨vD,sD,t5,-,hvD⟩:=hBa (w,sg) _ sC ⟨rfl,WC.tw,m1⟩
   rw [←m2,zEH WX.tl E,zdh hG hb'] at hvD
   subst hvD
   exact ⟨b,0,sA,sB,_,sC,sD,t2,t3,t4,fun _ _ _=>t5⟩
  ·exact ⟨b,0,sA,sB,_,sC,sC,t2,t3,t4,fun _ h1 h2=>absurd ⟨of_decide_eq_true h1,h2⟩ hc⟩
 obtain ⟨v8,s8,e8,hp8⟩:=hVa [l] s7 ⟨l,rfl,hl7⟩
 obtain ⟨E8,hv8⟩:=hp8 l rfl
 have W8:=zfa W7 E8
 obtain ⟨v9,s9,e9,hp9⟩:=hVa [w] s8 ⟨w,rfl,W8.tw⟩
 obtain ⟨E9,hv9⟩:=hp9 w rfl
 have W9:=zfa W8 E9
 have E79:=E8.trans E9
 obtain ⟨v10,s10,e10,hp10⟩:=hAp [w,x] s9 ⟨w,x,rfl,W9.tw,(hx.ext (hE7.trans E79)).1,fx⟩
 obtain ⟨E10,y2,f2,rfl,hy2,hA10⟩:=hp10 w x rfl
 have hy10:=hy7.1.ext (E79.trans E10)
 obtain ⟨v11,s11,e11,hp11⟩:=hCo [y,y2] s10 ⟨y,y2,rfl,hy10.1,hy2⟩
 obtain ⟨q11,z11,rfl,hz11⟩:=hp11 y y2 rfl
 rw [q11] at e11
 obtain ⟨b8,hb8,rfl⟩:∃ b:Bool,(b=true↔qx s7 l)∧v8=.bool b:=⟨_,decide_eq_true_iff,hv8⟩
 obtain ⟨b9,hb9,rfl⟩:∃ b:Bool,(b=true↔qx s8 w)∧v9=.bool b:=⟨_,decide_eq_true_iff,hv9⟩
 have hm:b8=true→b9=true→f2=er∧z11=0:=fun h8 h9=>by
  obtain ⟨-,-,h2,h3⟩:=hl7.ext E79
  obtain ⟨-,-,j2,j3⟩:=W8.tw.ext E9
  obtain ⟨-,-,i2,i3⟩:=hl.ext (hE7.trans E79)
  rw [hx.word hE3] at hA4
  rw [hx.word (hE7.trans E79)] at hA10
  have hA0:=zKT (fun i hi=>(i2 i hi).symm) (fun i hi=>(i3 i hi).symm) (zKT hF3 hT3 hA4)
  obtain ⟨hyy,hee⟩:=W9.ap ((ya h2 h3).2 (hb8.1 h8)) ((ya j2 j3).2 (hb9.1 h9)) hA0 hA10
  refine ⟨hee.symm,hz11.2 ?_⟩
  rw [hy7.1.word (E79.trans E10),hy7.2,hy.word (E5.trans (E51.trans E52))]
  exact hyy
 have m3:b8=true→b9=true→r.call 17 [w,x] s9=.ret (.ls 1 [y2,iv .i64 er]) s10:=fun h8 h9=>by rw [e10,(hm h8 h9).1]
 have m4:b8=true→b9=true→r.call 20 [y,y2] s10=.ret (iv .i64 0) s10:=fun h8 h9=>by rw [e11,(hm h8 h9).2]
 obtain ⟨bs,t1,t⟩:=tail (bif b8 then bif b9 then s10 else s9 else s8) (by
  cases b8
  ·exact E8
  ·cases b9
   ·exact E79
   ·exact E79.trans E10)
 have bn:∀ (a:Bool) (c:V→Go.Ev.A),zk ⟨0,[]⟩ false .neq (.bool a) (.bool a) c=c (.bool false):=fun a c=>by cases a<;>rfl
 have be:∀ (a:Bool) (c:V→Go.Ev.A),zk ⟨0,[]⟩ false .eql (.bool a) (.bool a) c=c (.bool true):=fun a c=>by cases a<;>rfl
 cases bs with
 | false =>
  cases b8<;>cases b9<;>simp only [cond_true,cond_false] at t1<;>simp -implicitDefEqProofs [je,ko,k0,k1,k2,k3,k240,e4,e5,e6,nr3,hs51,hs52,nr49,c1,c2,up,up1,up2,ap,e8,e9,m3,m4,t1,ex] at hF<;>exact ⟨_,hF.symm⟩
 | true =>
  obtain ⟨a,g,sA,sB,ow,sC,sD,t2,t3,t4,t5⟩:=t rfl
  by_cases c3:g=0
  case neg=>cases b8<;>cases b9<;>simp only [cond_true,cond_false] at t1 t2<;>simp -implicitDefEqProofs [je,ko,k0,k1,k2,k3,k240,e4,e5,e6,nr3,hs51,hs52,nr49,c1,c2,up,up1,up2,ap,e8,e9,m3,m4,t1,t2,t3,bn,c3,ex] at hF<;>exact ⟨_,hF.symm⟩
  cases ow with
  | false=>cases b8<;>cases b9<;>simp only [cond_true,cond_false] at t1 t2<;>simp -implicitDefEqProofs [je,ko,k0,k1,k2,k3,k240,e4,e5,e6,nr3,hs51,hs52,nr49,c1,c2,up,up1,up2,ap,e8,e9,m3,m4,t1,t2,t3,t4,bn,c3,ex] at hF<;>exact ⟨_,hF.symm⟩
  | true =>
   by_cases c4:sv≤sg
   ·have t5:=t5 c3 rfl c4
    cases b8<;>cases b9<;>simp only [cond_true,cond_false] at t1 t2<;>simp -implicitDefEqProofs [je,ko,k0,k1,k2,k3,k240,e4,e5,e6,nr3,hs51,hs52,nr49,c1,c2,up,up1,up2,ap,e8,e9,m3,m4,t1,t2,t3,t4,t5,bn,be,c3,c4,ex] at hF<;>exact ⟨_,hF.symm⟩
   ·cases b8<;>cases b9<;>simp only [cond_true,cond_false] at t1 t2<;>simp -implicitDefEqProofs [je,ko,k0,k1,k2,k3,k240,e4,e5,e6,nr3,hs51,hs52,nr49,c1,c2,up,up1,up2,ap,e8,e9,m3,m4,t1,t2,t3,t4,bn,c3,c4,ex] at hF<;>exact ⟨_,hF.symm⟩
def zO6 (s:S) (v:V):Prop:=zZ s v∧Fx v
def zOH (_:S) (v:V):Prop:=∃ g:Int,v=iv .i64 g
theorem zNV (hEx:zL Tryz.prog K 8) {s:S} {l x v w:V} (hl:Tab s l) (hx:zO6 s x) (hv:zOH s v) (hw:zOH s w):∃ s',qO Tryz.prog 5 [l,x,v,w] s (.bool true) s':=by
 obtain ⟨g,rfl⟩:=hv
 obtain ⟨g',rfl⟩:=hw
 exact zIq hEx hl hx.1 hx.2
end Go.Proofs.YtlklljjppambpaaGreatDoor.oev
