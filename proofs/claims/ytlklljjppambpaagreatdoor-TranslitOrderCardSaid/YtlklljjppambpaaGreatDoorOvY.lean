/- The contracts of the functions that the statements reach, for all arguments. No statement of the seat stands here. Conditions: the arguments are as their types say. By an AI agent. -/
import Derived.Test.YtlklljjppambpaaGreatDoorOvW
namespace Go.Proofs.YtlklljjppambpaaGreatDoor.oev
open Go.Ev Go.RowKit
set_option maxRecDepth 100000
variable {a:Go.Ev.K} {el:Nat} {s:S}
theorem zKP {a':Go.Ev.K} (h:a≠a') {l l':List V} {n n' el' mn mn':Nat} {gr gr':Bool} (h1:Tr.get B.none a s.h=.row l (n+1) el gr mn 0 0) (h2:Tr.get B.none a' s.h=.row l' (n'+1) el' gr' mn' 0 0) (neg:Bool) (v v' o o':Nat) (c:V→Go.Ev.A) :
  zbj ⟨1,[]⟩ neg (.ptr a v o) (.ptr a' v' o') s c=c (.bool neg):=by
 have hb:Go.Ev.K.beq a a'=false:=by
  cases e:Go.Ev.K.beq a a' with
  | false=>rfl
  | true=>exact absurd ((Go.Ev.K.beq_iff _ _).1 e) h
 unfold zbj
 simp only [hb,zK,h1,h2]
 rfl
structure CpX where
 b:S
 nd:Nd
 rw:List Int→Int
 idf:List Int→Nat
 c:Nat
 v:V
 L:List (List Int)
 s0:S
def CpX.pre (x:CpX) (tm:T) (s:S):Prop:=s=x.s0∧Ext x.b s∧TreeF x.b x.nd x.rw x.idf x.c∧Gz 66 1 x.b s x.v (y8 x.nd x.L)∧(∀ w∈x.L,x.nd w≠none)∧x.L.length≤12∧x.L.Nodup∧gp 0 tm=x.v∧gp 240 tm=.bad∧∃ k:Nat,gp 3 tm=iv .i64 (k:Int)∧1≤k∧k≤x.L.length
def CpX.post (x:CpX) (a:Go.Ev.A):Prop:=∃ tm,a=.ext 0 tm x.s0∧gp 0 tm=x.v∧gp 240 tm=.bad
theorem zNX:∀ (x:CpX) tm s,x.pre tm s→x.post (wO.run (Rk Tryz.prog KB fun _=>ltI CpX.pre CpX.post) tm s):=by
 refine y9 (L:=fun _=>ltI CpX.pre CpX.post) zG.1 zG.2 ztk rfl (fun tm _=>13 - (toI (gp 3 tm)).toNat) (fun x a ⟨_,h,_⟩=>by rw [h];exact fun h=>h) ?_
 rintro ⟨b,nd,rw_,idf,c,v,L,s0⟩ tm s ⟨hs,hE,hT,hz,hn,hl,hnd,h0,h240,k,h3,hk1,hk⟩ IH
 show CpX.post _ (wO.run _ tm s)
 generalize Rk Tryz.prog _ _=r at IH ⊢
 simp only at hs hE hT hz hn hl hnd h0 hk
 subst hs
 have hlen:∀ f:V→Go.Ev.A,zz v f=f (iv .i64 (L.length:Int)):=fun f=>by rw [hz.len,kai]
 have hw:IntKind.i64.wrap ((k:Int)+1)=((k+1:Nat):Int):=by rw [z9 (by omega) (by omega)];omega
 by_cases hlt:k<L.length
 ·have hlt':((k:Int)<(L.length:Int))=True:=eq_true (by omega)
  obtain ⟨j,rfl⟩:∃ j,k=j+1:=⟨k - 1,by omega⟩
  have hwr:IntKind.i64.wrap (((j+1:Nat):Int) - 1)=(j:Int):=by rw [z9 (by omega) (by omega)];omega
  have get:∀ p,p<L.length→∃ w a m,L[p]?=some w∧(y8 nd L)[p]?=some [.ptr a 0 0]∧nd w=some (a,m)∧Tr.get B.none a s.h=.row [.ref 0 m,iv .i64 (rw_ w),iv .i64 (idf w:Int)] 3 70 false 0 0 0:=fun p hp=>by
   obtain ⟨⟨a,m⟩,hw⟩:=kaz.1 (hn _ (kaI hp))
   exact ⟨L[p],a,m,kac hp,by rw [kal,kac hp];simp [ndV,hw],hw,(hT.at_ hE hw).1⟩
  obtain ⟨u,au,mu,u1,u2,u3,u4⟩:=get (j+1) hlt
  obtain ⟨w,aw,mw,w1,w2,w3,w4⟩:=get j (by omega)
  have hne:au≠aw:=by
   rintro rfl
   have:=hT.inj _ _ _ _ u3 w3 (.inl rfl)
   rw [this] at u1
   have h1:=(kad.1 u1)
   have h2:=(kad.1 w1)
   obtain ⟨g1,g2⟩:=h1
   obtain ⟨g3,g4⟩:=h2
   have:=(List.nodup_iff_pairwise_ne.1 hnd)
   rw [List.pairwise_iff_getElem] at this
   exact this j (j+1) g3 g1 (by omega) (by rw [g2,g4])
  have hlr:(y8 nd L).length=L.length:=kai ..
  have ix1:∀ kk (f:V→Go.Ev.A),zg 1 v (iv kk ((j+1:Nat):Int)) f=f (jy v (j+1)):=fun kk f=>by rw [hz.idx (by omega),kaK]
  have ix0:∀ kk (f:V→Go.Ev.A),zg 1 v (iv kk (j:Int)) f=f (jy v j):=fun kk f=>by rw [hz.idx (by omega),kaK]
  have ld1:∀ f:V→S→Go.Ev.A,zd false 1 (jy v (j+1)) s f=f (.ptr au 0 0) s:=fun f=>hz.load1 u2 (by intro e;cases e) f
  have ld0:∀ f:V→S→Go.Ev.A,zd false 1 (jy v j) s f=f (.ptr aw 0 0) s:=fun f=>hz.load1 w2 (by intro e;cases e) f
  have pe:∀ f:V→Go.Ev.A,zbj ⟨1,[]⟩ false (.ptr au 0 0) (.ptr aw 0 0) s f=f (.bool false):=fun f=>zKP hne u4 w4 false 0 0 0 0 f
  simp -implicitDefEqProofs [zfN,zbJ,h0,h3,hlen,hw,hwr,hlt',ix1,ix0,ld1,ld0,pe,-Int.natCast_add]
  refine IH ⟨b,nd,rw_,idf,c,v,L,s⟩ _ s ?_ ⟨rfl,hE,hT,hz,hn,hl,hnd,by simp [h0],by simp [h240],j+1+1,by simp,by omega,hlt⟩
  rw [h3,zn];simp [zn,-Int.natCast_add];omega
 ·have hlt':((k:Int)<(L.length:Int))=False:=eq_false (by omega)
  simp -implicitDefEqProofs [zfN,zbJ,h0,h3,hlen,hlt']
  exact ⟨_,rfl,by simp [h0],by simp [h240]⟩
theorem zB9:zL Tryz.prog KB 96:=by
 refine zgs (L:=fun _=>ltI CpX.pre CpX.post) (X:=S × Nd × (List Int→Int) × (List Int→Nat) × Nat × V × List (List Int)) rfl ?_
 rintro ⟨b,nd,rw_,idf,c,v,L⟩ a s ⟨rfl,hE,hT,hz,hn,hl,hnd⟩
 have hO:=zNX
 generalize Rk Tryz.prog _ _=r at hO ⊢
 refine ⟨v,s,?_,rfl,rfl⟩
 have hlen:∀ f:V→Go.Ev.A,zz v f=f (iv .i64 (L.length:Int)):=fun f=>by rw [hz.len,kai]
 by_cases hlt:L.length<2
 ·have hlt':((L.length:Int)<2)=True:=eq_true (by omega)
  simp -implicitDefEqProofs [zbJ,hlen,hlt']
 ·have hlt':((L.length:Int)<2)=False:=eq_false (by omega)
  simp -implicitDefEqProofs [zbJ,hlen,hlt']
  generalize hA:wO.run r _ s=A1
  have:=hA▸hO ⟨b,nd,rw_,idf,c,v,L,s⟩ _ s ⟨rfl,hE,hT,hz,hn,hl,hnd,by simp,by simp,1,by simp,by omega,by simp only;omega⟩
  obtain ⟨tm',rfl,k0,k240⟩:=this
  simp only at k0
  simp -implicitDefEqProofs [k0,k240]
variable {l:List (List V)} {b:S} {v:V}
theorem zNJ {sz:Nat} (h:Gz el sz b s v l) (hl:∀ x∈l,∀ y∈x,y≠.bad) (c:Nat→List V→Go.Ev.A):qy sz v s c=c l.length l.flatten:=by
 rcases h with ⟨rfl,rfl⟩ | ⟨a,mn,rfl,h1,h2,h3,h4,h5⟩
 ·rfl
 ·show zM s a (l.length*sz) 0 (Nat.mul l.length sz) _=_
  unfold zM
  rw [zK,h4]
  show (Bool.rec (motive:=fun _=>Go.Ev.A) _ _ (j9 (l.length*sz) true mn (l.length*sz) (Nat.add 0 (Nat.mul l.length sz))):Go.Ev.A)=_
  rw [show j9 (l.length*sz) true mn (l.length*sz) (Nat.add 0 (Nat.mul l.length sz))=true from qG.2 (.inl ⟨rfl,h3.2,kab _,by show 0+l.length*sz≤_;omega⟩)]
  show zeQ 0 l.flatten _=_
  rw [wv]
  have e:(l.flatten.drop 0).take (Nat.mul l.length sz)=l.flatten:=by
   rw [List.drop_zero,List.take_of_length_le]
   rw [zcj h5];exact kab _
  show zlN (Nat.mul l.length sz) (l.flatten.drop 0) _=_
  rw [ze1 _ _ _ (by
   rw [e]
   intro x hx
   obtain ⟨y,hy,hxy⟩:=List.mem_flatten.1 hx
   exact hl y hy x hxy),e]
theorem zIl {sz:Nat} (hg:Tr.get B.none a s.h=.row [] 0 el false 0 0 0) (_:0<sz) (hl:l≠[]) (hx:∀ x∈l,x.length=sz) (hlim:l.length≤68719476736) (k:V→S→Go.Ev.A) :
  jL el sz (.sl a 0 0 0 0) l.length l.flatten s k=k (.so s.nx (l.length*sz) 0 l.length 0) (zN s (.row l.flatten (l.length*sz) el true 0 0 0)):=by
 have hpos:0<l.length:=Nat.pos_of_ne_zero (fun h=>hl (kaw.1 h))
 have hne:Nat.beq l.length 0=false:=by
  cases e:Nat.beq l.length 0 with
  | true=>have:=kaa e;omega
  | false=>rfl
 show (Bool.rec (motive:=fun _=>Go.Ev.A) _ _ (Nat.beq l.length 0):Go.Ev.A)=_
 rw [hne]
 show fN (Nat.add 0 l.length) _=_
 rw [zH]
 have e0:Nat.add 0 l.length=l.length:=kaF _
 show (Bool.rec (motive:=fun _=>Go.Ev.A) (zM s a 0 0 (Nat.mul 0 sz) (fun old=>zah old l.flatten fun l'=>yF s el l' (Nat.add 0 l.length) k)) _ (Nat.ble (Nat.add 0 l.length) 0):Go.Ev.A)=_
 rw [e0,show Nat.ble l.length 0=false by
  cases e:Nat.ble l.length 0 with
  | true=>have:=kaM e;omega
  | false=>rfl]
 show zM s a 0 0 (Nat.mul 0 sz) _=_
 have ez:Nat.mul 0 sz=0:=Nat.zero_mul sz
 rw [ez]
 unfold zM
 rw [zK,hg]
 show yF s el l.flatten l.length k=_
 rw [zjV _ _ _ _ hlim,zcj hx]
theorem zI4:zL Tryz.prog KB 99:=by
 refine zgs (L:=noL) (X:=S × V × List V) rfl ?_
 rintro ⟨b,v,L⟩ a s ⟨rfl,hz,hx,hlim⟩
 generalize Rk Tryz.prog _ _=r
 by_cases hv:v=.nil 1
 ·subst hv
  have hL:L=[]:=by
   rcases hz with ⟨-,h⟩ | ⟨a,mn,h,-⟩
   ·exact List.map_eq_nil_iff.1 h
   ·cases h
  subst hL
  have e1:∀ f:V→Go.Ev.A,zk ⟨2,[]⟩ true .eql (.nil 1) (.nil 1) f=f (.bool true):=fun f=>rfl
  exact ⟨.nil 1,s,by simp -implicitDefEqProofs [zvX,e1],Ext.refl _,.inl (.inl ⟨rfl,rfl⟩)⟩
 ·have hL:L≠[]:=by
   rintro rfl
   rcases hz with ⟨h,-⟩ | ⟨a,mn,-,-,-,h,-⟩
   ·exact hv h
   ·exact absurd h.1 (by simp)
  have e1:∀ f:V→Go.Ev.A,zk ⟨2,[]⟩ true .eql v (.nil 1) f=f (.bool false):=fun f=>by
   rcases hz with ⟨h,-⟩ | ⟨a,mn,rfl,-⟩
   ·exact absurd h hv
   ·rfl
  have hE:=zO s (.row [] 0 66 false 0 0 0)
  have hg:=zx s (.row [] 0 66 false 0 0 0)
  have hsr:=zNJ (hz.ext hE) (fun x hx' y hy=>by
   obtain ⟨z,hz,rfl⟩:=kav.1 hx'
   rw [kag.1 hy];exact hx z hz)
  generalize hs1:zN s (.row [] 0 66 false 0 0 0)=s1 at hE hg hsr
  have hap:=fun k=>zIl hg Nat.one_pos (l:=L.map fun x=>[x]) (by simpa using hL) (by intro x hx;obtain ⟨z,_,rfl⟩:=kav.1 hx;rfl) (by simpa using hlim) k
  have xap:∀ k:V→S→Go.Ev.A,zP 66 1 (.sl s.nx 0 0 0 0) v s1 k=k (.so s1.nx ((L.map fun x=>[x]).length*1) 0 (L.map fun x=>[x]).length 0) (zN s1 (.row (L.map fun x=>[x]).flatten ((L.map fun x=>[x]).length*1) 66 true 0 0 0)):=fun k=>by
   show qy 1 v s1 _=_
   rw [hsr]
   exact hap k
  have hE2:=zO s1 (.row (L.map fun x=>[x]).flatten ((L.map fun x=>[x]).length*1) 66 true 0 0 0)
  refine ⟨_,_,by simp -implicitDefEqProofs [zvX,e1,rep,zo,hs1];rw [xap];simp -implicitDefEqProofs,hE.trans hE2,.inl (.inr ⟨s1.nx,0,rfl,hE.nx,?_,⟨by simpa using List.length_pos_iff.2 hL,Nat.zero_le _⟩,zx _ _,?_⟩)⟩
  ·show s1.nx.toNat<s1.nx.succ.toNat
   rw [K.toNat_succ];omega
  ·intro x hx
   obtain ⟨z,_,rfl⟩:=kav.1 hx
   rfl
def zDO:List Nat:=[48,49,50,51,52,53,54,55,56,57,97,98,99,100,101,102,103,104,105,106,107,108,109,110,111,112,113,114,115,116,117,118,119,120,121,122]
def zEQ:List Nat:=[48,48,48,49,48,50,48,51,48,52,48,53,48,54,48,55,48,56,48,57,49,48,49,49,49,50,49,51,49,52,49,53,49,54,49,55,49,56,49,57,50,48,50,49,50,50,50,51,50,52,50,53,50,54,50,55,50,56,50,57,51,48,51,49,51,50,51,51,51,52,51,53,51,54,51,55,51,56,51,57,52,48,52,49,52,50,52,51,52,52,52,53,52,54,52,55,52,56,52,57,53,48,53,49,53,50,53,51,53,52,53,53,53,54,53,55,53,56,53,57,54,48,54,49,54,50,54,51,54,52,54,53,54,54,54,55,54,56,54,57,55,48,55,49,55,50,55,51,55,52,55,53,55,54,55,55,55,56,55,57,56,48,56,49,56,50,56,51,56,52,56,53,56,54,56,55,56,56,56,57,57,48,57,49,57,50,57,51,57,52,57,53,57,54,57,55,57,56,57,57]
theorem zNt:(List.range 100).all (fun n=>decide ((zEQ.drop (n*2)).take 2=[48+n / 10,48+n % 10]))=true:=by decide
theorem zM9:(List.range 10).all (fun n=>decide ((zDO.drop n).take 1=[48+n]))=true:=by decide
theorem zJQ {n:Nat} (h:n<100) (c:V→Go.Ev.A):zk ⟨9,[]⟩ false .mul (iv .i64 (n:Int)) (iv .i64 2) c=c (iv .i64 ((n:Int)*2)):=by
 show zk ⟨9,[]⟩ false .mul (.nat .i64 n) (.nat .i64 2) c=_
 rw [zaN]
 show zmV .i64 (Nat.mul n 2) c=_
 rw [zaL]
 have:=zax (k:=.i64) (n:=Nat.mul n 2) (by show n*2<9223372036854775808;omega)
 rw [this]
 have e:Int.ofNat (Nat.mul n 2)=(n:Int)*2:=by
  show ((n*2:Nat):Int)=_
  rw [Int.natCast_mul];rfl
 rw [e]
theorem zJH:zL Tryz.prog KB 253:=by
 refine zgs (L:=noL) (X:=Nat) rfl ?_
 rintro n a s ⟨rfl,hn⟩
 refine ⟨_,s,?_,rfl,rfl⟩
 generalize Rk Tryz.prog _ _=r
 unfold wL
 by_cases g:n<10
 ·have g':((n:Int)<10)=True:=eq_true (by omega)
  rw [if_pos g]
  have ad:IntKind.i64.wrap ((n:Int)+1)=(n:Int)+1:=z9 (by omega) (by omega)
  have sl:∀ c:V→Go.Ev.A,zam (.str zDO) (some (iv .i64 (n:Int))) (some (iv .i64 ((n:Int)+1))) c=c (.str [48+n]):=fun c=>by
   have h:=kaD.1 zM9 n (by simpa using g)
   rw [decide_eq_true_eq] at h
   rw [zCR zDO (a:=n) (b:=n+1) (.inr ⟨.i64,rfl⟩) (.inr ⟨.i64,by simp⟩) (by omega) (by have:zDO.length=36:=rfl;omega),Nat.add_sub_cancel_left,h]
  unfold zDO at sl
  simp -implicitDefEqProofs [zBK,g',ad,sl]
 ·have g':((n:Int)<10)=False:=eq_false (by omega)
  rw [if_neg g]
  have ad:IntKind.i64.wrap ((n:Int)*2+2)=(n:Int)*2+2:=z9 (by omega) (by omega)
  have sl:∀ c:V→Go.Ev.A,zam (.str zEQ) (some (iv .i64 ((n:Int)*2))) (some (iv .i64 ((n:Int)*2+2))) c=c (.str [48+n / 10,48+n % 10]):=fun c=>by
   have h:=kaD.1 zNt n (by simpa using hn)
   rw [decide_eq_true_eq] at h
   rw [zCR zEQ (a:=n*2) (b:=n*2+2) (.inr ⟨.i64,by simp⟩) (.inr ⟨.i64,by simp⟩) (by omega) (by have:zEQ.length=200:=rfl;omega),Nat.add_sub_cancel_left,h]
  unfold zEQ at sl
  simp -implicitDefEqProofs [zBK,g',zJQ hn,ad,sl]
theorem zIb:zL Tryz.prog KB 194:=by
 refine zgs (L:=noL) (X:=Nat) rfl ?_
 rintro n a s ⟨rfl,hn⟩
 have hC:=qV (zQ (L:=noL) zJH) (X:=Nat) rfl
 generalize Rk Tryz.prog _ _=r at hC ⊢
 obtain ⟨v,s1,h1,rfl,rfl⟩:=hC n [iv .i64 (n:Int)] s ⟨rfl,hn⟩
 have g1:((0:Int)≤n)=True:=eq_true (by omega)
 have g2:((n:Int)<100)=True:=eq_true (by omega)
 exact ⟨_,s1,by simp -implicitDefEqProofs [zIW,g1,g2,h1],rfl,rfl⟩
theorem zKo:zL Tryz.prog KB 150:=by
 refine zgs (L:=noL) (X:=Nat) rfl ?_
 rintro n a s ⟨rfl,hn⟩
 have hC:=qV (zQ (L:=noL) zIb) (X:=Nat) rfl
 generalize Rk Tryz.prog _ _=r at hC ⊢
 obtain ⟨v,s1,h1,rfl,rfl⟩:=hC n _ s ⟨rfl,hn⟩
 exact ⟨_,s1,by simp -implicitDefEqProofs [zKc,h1],rfl,rfl⟩
theorem zMJ:zL Tryz.prog KB 97:=by
 refine zgs (L:=noL) (X:=Nat) rfl ?_
 rintro n a s ⟨rfl,hn⟩
 have hC:=qV (zQ (L:=noL) zKo) (X:=Nat) rfl
 generalize Rk Tryz.prog _ _=r at hC ⊢
 obtain ⟨v,s1,h1,rfl,rfl⟩:=hC n _ s ⟨rfl,hn⟩
 exact ⟨_,s1,by simp -implicitDefEqProofs [zM0,h1],rfl,rfl⟩
theorem zGY:zL Tryz.prog KB 98:=by
 refine zgs (L:=noL) (X:=GX × Bool × V × List (List Int) × (Go.Ev.K→Prop)) rfl ?_
 rintro ⟨⟨b,nd,gk,nm,G,nl,nc⟩,fl,rv,rn,rb⟩ a s ⟨rfl,⟨D,vS,vF,vR,el,hD,rfl,hrb⟩,hz,hlim⟩
 simp only at hD hrb hz hlim
 rw [kai] at hlim
 obtain ⟨vS',vF',vR',s1,s2,s3,e1,e2,e3,e4,e5,e6,e7,e8,h1,h2⟩:=hD.add (fl:=fl) hz hlim
 generalize Rk Tryz.prog _ _=r
 have hw:IntKind.i64.wrap (((D.length+1:Nat):Int) - 1)=(D.length:Int):=by rw [z9 (by omega) (by omega)];omega
 have cr:∀ c:List V→Go.Ev.A,zp 1 rv c=c [rv]:=hz.cell1
 have cb:∀ c:List V→Go.Ev.A,zp 1 (.bool fl) c=c [.bool fl]:=fun c=>rfl
 have cn:∀ c:List V→Go.Ev.A,zp 1 (.nil 1) c=c [.nil 1]:=fun c=>rfl
 refine ⟨iv .i64 (D.length:Int),s3,?_,by simp,⟨_,_,_,_,_,h1,by simp [SD.p],?_⟩,h2⟩
 ·simp -implicitDefEqProofs [zMr,e1,rep,upd,put,zo,cr,cb,cn,e2,e3,e4,e5,e6,e7,e8,hw,-Int.natCast_add]
 ·rintro c ⟨d,hd,hc⟩
  rcases kak.1 hd with hd | hd
  ·exact .inl (hrb c ⟨d,hd,hc⟩)
  ·rcases kag.1 hd with rfl
   exact .inr hc
theorem addS (a b:List Nat) (h:a.length+b.length≤1048576) (c:V→Go.Ev.A):zk ⟨9,[]⟩ false .add (.str a) (.str b) c=c (.str (a++b)):=by
 show zah a b (fun l=>zfz l fun n=>(Bool.rec (motive:=fun _=>Go.Ev.A) eA (c (.str l)) (Nat.ble n 9223372036854775807)))=_
 rw [yf,jn,show Nat.ble (a++b).length 9223372036854775807=true from kap (by rw [kah];omega)]
theorem wm (n:Nat) (l:List Nat):qZ (n::l)=wL n++32::qZ l:=by
 show wL n++[32]++qZ l=_
 rw [kat];rfl
theorem zES (l l':List Nat):qZ (l++l')=qZ l++qZ l':=List.flatMap_append ..
theorem zB5 {n m:Nat} (_:n<100) (_:m<100) {x y:List Nat} (h:wL n++32::x=wL m++32::y):n=m∧x=y:=by
 unfold wL at h
 by_cases g1:n<10
 ·by_cases g2:m<10
  ·rw [if_pos g1,if_pos g2] at h
   injection h with h1 h2
   injection h2 with _ h2
   exact ⟨by omega,h2⟩
  ·rw [if_pos g1,if_neg g2] at h
   injection h with h1 h2
   injection h2 with h2 _
   omega
 ·by_cases g2:m<10
  ·rw [if_neg g1,if_pos g2] at h
   injection h with h1 h2
   injection h2 with h2 _
   omega
  ·rw [if_neg g1,if_neg g2] at h
   injection h with h1 h2
   injection h2 with h2 h3
   injection h3 with _ h3
   exact ⟨by omega,h3⟩
theorem zop:∀ {l l':List Nat},(∀ n∈l,n<100)→(∀ n∈l',n<100)→qZ l=qZ l'→l=l'
 | [],[],_,_,_=>rfl
 | [],m::l',_,_,h=>by
  rw [wm] at h
  have:=congrArg List.length h
  simp [qZ] at this
 | n::l,[],_,_,h=>by
  rw [wm] at h
  have:=congrArg List.length h
  simp [qZ] at this
 | n::l,m::l',h1,h2,h=>by
  rw [wm,wm] at h
  obtain ⟨rfl,h3⟩:=zB5 (h1 n (by simp)) (h2 m (by simp)) h
  rw [zop (fun k hk=>h1 k (by simp [hk])) (fun k hk=>h2 k (by simp [hk])) h3]
theorem zsv:∀ l:List Nat,(qZ l).length≤3*l.length
 | []=>by simp [qZ]
 | n::l=>by
  rw [wm]
  have:=zsv l
  have h:(wL n).length≤2:=by unfold wL;split<;>simp
  simp
  omega
variable {gk nm:Go.Ev.K} {nl:LG (List Nat)} {D:List SD} {nc:Nat} {vF vR vS:V}
theorem GD.setNames {nd:Nd} (h:GD b s nd gk nm D nl nc vS vF vR el) (nl':LG (List Nat)) (nc':Nat):GD b (qj s nm (.map (nl'.map (toG V.str)) nc')) nd gk nm D nl' nc' vS vF vR el:=by
 have hn:=h.names
 unfold yj at hn
 have hk:∀ c,c≠nm→Tr.get B.none c (qj s nm (.map (nl'.map (toG V.str)) nc')).h=Tr.get B.none c s.h:=fun c hc=>by rw [zm,if_neg hc]
 have hz:∀ {e z b v l},Gz e z b s v l→Gz e z b (qj s nm (.map (nl'.map (toG V.str)) nc')) v l:=fun hz=>hz.keep (kab _) fun c hc=>hk c fun e=>by rw [e] at hc;exact hz.ne_map hn hc
 refine ⟨⟨h.ext.nx,fun c hc=>(hk c fun e=>by rw [e] at hc;have:=h.nm_.1;omega).trans (h.ext.get c hc)⟩,(hk _ fun e=>by have:=h.row;rw [e,hn] at this;cases this).trans h.row,hz h.zS,hz h.zF,hz h.zR,h.gk_,h.nm_,?_,fun d hd=>hz (h.steps d hd),h.inj,fun d hd=>hz (h.runs d hd),fun d hd e he=>?_⟩
 ·unfold yj;rw [zm,if_pos rfl]
 ·refine (h.ins d hd e he).keep (kab _) fun c _ hc=>hk c ?_
  rcases hc with hc | ⟨_,hc,_⟩
  ·intro e;rw [e] at hc;have:=h.nm_.1;omega
  ·exact hc
variable {rb:Go.Ev.K→Prop} {G:List PS}
theorem GR.setNames {nd:Nd} (h:GR b s nd gk nm G nl nc rb) (nl':LG (List Nat)) (nc':Nat):GR b (qj s nm (.map (nl'.map (toG V.str)) nc')) nd gk nm G nl' nc' rb:=by
 obtain ⟨D,vS,vF,vR,el,h1,h2,h3⟩:=h
 exact ⟨D,vS,vF,vR,el,h1.setNames nl' nc',h2,h3⟩
structure NmX where
 b:S
 nd:Nd
 rw:List Int→Int
 idf:List Int→Nat
 c:Nat
 v:V
 L:List (List Int)
 s0:S
 g:V
def NmX.pre (x:NmX) (tm:T) (s:S):Prop:=s=x.s0∧Ext x.b s∧TreeF x.b x.nd x.rw x.idf x.c∧Gz 66 1 x.b s x.v (y8 x.nd x.L)∧(∀ w∈x.L,x.nd w≠none)∧x.L.length≤12∧gp 0 tm=x.g∧gp 1 tm=x.v∧gp 240 tm=.bad∧gp 11 tm=x.v∧gp 12 tm=iv .i64 (x.L.length:Int)∧∃ k:Nat,gp 13 tm=iv .i64 (k:Int)∧k≤x.L.length∧gp 5 tm=.str (qZ ((x.L.take k).map x.idf))
def NmX.post (x:NmX) (a:Go.Ev.A):Prop:=∃ tm,a=.ext 0 tm x.s0∧gp 0 tm=x.g∧gp 1 tm=x.v∧gp 240 tm=.bad∧gp 5 tm=.str (qZ (x.L.map x.idf))
theorem zNS:∀ (x:NmX) tm s,x.pre tm s→x.post (zcA.run (Rk Tryz.prog KB fun _=>ltI NmX.pre NmX.post) tm s):=by
 refine y9 (L:=fun _=>ltI NmX.pre NmX.post) zG.1 zG.2 zE1 rfl (fun tm _=>13 - (toI (gp 13 tm)).toNat) (fun x a ⟨_,h,_⟩=>by rw [h];exact fun h=>h) ?_
 rintro ⟨b,nd,rw_,idf,c,v,L,s0,g⟩ tm s ⟨hs,hE,hT,hz,hn,hl,h0,h1,h240,h11,h12,k,h13,hk,h5⟩ IH
 show NmX.post _ (zcA.run _ tm s)
 have hC:=qV (zQ (L:=fun _=>ltI NmX.pre NmX.post) zMJ) (X:=Nat) rfl
 generalize Rk Tryz.prog _ _=r at IH hC ⊢
 simp only at hs hE hT hz hn hl h0 h1 h11 h12 hk h5
 subst hs
 by_cases hlt:k<L.length
 ·have hlt':((k:Int)<(L.length:Int))=True:=eq_true (by omega)
  have hw:IntKind.i64.wrap ((k:Int)+1)=((k+1:Nat):Int):=by rw [z9 (by omega) (by omega)];omega
  obtain ⟨⟨a,m⟩,hw1⟩:=kaz.1 (hn _ (kaI hlt))
  obtain ⟨t1,t2,t3⟩:=hT.at_ hE hw1
  have hg:(y8 nd L)[k]?=some [.ptr a 0 0]:=by rw [kal,kac hlt];simp [ndV,hw1]
  have hlr:(y8 nd L).length=L.length:=kai ..
  have ix:∀ kk (f:V→Go.Ev.A),zg 1 v (iv kk (k:Int)) f=f (jy v k):=fun kk f=>by rw [hz.idx (by omega),kaK]
  have ld:∀ f:V→S→Go.Ev.A,zd false 1 (jy v k) s f=f (.ptr a 0 0) s:=fun f=>hz.load1 hg (by intro e;cases e) f
  have l2:∀ f:V→S→Go.Ev.A,zd false 1 (.ptr a 0 2) s f=f (iv .i64 (idf L[k]:Int)) s:=fun f=>zw t1 2 rfl (by omega) (by simp [yN]) f
  obtain ⟨w,s1,hc,rfl,rfl⟩:=hC (idf L[k]) [iv .i64 (idf L[k]:Int)] s ⟨rfl,t3⟩
  have hd:(wL (idf L[k])).length≤2:=by unfold wL;split<;>simp
  have hnl:=zsv ((L.take k).map idf)
  rw [kai,List.length_take] at hnl
  have a1:∀ f:V→Go.Ev.A,zk ⟨9,[]⟩ false .add (.str (wL (idf L[k]))) (.str [32]) f=f (.str (wL (idf L[k])++[32])):=fun f=>addS _ _ (by simp;omega) f
  have a2:∀ f:V→Go.Ev.A,zk ⟨9,[]⟩ false .add (.str (qZ ((L.take k).map idf))) (.str (wL (idf L[k])++[32])) f=f (.str (qZ ((L.take (k+1)).map idf))):=fun f=>by
   rw [addS _ _ (by rw [kah];simp only [kaH,List.length_nil];omega)]
   have e:qZ ((L.take (k+1)).map idf)=qZ ((L.take k).map idf)++(wL (idf L[k])++[32]):=by
    rw [List.take_add_one,kac hlt,kaE,zES]
    congr 1
    exact wm _ []
   rw [e]
  simp -implicitDefEqProofs [znJ,zsK,h11,h12,h13,h5,hlt',ix,ld,l2,hc,a1,a2,hw,-Int.natCast_add,-List.map_take]
  refine IH ⟨b,nd,rw_,idf,c,v,L,s1,g⟩ _ s1 ?_ ⟨rfl,hE,hT,hz,hn,hl,by simp [h0],by simp [h1],by simp [h240],by simp [h11],by simp [h12],k+1,by simp,hlt,by simp [-List.map_take]⟩
  rw [h13,zn];simp [zn,-Int.natCast_add];omega
 ·obtain rfl:k=L.length:=by omega
  rw [List.take_length] at h5
  simp -implicitDefEqProofs [znJ,zsK,h12,h13]
  exact ⟨_,rfl,by simp [h0],by simp [h1],by simp [h240],by simp [h5]⟩
theorem GR.names {nd:Nd} (h:GR b s nd gk nm G nl nc rb):yj V.str s nm nl nc∧(∀ k:V→S→Go.Ev.A,zd false 1 (.ptr gk 0 3) s k=k (.ref 0 nm) s)∧b.nx.toNat≤nm.toNat∧nm.toNat<s.nx.toNat:=by
 obtain ⟨D,vS,vF,vR,el,h1,h2⟩:=h
 exact ⟨h1.names,fun k=>zw h1.row 3 rfl (by omega) (by simp) k,h1.nm_⟩
variable {L:List (List Int)}
theorem NamesOK.add {nd:Nd} {idf:List Int→Nat} (h:NamesOK nd idf G nl) (_:∀ u w,nd u≠none→nd w≠none→idf u=idf w→u=w) (_:∀ w,nd w≠none→idf w<100) (hL:∀ w∈L,nd w≠none) (hs:L.Pairwise fun u w=>idf u<idf w)
  (hno:qh nl (qZ (L.map idf))=none) (nc:Nat):NamesOK nd idf (G++[⟨[],true,L⟩]) (yr (qZ (L.map idf)) (iv .i64 (G.length:Int)) nc nl):=by
 refine ⟨fun q x hx hf=>?_,fun k v hv=>?_,fun x hx hf=>?_,fun x hx w hw=>?_⟩
 ·rw [zas]
  rcases kaq q G.length with g | g
  ·rw [kam g] at hx
   have:=h.to q x hx hf
   rw [if_neg]
   ·exact this
   ·intro e
    rw [e,hno] at this
    cases this
  ·rw [kax g] at hx
   have hq:q=G.length:=by
    rcases Nat.eq_or_lt_of_le g with e | e
    ·exact e.symm
    ·rw [kau (by simp;omega)] at hx;cases hx
   subst hq
   simp at hx
   subst hx
   rw [if_pos rfl]
 ·rw [zas] at hv
  by_cases e:k=qZ (L.map idf)
  ·rw [if_pos e] at hv
   cases hv
   exact ⟨G.length,⟨[],true,L⟩,by simp,rfl,e,rfl⟩
  ·rw [if_neg e] at hv
   obtain ⟨q,x,h1,h2,h3,h4⟩:=h.back k v hv
   exact ⟨q,x,by rw [kam (kad.1 h1).1];exact h1,h2,h3,h4⟩
 ·rcases kak.1 hx with hx | hx
  ·exact h.sorted x hx hf
  ·rcases kag.1 hx with rfl
   exact hs
 ·rcases kak.1 hx with hx | hx
  ·exact h.nodes x hx w hw
  ·rcases kag.1 hx with rfl
   exact hL w hw
theorem zD9:zL Tryz.prog KB 53:=by
 refine zgs (L:=fun _=>ltI NmX.pre NmX.post) (X:=GX × (List Int→Int) × (List Int→Nat) × Nat × V × List (List Int) × (Go.Ev.K→Prop)) rfl ?_
 rintro ⟨⟨b,nd,gk,nm,G,nl,nc⟩,rw_,idf,c,rv,rn,rb⟩ a s ⟨rfl,hG,hT,hN,hz,hn,hnd,hl,hlim,hrb⟩
 simp only at hG hT hN hz hn hlim hrb
 have hSo:=qV (zQ (L:=fun _=>ltI NmX.pre NmX.post) zJo) (X:=S × Nd × (List Int→Int) × (List Int→Nat) × Nat × V × List (List Int)) rfl
 have hCp:=qV (zQ (L:=fun _=>ltI NmX.pre NmX.post) zB9) (X:=S × Nd × (List Int→Int) × (List Int→Nat) × Nat × V × List (List Int)) rfl
 have hAd:=qV (zQ (L:=fun _=>ltI NmX.pre NmX.post) zGY) (X:=GX × Bool × V × List (List Int) × (Go.Ev.K→Prop)) rfl
 have hNm:=zNS
 generalize Rk Tryz.prog _ _=r at hSo hCp hAd hNm ⊢
 have hEb:Ext b s:=by obtain ⟨D,vS,vF,vR,el,h1,-⟩:=hG;exact h1.ext
 obtain ⟨w0,s1,e1,L,hp,hsort,hz1,hnx,hk⟩:=hSo (b,nd,rw_,idf,c,rv,rn) _ s ⟨rfl,hEb,hT,hz,hl,hn⟩
 have hLn:∀ w∈L,nd w≠none:=fun w hw=>hn w (hp.mem_iff.1 hw)
 have hLnd:L.Nodup:=hp.nodup_iff.2 hnd
 have hLl:L.length≤12:=by rw [hp.length_eq];exact hl
 have hF1:Frm 66 b gk nm (fun c=>zC rv=some c) s s1:=⟨by rw [hnx];exact kab _,fun c hc hk'=>hk c fun e=>by
  rcases hk' with hk' | ⟨_,_,_,hk'⟩
  ·have:=(hz.blk e).1;omega
  ·exact hk' e⟩
 have hE1:Ext b s1:=hF1.ext hEb
 have hG1:GR b s1 nd gk nm G nl nc rb:=hG.keepW (W:=fun c=>zC rv=some c) (by rw [hnx];exact kab _) (fun c _ hc=>hk c hc) (fun c hc=>⟨(hz.blk hc).1,hz.own hc,hrb c hc⟩)
 have hinj:∀ u w,nd u≠none→nd w≠none→idf u=idf w→u=w:=hT.ids.2
 have hid:∀ w,nd w≠none→idf w<100:=fun w hw=>by
  obtain ⟨p,hp⟩:=kaz.1 hw
  exact (hT.at_ hEb (a:=p.1) (m:=p.2) hp).2.2
 have hstrict:L.Pairwise fun u w=>idf u<idf w:=by
  have h2:=List.nodup_iff_pairwise_ne.1 hLnd
  refine (hsort.and h2).imp_of_mem ?_
  rintro u w hu hw ⟨h1,h2⟩
  have:idf u≠idf w:=fun e=>h2 (hinj u w (hLn u hu) (hLn w hw) e)
  omega
 obtain ⟨w1,s1',e2,hs1,hw1⟩:=hCp (b,nd,rw_,idf,c,rv,L) _ s1 ⟨rfl,hE1,hT,hz1,hLn,hLl,hLnd⟩
 rw [hs1,hw1] at e2
 obtain ⟨hM,hld,hnm0,hnm1⟩:=hG1.names
 have hlen:∀ f:V→Go.Ev.A,zz rv f=f (iv .i64 (L.length:Int)):=fun f=>by rw [hz1.len,kai]
 have hlk:=fun (f:V→Go.Ev.A)=>zj3 zGK hM (iv .i64 0) (qZ (L.map idf)) f
 have hLid:∀ n∈L.map idf,n<100:=fun n hn'=>by obtain ⟨w,hw,rfl⟩:=kav.1 hn';exact hid w (hLn w hw)
 generalize hF:(fnC zj 53).run r _ _=F0
 simp -implicitDefEqProofs [zsK,e1,e2,hlen,-Int.natCast_add] at hF
 generalize hA:zcA.run r _ _=A1 at hF
 have:=hA▸hNm ⟨b,nd,rw_,idf,c,rv,L,s1,.ptr gk 0 0⟩ _ _ ⟨rfl,hE1,hT,hz1,hLn,hLl,by simp,by simp,by simp,by simp,by simp,0,by simp,by omega,by simp [qZ]⟩
 obtain ⟨tm',rfl,k0,k1,k240,k5⟩:=this
 simp only at k0 k1 k5
 cases hm:qh nl (qZ (L.map idf)) with
 | some v =>
  rw [hm] at hlk
  obtain ⟨q,x,q1,q2,q3,rfl⟩:=hN.back _ _ hm
  have hxm:x∈G:=kae q1
  have hxL:x.rn=L:=by
   have h1:L.map idf=x.rn.map idf:=zop hLid (fun n hn'=>by obtain ⟨w,hw,rfl⟩:=kav.1 hn';exact hid w (hN.nodes x hxm w hw)) q3
   have key:∀ (l l':List (List Int)),(∀ w∈l,nd w≠none)→(∀ w∈l',nd w≠none)→l.map idf=l'.map idf→l=l':=by
    intro l
    induction l with
    | nil=>intro l' _ _ h;exact (List.map_eq_nil_iff.1 h.symm).symm
    | cons u l ih =>
     intro l' h1 h2 h
     cases l' with
     | nil=>cases h
     | cons w l' =>
      simp only [kaN,List.cons.injEq] at h
      rw [hinj u w (h1 u (by simp)) (h2 w (by simp)) h.1,ih l' (fun w hw=>h1 w (by simp [hw])) (fun w hw=>h2 w (by simp [hw])) h.2]
   exact key _ _ (hN.nodes x hxm) hLn h1.symm
  simp -implicitDefEqProofs [k0,k5,k240,hld,hlk] at hF
  refine ⟨iv .i64 (q:Int),s1,hF.symm,q,G,nl,nc,x,rfl,?_,hN,hF1,.inl rfl,q1,q2,fun w=>by rw [hxL];exact hp.mem_iff⟩
  ·obtain ⟨D,vS,vF,vR,el,h1,h2,h3⟩:=hG1
   exact ⟨D,vS,vF,vR,el,h1,h2,fun c hc=>.inl (h3 c hc)⟩
 | none =>
  rw [hm] at hlk
  obtain ⟨w2,s2,e3,rfl,hG2,hF2⟩:=hAd (⟨b,nd,gk,nm,G,nl,nc⟩,true,rv,L,rb) _ s1 ⟨rfl,hG1,hz1,hlim⟩
  simp only at e3 hG2 hF2
  obtain ⟨hM2,hld2,-,hnm2⟩:=hG2.names
  have hup:=fun (f:V→S→Go.Ev.A)=>zbo zGK hM2 (qZ (L.map idf)) (iv .i64 (G.length:Int)) f
  rw [hm] at hup
  simp only [Option.isNone_none,if_true] at hup
  simp -implicitDefEqProofs [k0,k1,k5,k240,hld,hlk,e3,hld2,hup] at hF
  refine ⟨iv .i64 (G.length:Int),_,hF.symm,G.length,G++[⟨[],true,L⟩],_,_,⟨[],true,L⟩,rfl,hG2.setNames _ _,hN.add hinj hid hLn hstrict hm nc,?_,.inr rfl,by simp,rfl,fun w=>hp.mem_iff⟩
  refine (hF1.trans (hF2.weak fun c _ _ h=>h.elim)).trans ⟨kab _,fun c hc hk'=>?_⟩
  rw [zm,if_neg]
  rintro rfl
  rcases hk' with hk' | ⟨_,hk',_⟩
  ·omega
  ·exact hk' rfl
variable {i:Nat}
theorem zDf {α:Type} {l:List α} {x:α} (h:l[i]?=some x):l.set i x=l:=by
 apply kaG
 intro j
 by_cases e:i=j
 ·subst e
  rw [List.getElem?_set_self (kad.1 h).1,h]
 ·rw [List.getElem?_set_ne e]
theorem zGJ (a:Go.Ev.K) (v o l e:Nat):yS (.so a v o l e) (.so a v o l e)=true:=by
 show zq (Go.Ev.K.beq a a) (zq (Nat.beq v v) (zq (Nat.beq o o) (zq (Nat.beq l l) (Nat.beq e e))))=true
 rw [zjx,kay,kay,kay,kay];rfl
theorem Gz.cells {sz:Nat} (h:Gz el sz b s v l) (hi:i<l.length):yS v v=true:=by
 obtain ⟨a,mn,rfl,-⟩:=h.pos hi
 exact zGJ _ _ _ _ _
theorem jb (h:zZ s v):∀ c:List V→Go.Ev.A,zp 1 v c=c [v]:=by
 intro c
 rcases h.1 with (rfl | ⟨c0,rfl⟩) | ⟨_,_,_,_,⟨_,rfl,_⟩ | ⟨_,rfl⟩,_⟩<;>rfl
variable {iw:List Int} {q:Nat} {d:SD}
theorem GD.addStep {nd:Nd} (h:GD b s nd gk nm D nl nc vS vF vR el) (hq:D[q]?=some d) {inV:V} (hin:wq b s gk nm inV iw) (x:Int) (to:Nat) (hlim:d.st.length+1≤68719476736) :
  ∃ v17 s1 s2,
   (∀ k:V→S→Go.Ev.A,zd false 1 (.ptr gk 0 0) s k=k vS s) ∧
   (∀ kk (f:V→Go.Ev.A),zg 1 vS (iv kk (q:Int)) f=f (jy vS q)) ∧
   (∀ k:V→S→Go.Ev.A,zd false 1 (jy vS q) s k=k d.sv s) ∧
   (∀ k:V→S→Go.Ev.A,zP 180 3 d.sv (.sl s.nx 0 0 1 1) (zN s (.row [inV,iv .i64 x,iv .i64 (to:Int)] 3 180 false 0 0 0)) k=k v17 s1) ∧
   (∀ k:V→S→Go.Ev.A,zd false 1 (.ptr gk 0 0) s1 k=k vS s1)∧yS vS vS=true ∧
   (∀ k:V→S→Go.Ev.A,zJ 1 (jy vS q) v17 s1 k=k Go.Ev.undef s2) ∧
   GD b s2 nd gk nm (D.set q ⟨v17,d.st++[(inV,iw,x,to)],d.fl,d.rv,d.rn⟩) nl nc vS vF vR el∧Frm 66 b gk nm (fun _=>False) s s2:=by
 have hbs:=h.ext.nx
 have hql:q<D.length:=(kad.1 hq).1
 have hd:d∈D:=kae hq
 have hqz:(D.map fun d=>[d.sv])[q]?=some [d.sv]:=by rw [kal,hq];rfl
 have hlS:(D.map fun d=>[d.sv]).length=D.length:=kai ..
 obtain ⟨v17,s1,a1,a2,a3,a4,a5⟩:=(h.steps d hd).app1 hbs (by omega) (x:=[inV,iv .i64 x,iv .i64 (to:Int)]) (fun y hy=>by
  simp at hy
  rcases hy with rfl | rfl | rfl
  ·exact hin.1.ne
  ·exact yN _ _
  ·exact yN _ _) rfl (by simpa using hlim)
 have zS1:=h.zS.keep a3 fun c hc=>a4 c (h.zS.blk hc).2 (h.zS.diff (h.steps d hd) (by decide) hc)
 have hrow1:Tr.get B.none gk s1.h=.row [vS,vF,vR,.ref 0 nm] 4 el false 0 0 0:=(a4 gk h.gk_.2 ((h.steps d hd).ne_row h.row)).trans h.row
 obtain ⟨s2,b1,b2,b3,b4⟩:=zS1.store1 (i:=q) (by omega) (y:=v17) a2.cell1
 have n02:s.nx.toNat≤s2.nx.toNat:=by rw [b3];exact a3
 obtain ⟨W,hW⟩:∃ W:Go.Ev.K→Prop,W=fun c=>zC d.sv=some c∨zC vS=some c:=⟨_,rfl⟩
 have hk:∀ c,c.toNat<s.nx.toNat→¬W c→Tr.get B.none c s2.h=Tr.get B.none c s.h:=fun c hc hw=>by
  rw [hW] at hw
  simp only [not_or] at hw
  rw [b4 c hw.2,a4 c hc hw.1]
 have wge:∀ c,W c→b.nx.toNat≤c.toNat:=fun c hw=>by
  rw [hW] at hw
  rcases hw with hw | hw
  ·exact ((h.steps d hd).blk hw).1
  ·exact (h.zS.blk hw).1
 have wgw:∀ c,W c→∃ l n el mn f1 f2,Tr.get B.none c s.h=.row l n el true mn f1 f2∧(el=180∨el=178):=fun c hw=>by
  rw [hW] at hw
  rcases hw with hw | hw
  ·obtain ⟨l,n,mn,f1,f2,g⟩:=(h.steps d hd).own hw;exact ⟨_,_,_,_,_,_,g,.inl rfl⟩
  ·obtain ⟨l,n,mn,f1,f2,g⟩:=h.zS.own hw;exact ⟨_,_,_,_,_,_,g,.inr rfl⟩
 have hz:∀ {e z v l},(e≠180∧e≠178)→Gz e z b s v l→Gz e z b s2 v l:=fun hne hz=>Gz.later hz n02 hk fun c hc hw=>by
  obtain ⟨l,n,el,mn,f1,f2,g,g2⟩:=wgw c hw
  obtain ⟨_,_,_,_,_,g'⟩:=hz.own hc
  rw [g] at g'
  injection g' with _ _ g' _
  omega
 have nrow:∀ {c l n e mn f1 f2},Tr.get B.none c s.h=.row l n e false mn f1 f2→¬W c:=fun g hw=>by
  obtain ⟨_,_,_,_,_,_,g',-⟩:=wgw _ hw
  rw [g] at g'
  injection g' with _ _ _ g'
  cases g'
 have nmap:¬W nm:=fun hw=>by
  obtain ⟨_,_,_,_,_,_,g',-⟩:=wgw _ hw
  have:=h.names
  unfold yj at this
  rw [this] at g'
  cases g'
 -- the steps' blocks of the states are different
 have hsep:∀ d'∈D,∀ q',D[q']?=some d'→q'≠q→∀ c,zC d'.sv=some c→zC d.sv≠some c:=fun d' _ q' hq' hne c hc hc2=>by
  have hp:=h.inj
  rw [List.pairwise_iff_getElem] at hp
  obtain ⟨g1,g2⟩:=kad.1 hq
  obtain ⟨g3,g4⟩:=kad.1 hq'
  rcases Nat.lt_or_gt_of_ne hne with g | g
  ·exact hp q' q g3 g1 g c (by rw [g4];exact hc) (by rw [g2];exact hc2)
  ·exact hp q q' g1 g3 g c (by rw [g2];exact hc2) (by rw [g4];exact hc)
 have a2':Gz 180 3 b s2 v17 ((d.st++[(inV,iw,x,to)]).map zwr):=by
  have:=a2.keep (s':=s2) (by rw [b3];exact kab _) fun c hc=>b4 c (a2.diff zS1 (by decide) hc)
  rw [kaE]
  exact this
 refine ⟨v17,s1,s2,fun k=>zw h.row 0 rfl (by omega) (by simpa using h.zS.nbad) k,fun kk f=>by rw [h.zS.idx (by omega),kaK],fun k=>h.zS.load1 hqz (h.steps d hd).nbad k,a1,fun k=>zw hrow1 0 rfl (by omega) (by simpa using h.zS.nbad) k,Gz.cells h.zS (i:=q) (by omega),b1,?_,⟨n02,fun c hc hk'=>hk c hc fun hw=>?_⟩⟩
 ·refine ⟨⟨kar hbs n02,fun c hc=>(hk c (kaf hc hbs) fun hw=>by have:=wge c hw;omega).trans (h.ext.get c hc)⟩,(hk _ h.gk_.2 (nrow h.row)).trans h.row,?_,?_,?_,⟨h.gk_.1,kaf h.gk_.2 n02⟩,⟨h.nm_.1,kaf h.nm_.2 n02⟩,?_,fun d' hd'=>?_,?_,fun d' hd'=>?_,fun d' hd' e he=>?_⟩
  ·rw [List.map_set];exact b2
  ·have:=hz (by decide) h.zF
   have e:(D.set q ⟨v17,d.st++[(inV,iw,x,to)],d.fl,d.rv,d.rn⟩).map (fun d=>[V.bool d.fl])=D.map fun d=>[V.bool d.fl]:=by
    rw [List.map_set]
    refine zDf ?_
    rw [kal,hq];rfl
   rw [e];exact this
  ·have:=hz (by decide) h.zR
   have e:(D.set q ⟨v17,d.st++[(inV,iw,x,to)],d.fl,d.rv,d.rn⟩).map (fun d=>[d.rv])=D.map fun d=>[d.rv]:=by
    rw [List.map_set]
    refine zDf ?_
    rw [kal,hq];rfl
   rw [e];exact this
  ·unfold yj;rw [hk nm h.nm_.2 nmap];exact h.names
  ·obtain ⟨q',hq'⟩:=List.getElem?_of_mem hd'
   by_cases e:q'=q
   ·subst e
    rw [List.getElem?_set_self hql] at hq'
    cases hq'
    exact a2'
   ·rw [List.getElem?_set_ne (fun h=>e h.symm)] at hq'
    have hm:=kae hq'
    refine (h.steps d' hm).keep n02 fun c hc=>hk c ((h.steps d' hm).blk hc).2 fun hw=>?_
    rw [hW] at hw
    rcases hw with hw | hw
    ·exact hsep d' hm q' hq' e c hc hw
    ·exact (h.steps d' hm).diff h.zS (by decide) hc hw
  ·rw [List.pairwise_iff_getElem]
   intro i j hi hj hij
   rw [List.length_set] at hi hj
   have hp:=h.inj
   rw [List.pairwise_iff_getElem] at hp
   have new:∀ c,zC v17=some c→zC d.sv=some c∨s.nx.toNat≤c.toNat:=fun c hc=>by
    rcases a5 with g | g
    ·exact .inl (by rw [←g];exact hc)
    ·exact .inr (g c hc)
   rw [List.getElem_set,List.getElem_set]
   intro c hc hc2
   by_cases e1:q=i
   ·rw [if_pos e1] at hc
    rw [if_neg (by omega)] at hc2
    rcases new c hc with g | g
    ·exact hsep _ (kaI hj) j (kac hj) (by omega) c hc2 g
    ·have:=((h.steps _ (kaI hj)).blk hc2).2;omega
   ·rw [if_neg e1] at hc
    by_cases e2:q=j
    ·rw [if_pos e2] at hc2
     rcases new c hc2 with g | g
     ·exact hsep _ (kaI hi) i (kac hi) (by omega) c hc g
     ·have:=((h.steps _ (kaI hi)).blk hc).2;omega
    ·rw [if_neg e2] at hc2
     exact hp i j hi hj hij c hc hc2
  ·rcases List.mem_or_eq_of_mem_set hd' with hd' | rfl
   ·exact hz (by decide) (h.runs d' hd')
   ·exact hz (by decide) (h.runs d hd)
  ·have key:∀ {v w},wq b s gk nm v w→wq b s2 gk nm v w:=fun hi=>hi.keep n02 fun c hc hk'=>hk c hc fun hw=>by
    rcases hk' with hk' | ⟨_,_,k3⟩
    ·have:=wge c hw;omega
    ·obtain ⟨l,n,el,mn,f1,f2,g,-⟩:=wgw c hw
     exact k3 ⟨_,_,_,_,_,_,g⟩
   rcases List.mem_or_eq_of_mem_set hd' with hd' | rfl
   ·exact key (h.ins d' hd' e he)
   ·rcases kak.1 he with he | he
    ·exact key (h.ins d hd e he)
    ·rcases kag.1 he with rfl
     exact key hin
 ·rcases hk' with hk' | ⟨k1,-,k3,-⟩
  ·have:=wge c hw;omega
  ·obtain ⟨l,n,el,mn,f1,f2,g,g2⟩:=wgw c hw
   exact k3 ⟨_,_,_,_,_,_,g,by omega⟩
def za9 (nd:Nd) (M:List (List Int)) (z:Int):List (List Int):=(M.map (·++[z])).filter fun w=>(nd w).isSome
def yZ (nd:Nd) (M:List (List Int)) (u:List Int):List (List Int):=(M.map (·++u)).filter fun w=>(nd w).isSome
theorem zFx (nd:Nd) (M:List (List Int)) (w:List Int) (z:Int):za9 nd (M++[w]) z=za9 nd M z++if (nd (w++[z])).isSome then [w++[z]] else []:=by
 unfold za9
 rw [kaE,List.filter_append]
 congr 1
 cases h:(nd (w++[z])).isSome<;>simp [h]
variable {M:List (List Int)}
theorem zIc {nd:Nd} (h:∀ w∈M,nd w≠none):yZ nd M []=M:=by
 unfold yZ
 have e:M.map (·++[])=M:=by
  conv=>rhs;rw [←List.map_id M]
  exact kaO fun w _=>List.append_nil w
 rw [e,List.filter_eq_self]
 intro w hw
 cases hh:nd w with
 | none=>exact absurd hh (h w hw)
 | some p=>rfl
theorem zFu {nd:Nd} (hcl:∀ w z,nd (w++[z])≠none→nd w≠none) (M:List (List Int)) (u:List Int) (z:Int):za9 nd (yZ nd M u) z=yZ nd M (u++[z]):=by
 unfold za9 yZ
 induction M with
 | nil=>rfl
 | cons w M ih =>
  simp only [kaN]
  rw [List.filter_cons,List.filter_cons]
  cases h:nd (w++u) with
  | none =>
   have h2:nd (w++(u++[z]))=none:=by
    cases hh:nd (w++(u++[z])) with
    | none=>rfl
    | some p=>exact absurd h (hcl (w++u) z (by rw [kat,hh];simp))
   simp only [Option.isSome_none,Bool.false_eq_true,if_false,h2]
   exact ih
  | some p =>
   simp only [Option.isSome_some,if_true,kaN]
   rw [List.filter_cons,kat]
   split
   ·rw [ih]
   ·exact ih
def zFI (s0 s:S) (nd:Nd) (v:V) (L:List (List Int)):Prop:=Gz 66 1 s0 s v (y8 nd L)∨(L=[]∧∃ a,v=.sl a 0 0 0 0)
theorem zFI.len {s0:S} {nd:Nd} (h:zFI s0 s nd v L) (f:V→Go.Ev.A):zz v f=f (iv .i64 (L.length:Int)):=by
 rcases h with h | ⟨rfl,a,rfl⟩
 ·rw [h.len,kai]
 ·rfl
structure TkX where
 b:S
 nd:Nd
 rw:List Int→Int
 idf:List Int→Nat
 c:Nat
 s0:S
 g:Nat→V
 M:List (List Int)
 iw:List Int
 rv:V
 z:Int
def TkX.fr (x:TkX) (tm:T):Prop:=gp 0 tm=x.g 0∧gp 1 tm=x.g 1∧gp 2 tm=x.g 2∧gp 3 tm=x.g 3∧gp 4 tm=x.g 4∧gp 240 tm=.bad
def TkX.fr2 (x:TkX) (tm:T):Prop:=gp 20 tm=x.g 20∧gp 21 tm=x.g 21∧gp 22 tm=x.g 22
def TkX.base (x:TkX) (s:S):Prop:=Ext x.b x.s0∧TreeF x.b x.nd x.rw x.idf x.c∧Ext x.s0 s∧(∀ w∈x.M,x.nd w≠none)∧x.M.length≤100
def zCK (nd:Nd) (rw:List Int→Int) (M:List (List Int)) (z:Int):Prop:=∀ w∈M,nd (w++[z])≠none→rw (w++[z])<0
def TkX.pre1 (x:TkX) (tm:T) (s:S):Prop:=x.fr tm∧x.fr2 tm∧x.base s∧gp 12 tm=iv .i64 x.z∧gp 24 tm=x.rv∧gp 25 tm=iv .i64 (x.M.length:Int)∧zFI x.s0 s x.nd x.rv x.M∧∃ j:Nat,gp 26 tm=iv .i64 (j:Int)∧j≤x.M.length ∧
 Gz 66 1 x.s0 s (gp 13 tm) (y8 x.nd (za9 x.nd (x.M.take j) x.z))∧(∀ c,zC (gp 13 tm)=some c→zC x.rv≠some c)∧zCK x.nd x.rw (x.M.take j) x.z
def TkX.post1 (x:TkX) (a:Go.Ev.A):Prop:=(zCK x.nd x.rw x.M x.z∧∃ tm s,a=.ext 2 tm s∧x.fr tm∧x.fr2 tm∧Ext x.s0 s∧Gz 66 1 x.s0 s (gp 13 tm) (y8 x.nd (za9 x.nd x.M x.z))) ∨
 (¬zCK x.nd x.rw x.M x.z∧∃ tm s,a=.ret tm s∧gp 240 tm=.bad∧Ext x.s0 s)
def zDk (nd:Nd) (rw:List Int→Int) (M:List (List Int)) (u:List Int):Prop:=∀ r∈M,∀ v,v≠[]→v <+: u→nd (r++v)≠none→rw (r++v)<0
def TkX.pre0 (x:TkX) (tm:T) (s:S):Prop:=x.fr tm∧x.base s∧zZ x.s0 (gp 20 tm)∧word x.s0 (gp 20 tm)=x.iw∧gp 21 tm=iv .i64 (x.iw.length:Int)∧∃ k:Nat,gp 22 tm=iv .i64 (k:Int)∧k≤x.iw.length∧zFI x.s0 s x.nd (gp 10 tm) (yZ x.nd x.M (x.iw.take k))∧(0<k→Gz 66 1 x.s0 s (gp 10 tm) (y8 x.nd (yZ x.nd x.M (x.iw.take k))))∧zDk x.nd x.rw x.M (x.iw.take k)
def TkX.post0 (x:TkX) (a:Go.Ev.A):Prop:=(zDk x.nd x.rw x.M x.iw∧∃ tm s,a=.ext 0 tm s∧x.fr tm∧Ext x.s0 s∧(x.iw≠[]→Gz 66 1 x.s0 s (gp 10 tm) (y8 x.nd (yZ x.nd x.M x.iw)))) ∨
 (¬zDk x.nd x.rw x.M x.iw∧∃ tm s,a=.ret tm s∧gp 240 tm=.bad∧Ext x.s0 s)
variable {x:TkX}
theorem TkX.post1_nb {a:Go.Ev.A} (h:x.post1 a):¬a.isBad:=by
 rcases h with ⟨_,tm,s,rfl,_⟩ | ⟨_,tm,s,rfl,_⟩<;>exact fun h=>h
theorem TkX.post0_nb {a:Go.Ev.A} (h:x.post0 a):¬a.isBad:=by
 rcases h with ⟨_,tm,s,rfl,_⟩ | ⟨_,tm,s,rfl,_⟩<;>exact fun h=>h
variable {X:Type}
noncomputable def ztf (pre63:X→T→S→Prop) (post63:X→Go.Ev.A→Prop):Nat→Lt
 | 52=>ltI TkX.pre1 TkX.post1
 | 83=>ltI TkX.pre0 TkX.post0
 | _=>ltI pre63 post63
variable {w:List Int}
theorem zhI {nd:Nd} {rw:List Int→Int} {idf:List Int→Nat} {c:Nat} (hT:TreeF b nd rw idf c) (hE:Ext b s) {m:Go.Ev.K} (hw:nd w=some (a,m)) :
  (∀ k:V→S→Go.Ev.A,zd false 1 (.ptr a 0 0) s k=k (.ref 0 m) s)∧(∀ k:V→S→Go.Ev.A,zd false 1 (.ptr a 0 1) s k=k (iv .i64 (rw w)) s) ∧
   (∀ (z:Int) (c:V→Go.Ev.A),nd (w++[z])=none→z4 ⟨7,[]⟩ (.nil 0) false (.ref 0 m) (iv .i64 z) s c=c (.nil 0)) ∧
   ∀ (z:Int) (c:V→Go.Ev.A) b m',nd (w++[z])=some (b,m')→z4 ⟨7,[]⟩ (.nil 0) false (.ref 0 m) (iv .i64 z) s c=c (.ptr b 0 0):=zE2.read (hT.later hE) hw
theorem zMG (pre63:X→T→S→Prop) (post63:X→Go.Ev.A→Prop):∀ (x:TkX) tm s,x.pre1 tm s→x.post1 (zcM.run (Rk Tryz.prog KB (ztf pre63 post63)) tm s):=by
 refine y9 (L:=ztf pre63 post63) zG.1 zG.2 zFC rfl (fun tm _=>101 - (toI (gp 26 tm)).toNat) (fun x a h=>TkX.post1_nb h) ?_
 rintro ⟨b,nd,rw_,idf,c,s0,g,M,iw,rv,z⟩ tm s ⟨⟨h0,h1,h2,h3,h4,h240⟩,⟨h20,h21,h22⟩,⟨hE,hT,hE2,hn,hl⟩,h12,h24,h25,hR,j,h26,hj,hz,hsep,hfree⟩ IH
 show TkX.post1 _ (zcM.run _ tm s)
 generalize Rk Tryz.prog _ _=r at IH ⊢
 simp only at h0 h1 h2 h3 h4 h20 h21 h22 hE hT hE2 hn hl h12 h24 h25 hR hj hz hsep hfree
 by_cases hlt:j<M.length
 ·have hlt':((j:Int)<(M.length:Int))=True:=eq_true (by omega)
  have hw:IntKind.i64.wrap ((j:Int)+1)=((j+1:Nat):Int):=by rw [z9 (by omega) (by omega)];omega
  have hRz:Gz 66 1 s0 s rv (y8 nd M):=by
   rcases hR with h | ⟨rfl,-⟩
   ·exact h
   ·cases hlt
  have hlr:(y8 nd M).length=M.length:=kai ..
  have hEs:Ext b s:=hE.trans hE2
  obtain ⟨⟨a,m⟩,hw1⟩:=kaz.1 (hn _ (kaI hlt))
  have hg:(y8 nd M)[j]?=some [.ptr a 0 0]:=by rw [kal,kac hlt];simp [ndV,hw1]
  have ix:∀ kk (f:V→Go.Ev.A),zg 1 rv (iv kk (j:Int)) f=f (jy rv j):=fun kk f=>by rw [hRz.idx (by omega),kaK]
  have ld:∀ f:V→S→Go.Ev.A,zd false 1 (jy rv j) s f=f (.ptr a 0 0) s:=fun f=>hRz.load1 hg (by intro e;cases e) f
  obtain ⟨d1,d2,d3,d4⟩:=zhI hT hEs hw1
  have htk:M.take (j+1)=M.take j++[M[j]]:=by rw [List.take_add_one,kac hlt];rfl
  have hmz:za9 nd (M.take (j+1)) z=za9 nd (M.take j) z++if (nd (M[j]++[z])).isSome then [M[j]++[z]] else []:=by rw [htk,zFx]
  have next:∀ tm' s',TkX.fr ⟨b,nd,rw_,idf,c,s0,g,M,iw,rv,z⟩ tm'→TkX.fr2 ⟨b,nd,rw_,idf,c,s0,g,M,iw,rv,z⟩ tm'→Ext s0 s'→gp 12 tm'=iv .i64 z→gp 24 tm'=rv→gp 25 tm'=iv .i64 (M.length:Int)→zFI s0 s' nd rv M→gp 26 tm'=iv .i64 ((j+1:Nat):Int) →
    Gz 66 1 s0 s' (gp 13 tm') (y8 nd (za9 nd (M.take (j+1)) z))→(∀ c,zC (gp 13 tm')=some c→zC rv≠some c)→(nd (M[j]++[z])≠none→rw_ (M[j]++[z])<0)→TkX.post1 ⟨b,nd,rw_,idf,c,s0,g,M,iw,rv,z⟩ (r.code ws zfd tm' s'):=by
   intro tm' s' a1 a2 a3 a4 a5 a6 a7 a8 a9 a10 a11
   refine IH _ tm' s' (by rw [h26,a8,zn,zn];omega) ⟨a1,a2,⟨hE,hT,a3,hn,hl⟩,a4,a5,a6,a7,j+1,a8,hlt,a9,a10,fun w hw hne=>?_⟩
   simp only at hw
   rw [htk] at hw
   rcases kak.1 hw with hw | hw
   ·exact hfree w hw hne
   ·rcases kag.1 hw with rfl
    exact a11 hne
  cases hch:nd (M[j]++[z]) with
  | none =>
   have e3:=fun c=>d3 z c hch
   rw [hch] at hmz
   simp only [Option.isSome_none,Bool.false_eq_true,if_false,List.append_nil] at hmz
   simp -implicitDefEqProofs [zdm,jV,h12,h24,h25,h26,hlt',ix,ld,d1,e3,zbN,hw,-Int.natCast_add]
   refine next _ s ⟨by simp [h0],by simp [h1],by simp [h2],by simp [h3],by simp [h4],by simp [h240]⟩ ⟨by simp [h20],by simp [h21],by simp [h22]⟩ hE2 (by simp [h12]) (by simp [h24]) (by simp [h25]) hR (by simp) ?_ ?_ (fun h=>absurd hch h)
   ·rw [hmz];simp;exact hz
   ·simp;exact hsep
  | some p =>
   obtain ⟨a',m'⟩:=p
   have e4:=fun c=>d4 z c a' m' hch
   obtain ⟨f1,f2,f3,f4⟩:=zhI hT hEs hch
   by_cases hrow:0≤rw_ (M[j]++[z])
   ·have hrow':(0≤rw_ (M[j]++[z]))=True:=eq_true hrow
    simp -implicitDefEqProofs [zdm,jV,h12,h24,h25,h26,hlt',ix,ld,d1,e4,jr,f2,hrow',-Int.natCast_add]
    refine .inr ⟨fun h=>?_,_,_,rfl,by simp [h240],hE2⟩
    have hne:nd (M[j]++[z])≠none:=by rw [hch];simp
    have:=h _ (kaI hlt) hne
    simp only at this
    omega
   ·have hrow':(0≤rw_ (M[j]++[z]))=False:=eq_false hrow
    rw [hch] at hmz
    simp only [Option.isSome_some,if_true] at hmz
    have hlz:(y8 nd (za9 nd (M.take j) z)).length≤j:=by
     rw [kai]
     unfold za9
     refine kar (List.length_filter_le _ _) ?_
     rw [kai,List.length_take];omega
    obtain ⟨nv,s1,ap,hz1,hnx,hk,hbk⟩:=hz.app1 hE2.nx Nat.one_pos (x:=[.ptr a' 0 0]) (fun y hy=>by rw [kag.1 hy];intro e;cases e) rfl (by omega)
    have hE3:Ext s0 s1:=ext_of (b:=s0) hE2 hnx (D:=fun c=>zC (gp 13 tm)=some c) (fun c hc hd=>hk c hc hd) (fun c hc=>(hz.blk hc).1)
    have hR1:zFI s0 s1 nd rv M:=.inl (hRz.keep hnx fun c hc=>hk c (hRz.blk hc).2 fun e=>hsep c e hc)
    simp -implicitDefEqProofs [zdm,jV,h12,h24,h25,h26,hlt',ix,ld,d1,e4,jr,f2,hrow',rep,zc7,upd,put,zo,ap,hw,-Int.natCast_add]
    refine next _ s1 ⟨by simp [h0],by simp [h1],by simp [h2],by simp [h3],by simp [h4],by simp [h240]⟩ ⟨by simp [h20],by simp [h21],by simp [h22]⟩ hE3 (by simp [h12]) (by simp [h24]) (by simp [h25]) hR1 (by simp) ?_ ?_ (fun _=>by omega)
    ·rw [hmz]
     have hv:ndV nd (M[j]++[z])=.ptr a' 0 0:=by unfold ndV;rw [hch]
     have hr:y8 nd (za9 nd (M.take j) z++[M[j]++[z]])=y8 nd (za9 nd (M.take j) z)++[[.ptr a' 0 0]]:=by simp only [y8,kaE,kaN,List.map_nil,hv]
     rw [hr]
     simpa using hz1
    ·simp
     intro c hc
     rcases hbk with h | h
     ·rw [h] at hc;exact hsep c hc
     ·intro e
      have:=h c hc
      have:=(hRz.blk e).2
      omega
 ·obtain rfl:j=M.length:=by omega
  rw [List.take_length] at hz hfree
  simp -implicitDefEqProofs [zdm,jV,h25,h26]
  exact .inl ⟨hfree,_,_,rfl,⟨by simp [h0],by simp [h1],by simp [h2],by simp [h3],by simp [h4],by simp [h240]⟩,⟨by simp [h20],by simp [h21],by simp [h22]⟩,hE2,by simp;exact hz⟩
variable {u:List Int}
theorem wo {nd:Nd}:w∈yZ nd M u↔∃ r∈M,w=r++u∧nd w≠none:=by
 unfold yZ
 rw [List.mem_filter,kav]
 constructor
 ·rintro ⟨⟨r,hr,rfl⟩,h⟩
  exact ⟨r,hr,rfl,fun e=>by rw [e] at h;cases h⟩
 ·rintro ⟨r,hr,rfl,h⟩
  refine ⟨⟨r,hr,rfl⟩,?_⟩
  cases hh:nd (r++u) with
  | none=>exact absurd hh h
  | some p=>rfl
theorem zyJ (nd:Nd) (M:List (List Int)) (u:List Int):(yZ nd M u).length≤M.length:=by
 unfold yZ
 refine kar (List.length_filter_le _ _) ?_
 rw [kai];exact kab _
variable {z:Int}
theorem zIP {nd:Nd} {rw:List Int→Int} (hcl:∀ w z,nd (w++[z])≠none→nd w≠none) (h1:zDk nd rw M u) (h2:zCK nd rw (yZ nd M u) z):zDk nd rw M (u++[z]):=by
 intro r hr v hv hp hn
 rcases zlB hp with hp | rfl
 ·exact h1 r hr v hv hp hn
 ·rw [←kat] at hn ⊢
  exact h2 (r++u) (wo.2 ⟨r,hr,rfl,hcl _ _ hn⟩) hn
theorem zJO {nd:Nd} {rw:List Int→Int} (hp:u++[z] <+: iw) (h2:¬zCK nd rw (yZ nd M u) z):¬zDk nd rw M iw:=by
 intro h
 refine h2 fun w hw hn=>?_
 obtain ⟨r,hr,rfl,-⟩:=wo.1 hw
 rw [kat] at hn ⊢
 exact h r hr (u++[z]) (by simp) hp hn
theorem zMi (pre63:X→T→S→Prop) (post63:X→Go.Ev.A→Prop):∀ (x:TkX) tm s,x.pre0 tm s→x.post0 (zew.run (Rk Tryz.prog KB (ztf pre63 post63)) tm s):=by
 refine y9 (L:=ztf pre63 post63) zG.1 zG.2 zI2 rfl (fun tm _=>(toI (gp 21 tm)).toNat - (toI (gp 22 tm)).toNat) (fun x a h=>TkX.post0_nb h) ?_
 rintro ⟨b,nd,rw_,idf,c,s0,g,M,iw,rv,z0⟩ tm s ⟨⟨h0,h1,h2,h3,h4,h240⟩,⟨hE,hT,hE2,hn,hl⟩,hI,hiw,h21,k,h22,hk,hR,hz,hfree⟩ IH
 show TkX.post0 _ (zew.run _ tm s)
 have hIn:=zMG pre63 post63
 generalize Rk Tryz.prog _ _=r at IH hIn ⊢
 simp only at h0 h1 h2 h3 h4 hE hT hE2 hn hl hI hiw h21 hk hR hz hfree
 have hil:iw.length=zb (gp 20 tm):=by rw [←hiw,zA]
 by_cases hlt:k<iw.length
 ·have hlt':((k:Int)<(iw.length:Int))=True:=eq_true (by omega)
  have hmax:=hI.2.1
  have hw:IntKind.i64.wrap ((k:Int)+1)=((k+1:Nat):Int):=by rw [z9 (by omega) (by omega)];omega
  obtain ⟨p,hp,hPt⟩:=(hI.ext hE2).1.at_ (i:=k) (by omega)
  rw [(hI.ext hE2).2 k] at hPt
  have hzk:iw[k]?=some (qi s0 (gp 20 tm) k):=by rw [←hiw];exact yb (by omega)
  generalize qi s0 (gp 20 tm) k=z at hPt hzk
  have htk:=zaY hzk
  simp -implicitDefEqProofs [zyQ,jV,h21,h22,hlt',hp,hPt,hR.len,-Int.natCast_add]
  generalize hA:zcM.run r _ s=A1
  have:=hA▸hIn ⟨b,nd,rw_,idf,c,s0,fun i=>gp i tm,yZ nd M (iw.take k),iw,gp 10 tm,z⟩ _ s ⟨⟨by simp,by simp,by simp,by simp,by simp,by simp [h240]⟩,⟨by simp,by simp [h21],by simp [h22]⟩,
   ⟨hE,hT,hE2,fun w hw=>(by obtain ⟨r,_,_,h⟩:=wo.1 hw;exact h),kar (zyJ _ _ _) hl⟩,by simp,by simp,by simp,hR,0,by simp,Nat.zero_le _,by simp [za9];exact .inl ⟨rfl,rfl⟩,by simp [zC],fun w hw=>(by simp at hw)⟩
  have hpre:iw.take k++[z] <+: iw:=by rw [←htk];exact List.take_prefix _ _
  rcases this with ⟨hf1,tm',s',rfl,⟨k0,k1,k2,k3,k4,k240⟩,⟨k20,k21,k22⟩,kE,kz⟩ | ⟨hf1,tm',s',rfl,k240,kE⟩
  ·simp only at k0 k1 k2 k3 k4 k20 k21 k22 kE kz hf1
   rw [zFu hT.closed,←htk] at kz
   have hfree':=zIP hT.closed hfree hf1
   rw [←htk] at hfree'
   simp -implicitDefEqProofs [k22,h22,hw,-Int.natCast_add]
   refine IH ⟨b,nd,rw_,idf,c,s0,g,M,iw,rv,z0⟩ _ s' ?_ ⟨⟨by simp [k0,h0],by simp [k1,h1],by simp [k2,h2],by simp [k3,h3],by simp [k4,h4],by simp [k240]⟩,⟨hE,hT,kE,hn,hl⟩,by simp [k20];exact hI,by simp [k20];exact hiw,by simp [k21,h21],k+1,by simp,hlt,?_,fun _=>?_,hfree'⟩
   ·rw [h21,h22,zn,zn];simp [k21,h21,zn,-Int.natCast_add];omega
   ·simp [-List.map_take];exact .inl kz
   ·simp [-List.map_take];exact kz
  ·simp only at kE hf1
   simp -implicitDefEqProofs
   exact .inr ⟨zJO hpre hf1,_,_,rfl,k240,kE⟩
 ·obtain rfl:k=iw.length:=by omega
  rw [List.take_length] at hz hfree
  simp -implicitDefEqProofs [zyQ,jV,h21,h22]
  refine .inl ⟨hfree,_,_,rfl,⟨by simp [h0],by simp [h1],by simp [h2],by simp [h3],by simp [h4],by simp [h240]⟩,hE2,fun hne=>?_⟩
  simp
  exact hz (List.length_pos_iff.2 hne)
theorem zIB (hq:D[q]?=some d) (v:V) (inV:V) (e:Stp):(D.set q ⟨v,d.st++[(inV,e)],d.fl,d.rv,d.rn⟩).map SD.p=addSt (D.map SD.p) q e:=by
 unfold addSt
 apply kaG
 intro j
 rw [kal,List.getElem?_modify,kal]
 by_cases h:q=j
 ·subst h
  rw [List.getElem?_set_self (kad.1 hq).1,hq]
  simp [SD.p]
 ·rw [List.getElem?_set_ne h]
  cases D[j]?<;>simp [h]
structure ChX where
 b:S
 nd:Nd
 gk:Go.Ev.K
 nm:Go.Ev.K
 G:List PS
 nl:LG (List Nat)
 nc:Nat
 q:Nat
 iw:List Int
 s1:S
 outV:V
 o:List Int
 to:Nat
 GF:List PS
def ChX.pre (x:ChX) (tm:T) (s:S):Prop:=gp 0 tm=.ptr x.gk 0 0∧gp 1 tm=iv .i64 (x.q:Int)∧wq x.b s x.gk x.nm (gp 2 tm) x.iw∧gp 3 tm=x.outV∧gp 16 tm=iv .i64 (x.to:Int)∧gp 240 tm=.bad∧gp 31 tm=x.outV∧gp 32 tm=iv .i64 (x.o.length:Int) ∧
 GR x.b s x.nd x.gk x.nm x.G x.nl x.nc (fun _=>True)∧wq x.b s x.gk x.nm x.outV x.o∧Frm 66 x.b x.gk x.nm (fun _=>False) x.s1 s∧∃ k:Nat,gp 33 tm=iv .i64 (k:Int)∧k≤x.o.length∧qN x.G x.q x.iw (x.o.drop k) x.to=x.GF∧x.G.length+(x.o.length - k)≤68719476736 ∧
 (k<x.o.length→∃ p,x.G[x.q]?=some p∧p.st.length+1≤68719476736)
def ChX.post (x:ChX) (a:Go.Ev.A):Prop:=∃ tm s,a=.ext 4 tm s∧gp 240 tm=.bad∧GR x.b s x.nd x.gk x.nm x.GF x.nl x.nc (fun _=>True)∧Frm 66 x.b x.gk x.nm (fun _=>False) x.s1 s
theorem wq.nil:wq b s gk nm (.nil 1) []:=⟨⟨.inl (.inl rfl),by simp [zb],fun j hj=>by cases hj⟩,rfl,fun c hc=>by cases hc⟩
theorem zMb:∀ (x:ChX) tm s,x.pre tm s→x.post (zad.run (Rk Tryz.prog KB (ztf ChX.pre ChX.post)) tm s):=by
 refine y9 (L:=ztf ChX.pre ChX.post) zG.1 zG.2 zEW rfl (fun tm _=>(toI (gp 32 tm)).toNat - (toI (gp 33 tm)).toNat) (fun x a ⟨_,_,h,_⟩=>by rw [h];exact fun h=>h) ?_
 rintro ⟨b,nd,gk,nm,G,nl,nc,q,iw,s1,outV,o,to,GF⟩ tm s ⟨h0,h1,hin,h3,h16,h240,h31,h32,hG,hout,hF,k,h33,hk,hch,hlim,hst⟩ IH
 show ChX.post _ (zad.run _ tm s)
 have hAd:=qV (zQ (L:=ztf ChX.pre ChX.post) zGY) (X:=GX × Bool × V × List (List Int) × (Go.Ev.K→Prop)) rfl
 generalize Rk Tryz.prog _ _=r at IH hAd ⊢
 simp only at h0 h1 hin h3 h16 h31 h32 hG hout hF hk hch hlim hst
 by_cases hlt:k<o.length
 ·have hlt':((k:Int)<(o.length:Int))=True:=eq_true (by omega)
  have hol:o.length=zb outV:=by rw [←hout.2.1,zA]
  have hmax:=hout.1.2.1
  have hw:IntKind.i64.wrap ((k:Int)+1)=((k+1:Nat):Int):=by rw [z9 (by omega) (by omega)];omega
  have hw2:IntKind.i64.wrap ((o.length:Int) - 1)=(o.length:Int) - 1:=z9 (by omega) (by omega)
  obtain ⟨p,hp,hPt⟩:=hout.1.at_ (i:=k) (by omega)
  have hzk:o[k]?=some (qi s outV k):=by rw [←hout.2.1];exact yb (by omega)
  generalize qi s outV k=z at hPt hzk
  have hlo:∀ f:V→Go.Ev.A,zz outV f=f (iv .i64 (o.length:Int)):=fun f=>by rw [hout.1.1.len,hol]
  obtain ⟨pq,hpq,hpl⟩:=hst hlt
  have hdr:o.drop k=z::o.drop (k+1):=by
   obtain ⟨g1,g2⟩:=kad.1 hzk
   rw [←g2,←List.drop_eq_getElem_cons g1]
  -- a further step of q, then the loop goes on
  have step:∀ (s':S) (G':List PS) (nx:Nat),GR b s' nd gk nm G' nl nc (fun _=>True)→Frm 66 b gk nm (fun _=>False) s s'→G'[q]?=some pq→qN (addSt G' q (iw,z,nx)) nx [] (o.drop (k+1)) to=GF→G'.length+(o.length - (k+1))≤68719476736→(k+1<o.length→∃ p,(addSt G' q (iw,z,nx))[nx]?=some p∧p.st.length+1≤68719476736) →
    ∃ v3 v11 v17 s3 s4,(∀ f:V→S→Go.Ev.A,zd false 1 (.ptr gk 0 0) s' f=f v3 s')∧(∀ kk (f:V→Go.Ev.A),zg 1 v3 (iv kk (q:Int)) f=f (jy v3 q))∧(∀ f:V→S→Go.Ev.A,zd false 1 (jy v3 q) s' f=f v11 s')∧(∀ c:List V→Go.Ev.A,zp 1 (gp 2 tm) c=c [gp 2 tm]) ∧
     (∀ f:V→S→Go.Ev.A,zP 180 3 v11 (.sl s'.nx 0 0 1 1) (zN s' (.row [gp 2 tm,iv .i64 z,iv .i64 (nx:Int)] 3 180 false 0 0 0)) f=f v17 s3)∧(∀ f:V→S→Go.Ev.A,zd false 1 (.ptr gk 0 0) s3 f=f v3 s3)∧yS v3 v3=true∧(∀ f:V→S→Go.Ev.A,zJ 1 (jy v3 q) v17 s3 f=f Go.Ev.undef s4) ∧
     ∀ tm',gp 0 tm'=.ptr gk 0 0→gp 1 tm'=iv .i64 (nx:Int)→gp 2 tm'=.nil 1→gp 3 tm'=outV→gp 16 tm'=iv .i64 (to:Int)→gp 240 tm'=.bad→gp 31 tm'=outV→gp 32 tm'=iv .i64 (o.length:Int)→gp 33 tm'=iv .i64 ((k+1:Nat):Int)→ChX.post ⟨b,nd,gk,nm,G,nl,nc,q,iw,s1,outV,o,to,GF⟩ (r.code ws zfc tm' s4):=by
   intro s' G' nx hG' hF' hq' hc' hl' hs'
   obtain ⟨D,vS,vF,vR,el,hD,rfl,-⟩:=hG'
   have hin':=hin.frm hF' (fun c h=>h.elim)
   have hout':=hout.frm hF' (fun c h=>h.elim)
   obtain ⟨d,hd,hdp⟩:∃ d,D[q]?=some d∧d.p=pq:=by
    rw [kal] at hq'
    cases hh:D[q]? with
    | none=>rw [hh] at hq';cases hq'
    | some d=>rw [hh] at hq';exact ⟨d,rfl,Option.some.inj hq'⟩
   have hdl:d.st.length+1≤68719476736:=by
    have:pq.st.length=d.st.length:=by rw [←hdp];simp [SD.p]
    omega
   obtain ⟨v17,s3,s4,b1,b2,b3,b4,b5,b6,b7,b8,b9⟩:=hD.addStep hd hin' z nx hdl
   refine ⟨vS,d.sv,v17,s3,s4,b1,b2,b3,jb hin'.1,b4,b5,b6,b7,fun tm' a0 a1 a2 a3 a16 a240 a31 a32 a33=>?_⟩
   have:=IH ⟨b,nd,gk,nm,addSt (D.map SD.p) q (iw,z,nx),nl,nc,nx,[],s1,outV,o,to,GF⟩ tm' s4 (by rw [h32,h33,a32,a33,zn,zn,zn];omega) ⟨a0,a1,by rw [a2];exact wq.nil,a3,a16,a240,a31,a32,⟨_,_,_,_,_,b8,zIB hd _ _ _,fun _ _=>trivial⟩,hout'.frm b9 (fun c h=>h.elim),(hF.trans hF').trans b9,k+1,a33,hlt,hc',by
    have:(addSt (D.map SD.p) q (iw,z,nx)).length=(D.map SD.p).length:=by unfold addSt;rw [List.length_modify]
    simp only
    omega,hs'⟩
   exact this
  by_cases hlast:k+1<o.length
  ·have hlast':((k:Int)<(o.length:Int) - 1)=True:=eq_true (by omega)
   obtain ⟨w,s2,e1,rfl,hG2,hF2⟩:=hAd (⟨b,nd,gk,nm,G,nl,nc⟩,false,.nil 1,[],fun _=>True) _ s ⟨rfl,hG,.inl ⟨rfl,rfl⟩,by simp only;omega⟩
   simp only at e1 hG2 hF2
   have hdr2:∃ y r2,o.drop (k+1)=y::r2:=by
    cases hh:o.drop (k+1) with
    | nil=>have:=congrArg List.length hh;simp at this;omega
    | cons y r2=>exact ⟨y,r2,rfl⟩
   obtain ⟨y,r2,hy⟩:=hdr2
   have hq2:(G++[(⟨[],false,[]⟩:PS)])[q]?=some pq:=by
    rw [kam (kad.1 hpq).1];exact hpq
   obtain ⟨v3,v11,v17,s3,s4,b1,b2,b3,b4,b5,b6,b7,b8,b9⟩:=step s2 (G++[⟨[],false,[]⟩]) G.length (by obtain ⟨D,vS,vF,vR,el,g1,g2,-⟩:=hG2;exact ⟨D,vS,vF,vR,el,g1,g2,fun _ _=>trivial⟩) hF2 hq2 (by rw [hy];rw [hdr,hy] at hch;exact hch) (by rw [kah];simp only [kaH,List.length_nil];omega) (fun _=>by
    have hlt2:q<G.length:=(kad.1 hpq).1
    refine ⟨⟨[],false,[]⟩,?_,by simp⟩
    unfold addSt
    rw [List.getElem?_modify,kax (kab _)]
    simp [show q≠G.length by omega])
   simp -implicitDefEqProofs [zgQ,jV,h0,h1,h3,h16,h31,h32,h33,hlt',hp,hPt,hlo,hw2,hlast',e1,b1,b2,b3,b4,qR,upd,put,rep,zo,b5,b6,b7,b8,hw,-Int.natCast_add]
   exact b9 _ (by simp [h0]) (by simp) (by simp) (by simp [h3]) (by simp [h16]) (by simp [h240]) (by simp [h31]) (by simp [h32]) (by simp)
  ·have hlast':((k:Int)<(o.length:Int) - 1)=False:=eq_false (by omega)
   have hnil:o.drop (k+1)=[]:=List.drop_eq_nil_of_le (by omega)
   obtain ⟨v3,v11,v17,s3,s4,b1,b2,b3,b4,b5,b6,b7,b8,b9⟩:=step s G to hG (Frm.refl _ _ _ _ _ _) hpq (by rw [hnil];rw [hdr,hnil] at hch;exact hch) (by omega) (fun h=>absurd h hlast)
   simp -implicitDefEqProofs [zgQ,jV,h0,h1,h3,h16,h31,h32,h33,hlt',hp,hPt,hlo,hw2,hlast',b1,b2,b3,b4,qR,upd,put,rep,zo,b5,b6,b7,b8,hw,-Int.natCast_add]
   exact b9 _ (by simp [h0]) (by simp) (by simp) (by simp [h3]) (by simp [h16]) (by simp [h240]) (by simp [h31]) (by simp [h32]) (by simp)
 ·obtain rfl:k=o.length:=by omega
  rw [List.drop_length] at hch
  have hch:G=GF:=by unfold qN at hch;exact hch
  subst hch
  simp -implicitDefEqProofs [zgQ,jV,h32,h33]
  exact ⟨_,_,rfl,by simp [h240],hG,hF⟩
theorem zao:∀ (n:Nat) (l:List Nat),l.Nodup→(∀ x∈l,x<n)→l.length≤n
 | 0,[],_,_=>kab _
 | 0,x::l,_,h=>by have:=h x (by simp);omega
 | n+1,l,hn,h=>by
  by_cases g:n∈l
  ·have h1:=zao n (l.erase n) (hn.erase n) (fun x hx=>by
    have h2:=(hn.mem_erase_iff).1 hx
    have:=h x h2.2
    have:=h2.1
    omega)
   rw [List.length_erase_of_mem g] at h1
   omega
  ·have:=zao n l hn (fun x hx=>by
    have:=h x hx
    have:x≠n:=fun e=>g (e▸hx)
    omega)
   omega
theorem zE4 {l:List Nat} (hs:l.Pairwise (·<·)) {n:Nat} (h:∀ x∈l,x<n):l.length≤n :=
 zao n l (hs.imp (fun h=>Nat.ne_of_lt h)) h
def zch (nd:Nd) (M:List (List Int)) (i:List Int):List (List Int):=yZ nd M i++if (nd i).isSome then [i] else []
variable {i:List Int}
theorem ztN {nd:Nd}:w∈zch nd M i↔zEB nd M i w:=by
 unfold zch zEB
 rw [kak,wo]
 refine or_congr_right ?_
 cases h:nd i with
 | none=>simp
 | some p=>simp
theorem zLf {nd:Nd} {rw:List Int→Int} {idf:List Int→Nat} (hs:M.Pairwise fun u w=>idf u<idf w) (hd:∀ u∈M,∀ w∈M,u.length=w.length→u=w) (hne:∀ u∈M,u≠[]) (hsh:zJu nd rw) (hf:zDk nd rw M i) (hi:i≠[]) :
  (zch nd M i).Nodup∧(zch nd M i).length≤12∧∀ w∈zch nd M i,nd w≠none:=by
 have hMn:M.Nodup:=hs.imp (fun {u w} h e=>by rw [e] at h;omega)
 have hmn:(yZ nd M i).Nodup:=by
  unfold yZ
  refine List.Pairwise.filter _ ?_
  rw [List.pairwise_map]
  exact hMn.imp fun h e=>h (List.append_cancel_right e)
 have hnot:i ∉ yZ nd M i:=fun h=>by
  obtain ⟨r,hr,e,-⟩:=wo.1 h
  have:=congrArg List.length e
  rw [kah] at this
  exact hne r hr (kaw.1 (by omega))
 have hil:1≤i.length:=List.length_pos_iff.2 hi
 have hlen:(yZ nd M i).length≤12 - i.length:=by
  have h1:((yZ nd M i).map fun w=>w.length - i.length - 1).length=(yZ nd M i).length:=kai ..
  rw [←h1]
  have big:∀ w∈yZ nd M i,i.length+1≤w.length∧w.length≤12:=fun w hw=>by
   obtain ⟨r,hr,rfl,hn⟩:=wo.1 hw
   have:=List.length_pos_iff.2 (hne r hr)
   refine ⟨by rw [kah];omega,hsh _ hn (hf r hr i hi (List.prefix_refl _) hn)⟩
  refine zao _ _ ?_ fun x hx=>?_
  ·refine List.pairwise_map.2 ?_
   refine List.Pairwise.imp_of_mem ?_ hmn
   intro u w hu hw hne' e
   have b1:=big u hu
   have b2:=big w hw
   obtain ⟨r,hr,rfl,-⟩:=wo.1 hu
   obtain ⟨r',hr',rfl,-⟩:=wo.1 hw
   rw [kah,kah] at *
   exact hne' (by rw [hd r hr r' hr' (by omega)])
  ·obtain ⟨w,hw,rfl⟩:=kav.1 hx
   have:=big w hw
   omega
 refine ⟨?_,?_,fun w hw=>?_⟩
 ·unfold zch
  rw [kaP]
  refine ⟨hmn,by split<;>simp,fun a ha b hb e=>?_⟩
  split at hb
  ·rw [kag.1 hb] at e
   exact hnot (e▸ha)
  ·cases hb
 ·unfold zch
  rw [kah]
  have:(if (nd i).isSome=true then [i] else []).length≤1:=by split<;>simp
  omega
 ·rcases ztN.1 hw with ⟨_,_,_,h⟩ | ⟨rfl,h⟩<;>exact h
theorem zhT {nd:Nd} {rw:List Int→Int}:¬zDk nd rw M i↔ziB nd rw M i:=by
 constructor
 ·intro h
  refine Classical.byContradiction fun hb=>h fun r hr v hv hp hn=>?_
  refine Classical.byContradiction fun hg=>hb ⟨r,hr,v,hv,hp,hn,by omega⟩
 ·rintro ⟨r,hr,v,hv,hp,hn,hg⟩ h
  have:=h r hr v hv hp hn
  omega
theorem NamesOK.addSt {nd:Nd} {idf:List Int→Nat} (h:NamesOK nd idf G nl) (q:Nat) (e:Stp):NamesOK nd idf (addSt G q e) nl:=by
 have key:∀ {j:Nat} {x:PS},(oev.addSt G q e)[j]?=some x→∃ y:PS,G[j]?=some y∧x.fl=y.fl∧x.rn=y.rn:=by
  intro j x hx
  unfold oev.addSt at hx
  rw [List.getElem?_modify] at hx
  cases hh:G[j]? with
  | none=>rw [hh] at hx;cases hx
  | some y =>
   rw [hh] at hx
   by_cases g:q=j<;>simp [g] at hx<;>subst hx<;>exact ⟨y,rfl,rfl,rfl⟩
 have key2:∀ {j:Nat} {y:PS},G[j]?=some y→∃ x:PS,(oev.addSt G q e)[j]?=some x∧x.fl=y.fl∧x.rn=y.rn:=by
  intro j y hy
  unfold oev.addSt
  rw [List.getElem?_modify,hy]
  by_cases g:q=j<;>simp [g]
 refine ⟨fun j x hx hf=>?_,fun k v hv=>?_,fun x hx hf=>?_,fun x hx=>?_⟩
 ·obtain ⟨y,h1,h2,h3⟩:=key hx
  rw [h3];exact h.to j y h1 (h2▸hf)
 ·obtain ⟨j,y,h1,h2,h3,h4⟩:=h.back k v hv
  obtain ⟨x,g1,g2,g3⟩:=key2 h1
  exact ⟨j,x,g1,by rw [g2];exact h2,by rw [g3];exact h3,h4⟩
 ·obtain ⟨j,hj⟩:=List.getElem?_of_mem hx
  obtain ⟨y,h1,h2,h3⟩:=key hj
  rw [h3];exact h.sorted y (kae h1) (h2▸hf)
 ·obtain ⟨j,hj⟩:=List.getElem?_of_mem hx
  obtain ⟨y,h1,h2,h3⟩:=key hj
  rw [h3];exact h.nodes y (kae h1)
theorem NamesOK.addNF {nd:Nd} {idf:List Int→Nat} (h:NamesOK nd idf G nl):NamesOK nd idf (G++[⟨[],false,[]⟩]) nl:=by
 refine ⟨fun j x hx hf=>?_,fun k v hv=>?_,fun x hx hf=>?_,fun x hx=>?_⟩
 ·rcases kaq j G.length with g | g
  ·rw [kam g] at hx;exact h.to j x hx hf
  ·rw [kax g] at hx
   have:=kae hx
   rcases kag.1 this with rfl
   cases hf
 ·obtain ⟨j,y,h1,h2,h3,h4⟩:=h.back k v hv
  exact ⟨j,y,by rw [kam (kad.1 h1).1];exact h1,h2,h3,h4⟩
 ·rcases kak.1 hx with hx | hx
  ·exact h.sorted x hx hf
  ·rcases kag.1 hx with rfl
   cases hf
 ·rcases kak.1 hx with hx | hx
  ·exact h.nodes x hx
  ·rcases kag.1 hx with rfl
   intro w hw;cases hw
theorem NamesOK.chain {nd:Nd} {idf:List Int→Nat} {nl:LG (List Nat)}:∀ (o:List Int) {G:List PS} (_:NamesOK nd idf G nl) (q:Nat) (i:List Int) (to:Nat),NamesOK nd idf (qN G q i o to) nl
 | [],_,h,_,_,_=>by unfold qN;exact h
 | [x],_,h,q,i,to=>by unfold qN;exact h.addSt q _
 | x::y::o,_,h,q,i,to=>by unfold qN;exact NamesOK.chain (y::o) (h.addNF.addSt q _) _ _ to
section
variable {F T:Nat→List Int} {n:Nat} {U:Int→Prop} {h:Int→Int}
structure Fold (F T:Nat→List Int) (n:Nat) (U:Int→Prop) (h:Int→Int):Prop where
 fix:∀ s,U s→h s=s
 oth:∀ s,U (h s)→U s
 rF:∀ j,j<n→∀ s∈F j,U s
 rT:∀ j,j<n→∀ s∈T j,U s
theorem Fold.word (H:Fold F T n U h) {w:List Int} (hw:∀ s∈w,U s):w.map h=w:=by
 induction w with
 | nil=>rfl
 | cons a w ih=>rw [kaN,H.fix a (hw a (by simp)),ih (fun s hs=>hw s (by simp [hs]))]
theorem Fold.pre' (H:Fold F T n U h):∀ {w x:List Int},(∀ s∈w,U s)→(w <+: x.map h↔w <+: x)
 | [],x,_=>by simp
 | a::w,[],_=>by simp
 | a::w,b::x,hw=>by
  rw [kaN,List.cons_prefix_cons,List.cons_prefix_cons,H.pre' (fun s hs=>hw s (by simp [hs]))]
  have ha:=hw a (by simp)
  constructor
  ·rintro ⟨rfl,h2⟩
   exact ⟨H.fix b (H.oth b ha),h2⟩
  ·rintro ⟨rfl,h2⟩
   exact ⟨(H.fix a ha).symm,h2⟩
variable {x:List Int} {j:Nat}
theorem Fold.pre (H:Fold F T n U h) (hj:j<n):F j <+: x.map h↔F j <+: x:=H.pre' (H.rF j hj)
theorem Fold.step (H:Fold F T n U h) {x out:List Int} {k:Nat} (hs:wE F T n x k out):wE F T n (x.map h) k (out.map h):=by
 rcases hs with ⟨j,⟨hj,hp,hb⟩,rfl,rfl⟩ | ⟨hn,rfl,rfl⟩
 ·exact .inl ⟨j,⟨hj,(H.pre hj).2 hp,fun k hk hp=>hb k hk ((H.pre hk).1 hp)⟩,rfl,H.word (H.rT j hj)⟩
 ·exact .inr ⟨fun j hj hp=>hn j hj ((H.pre hj).1 hp),rfl,by rw [List.map_take]⟩
variable {y:List Int}
theorem Fold.res (H:Fold F T n U h) (hr:ResP F T n x y):ResP F T n (x.map h) (y.map h):=by
 induction hr with
 | nil=>exact .nil
 | @step x y out k hx hs _ ih =>
  rw [kaE]
  exact .step (fun e=>hx (List.map_eq_nil_iff.1 e)) (H.step hs) (by rw [←List.map_drop];exact ih)
theorem Fold.same (H:Fold F T n U h) (hok:qJ n F T) (hr:ResP F T n x y):∀ {x':List Int},ResP F T n x' y→x.map h=x'.map h→x=x':=by
 induction hr with
 | nil =>
  intro x' _ e
  exact (List.map_eq_nil_iff.1 e.symm).symm
 | @step x y out k hx hs _ ih =>
  intro x' hr' e
  generalize hy:out++y=y0 at hr'
  cases hr' with
  | nil=>exact List.map_eq_nil_iff.1 e
  | @step _ y' out' k' hx' hs' hr' =>
   have hp:∀ {j},j<n→(F j <+: x↔F j <+: x'):=fun hj=>by rw [←H.pre hj,e,H.pre hj]
   have key:k'=k∧out=out'∧y=y'∧x.take k=x'.take k:=by
    rcases hs with ⟨j,⟨hj,hpj,hb⟩,rfl,rfl⟩ | ⟨hn,rfl,rfl⟩
    ·have hst:wE F T n x' (F j).length (T j):=.inl ⟨j,⟨hj,(hp hj).1 hpj,fun k hk h=>hb k hk ((hp hk).2 h)⟩,rfl,rfl⟩
     obtain ⟨rfl,rfl⟩:=zjM hok hst hs'
     exact ⟨rfl,rfl,List.append_cancel_left hy,by rw [←List.prefix_iff_eq_take.1 hpj,←List.prefix_iff_eq_take.1 ((hp hj).1 hpj)]⟩
    ·have hst:wE F T n x' 1 (x'.take 1):=.inr ⟨fun j hj h=>hn j hj ((hp hj).2 h),rfl,rfl⟩
     obtain ⟨rfl,rfl⟩:=zjM hok hst hs'
     have hl:(x.take 1).length=(x'.take 1).length:=by
      rw [List.length_take,List.length_take]
      have:=congrArg List.length e
      simp only [kai] at this
      rw [this]
     obtain ⟨e1,e2⟩:=List.append_inj hy hl
     exact ⟨rfl,e1,e2,e1⟩
   obtain ⟨rfl,rfl,rfl,ht⟩:=key
   have:=ih hr' (by rw [List.map_drop,List.map_drop,e])
   rw [←List.take_append_drop k' x,←List.take_append_drop k' x',ht,this]
theorem zLG (hok:qJ n F T) {A B:Int→Prop} (hAB:∀ s,A s→B s) (hUA:∀ s,U s→A s) (hF:∀ j,j<n→∀ s∈F j,U s) (hT:∀ j,j<n→∀ s∈T j,U s)
  (h1:(∃ s,B s∧¬U s)→∃ u,A u∧¬U u):Inj F T n A↔Inj F T n B:=by
 constructor
 ·intro hi x x' y hx hx' hr hr'
  by_cases g:∃ s,B s∧¬U s
  ·obtain ⟨u,hu,hnu⟩:=h1 g
   classical
   obtain ⟨f,hf⟩:∃ f:Int→Int,f=fun s=>if U s then s else u:=⟨_,rfl⟩
   have H:Fold F T n U f:=⟨fun s hs=>by rw [hf];exact if_pos hs,fun s hs=>by
    rw [hf] at hs
    by_cases g:U s
    ·exact g
    ·simp only [if_neg g] at hs;exact absurd hs hnu,hF,hT⟩
   have hA:∀ s,A (f s):=fun s=>by
    rw [hf]
    by_cases g:U s
    ·simp only [if_pos g];exact hUA s g
    ·simp only [if_neg g];exact hu
   have e:=hi (x.map f) (x'.map f) (y.map f) (fun s hs=>by obtain ⟨a,-,rfl⟩:=kav.1 hs;exact hA a) (fun s hs=>by obtain ⟨a,-,rfl⟩:=kav.1 hs;exact hA a) (H.res hr) (H.res hr')
   exact H.same hok hr hr' e
  ·have hB:∀ s,B s→A s:=fun s hs=>hUA s (Classical.byContradiction fun h=>g ⟨s,hs,h⟩)
   exact hi x x' y (fun s hs=>hB s (hx s hs)) (fun s hs=>hB s (hx' s hs)) hr hr'
 ·exact fun hi x x' y hx hx' hr hr'=>hi x x' y (fun s hs=>hAB s (hx s hs)) (fun s hs=>hAB s (hx' s hs)) hr hr'
theorem ztl (hok:qJ n F T) {B:Int→Prop} (hj:j<n) (hT:T j=[]) (hB:∀ s∈F j,B s):¬Inj F T n B:=by
 intro hi
 have hne:F j≠[]:=fun e=>by have:=(hok.2.2 j hj).1;rw [e] at this;exact absurd this (by decide)
 have h1:ResP F T n (F j) []:=by
  have hst:wE F T n (F j) (F j).length (T j):=.inl ⟨j,⟨hj,List.prefix_refl _,fun k hk hp=>hp.length_le⟩,rfl,rfl⟩
  have:=ResP.step hne hst (y:=[]) (by rw [List.drop_length];exact .nil)
  rw [hT] at this
  exact this
 exact hne (hi _ _ _ hB (fun s hs=>by cases hs) h1 .nil)
end
def z5 (G:List PS):Gph:=⟨fun q=>(G[q]?.map PS.st).getD [],fun q=>(G[q]?.map PS.fl).getD false,fun q w=>w∈(G[q]?.map PS.rn).getD []⟩
variable {G:List PS} {q:Nat} {x:PS}
theorem yY (h:G[q]?=some x):(z5 G).steps q=x.st:=by simp [z5,h]
theorem jA (h:G[q]?=some x):(z5 G).full q=x.fl:=by simp [z5,h]
theorem wM (h:G[q]?=some x):(z5 G).runs q=fun w=>w∈x.rn:=by simp [z5,h]
theorem zeR (h:(z5 G).full q=true):∃ x,G[q]?=some x∧x.fl=true:=by
 cases hh:G[q]? with
 | none=>simp [z5,hh] at h
 | some x=>exact ⟨x,rfl,by simpa [z5,hh] using h⟩
theorem zKd (h:(z5 G).steps q≠[]):∃ x,G[q]?=some x:=by
 cases hh:G[q]? with
 | none=>simp [z5,hh] at h
 | some x=>exact ⟨x,rfl⟩
variable {e:Stp}
theorem zaF {p:Nat} (h:p≠q):(addSt G q e)[p]?=G[p]?:=by
 unfold addSt
 rw [List.getElem?_modify]
 cases G[p]? with
 | none=>rfl
 | some y=>simp [show ¬q=p from fun e=>h e.symm]
theorem zj0 (h:G[q]?=some x):(addSt G q e)[q]?=some ⟨x.st++[e],x.fl,x.rn⟩:=by
 unfold addSt
 rw [List.getElem?_modify,h]
 simp
theorem zfn (G:List PS) (q:Nat) (e:Stp):(addSt G q e).length=G.length:=by unfold addSt;rw [List.length_modify]
structure ChOk (G G':List PS) (q:Nat) (i:List Int) (x:Int) (o:List Int) (to t0:Nat):Prop where
 other:∀ p y,G[p]?=some y→p≠q→G'[p]?=some y
 self:∀ y,G[q]?=some y→G'[q]?=some ⟨y.st++[(i,x,t0)],y.fl,y.rn⟩
 new:∀ p y,G.length≤p→G'[p]?=some y→y.fl=false∧y.rn=[]∧∃ s t,y.st=[([],s,t)]∧t<G'.length
 chain:Chain (z5 G') t0 o to
 lt:t0<G'.length
 len:G'.length=G.length+o.length
theorem zC9:∀ (o:List Int) (x:Int) (G:List PS) (q:Nat) (i:List Int) (to:Nat),q<G.length→(∃ y,G[to]?=some y∧y.fl=true)→∃ t0,ChOk G (qN G q i (x::o) to) q i x o to t0
 | [],x,G,q,i,to,hq,⟨y,hy,hf⟩=>by
  unfold qN
  refine ⟨to,fun p z hz hp=>by rw [zaF hp];exact hz,fun z hz=>zj0 hz,fun p z hp hz=>?_,.nil ?_,?_,by rw [zfn];rfl⟩
  ·have:=(kad.1 hz).1
   rw [zfn] at this
   omega
  ·by_cases e:to=q
   ·subst e
    rw [jA (zj0 hy)];exact hf
   ·rw [jA (by rw [zaF e];exact hy)];exact hf
  ·rw [zfn];exact (kad.1 hy).1
 | y::o,x,G,q,i,to,hq,⟨z,hz,hf⟩=>by
  unfold qN
  obtain ⟨G1,hG1⟩:∃ G1,G1=addSt (G++[⟨[],false,[]⟩]) q (i,x,G.length):=⟨_,rfl⟩
  have hlen:G1.length=G.length+1:=by rw [hG1,zfn,kah];rfl
  have hold:∀ p y,G[p]?=some y→p≠q→G1[p]?=some y:=fun p y hp hne=>by
   rw [hG1,zaF hne,kam (kad.1 hp).1];exact hp
  have hself:∀ y,G[q]?=some y→G1[q]?=some ⟨y.st++[(i,x,G.length)],y.fl,y.rn⟩:=fun y hy=>by
   rw [hG1]
   exact zj0 (by rw [kam hq];exact hy)
  have jU:G1[G.length]?=some ⟨[],false,[]⟩:=by
   rw [hG1,zaF (by omega),kax (kab _)]
   simp
  have hto:∃ y,G1[to]?=some y∧y.fl=true:=by
   by_cases e:to=q
   ·subst e
    exact ⟨_,hself z hz,hf⟩
   ·exact ⟨z,hold to z hz e,hf⟩
  rw [←hG1]
  obtain ⟨t1,h1,h2,h3,h4,h5,h6⟩:=zC9 o y G1 G.length [] to (by omega) hto
  have hn2:=h2 _ jU
  refine ⟨G.length,fun p w hp hne=>h1 p w (hold p w hp hne) ?_,fun w hw=>h1 q _ (hself w hw) (by omega),fun p w hp hw=>?_,?_,?_,?_⟩
  ·have:=(kad.1 hp).1
   omega
  ·rcases Nat.eq_or_lt_of_le hp with e | e
   ·subst e
    rw [hn2] at hw
    cases hw
    exact ⟨rfl,rfl,y,t1,rfl,h5⟩
   ·exact h3 p w (by omega) hw
  ·exact .cons (by rw [jA hn2]) (by rw [yY hn2];rfl) h4
  ·rw [h6,hlen];omega
  ·rw [h6,hlen,kaH];omega
section
variable {F T:Nat→List Int} {n:Nat} {A:Int→Prop}
structure Lat (G G':List PS) (q:Nat):Prop where
 full:∃ x,G[q]?=some x∧x.fl=true
 other:∀ p y,G[p]?=some y→p≠q→G'[p]?=some y
 self:∀ y,G[q]?=some y→∃ m,G'[q]?=some ⟨y.st++m,y.fl,y.rn⟩
variable {G G':List PS} {p q:Nat}
theorem Lat.at_ (h:Lat G G' q) {y:PS} (hy:G[p]?=some y):∃ y',G'[p]?=some y'∧y'.fl=y.fl∧y'.rn=y.rn∧(y.fl=false→y'.st=y.st)∧∃ m,y'.st=y.st++m:=by
 by_cases e:p=q
 ·subst e
  obtain ⟨m,hm⟩:=h.self y hy
  obtain ⟨x,hx,hf⟩:=h.full
  rw [hy] at hx
  cases hx
  exact ⟨_,hm,rfl,rfl,(fun g=>by rw [hf] at g;cases g),m,rfl⟩
 ·exact ⟨y,h.other p y hy e,rfl,rfl,fun _=>rfl,[],by simp⟩
theorem Lat.chain (h:Lat G G' q) {t:Nat} {w:List Int} (hc:Chain (z5 G) t w p):Chain (z5 G') t w p:=by
 induction hc with
 | nil hf =>
  obtain ⟨x,hx,hfx⟩:=zeR hf
  obtain ⟨y,hy,g1,-⟩:=h.at_ hx
  exact .nil (by rw [jA hy,g1,hfx])
 | @cons t t' p s w hf hs _ ih =>
  obtain ⟨x,hx⟩:=zKd (q:=t) (by rw [hs];simp)
  obtain ⟨y,hy,g1,g2,g3,-⟩:=h.at_ hx
  have hfx:x.fl=false:=by rw [jA hx] at hf;exact hf
  exact .cons (by rw [jA hy,g1,hfx]) (by rw [yY hy,g3 hfx,←yY hx];exact hs) ih
variable {i:List Int}
theorem Lat.head (h:Lat G G' q) {x:PS} (hx:G[p]?=some x) {e:Stp} {o:List Int} (hh:zEu F n (z5 G) p e i o):zEu F n (z5 G') p e i o:=by
 obtain ⟨rest,q',h1,h2,h3,h4⟩:=hh
 obtain ⟨y,hy,hfy⟩:=zeR h3.full
 obtain ⟨y',hy',-,g2,-⟩:=h.at_ hy
 obtain ⟨x',hx',-,g2',-⟩:=h.at_ hx
 refine ⟨rest,q',h1,h2,h.chain h3,?_⟩
 rw [wM hy',wM hx',g2,g2',←wM hy,←wM hx];exact h4
structure TrOk (F:Nat→List Int) (n:Nat) (nd:Nd) (rw:List Int→Int):Prop where
 node:∀ w,nd w≠none↔zzL F n w
 row:∀ w,nd w≠none→(0≤rw w↔zcz F n w)
theorem TrOk.blocked {nd:Nd} {rw:List Int→Int} (h:TrOk F n nd rw) {rn:List (List Int)}:¬ziB nd rw rn i↔zoh F n (fun w=>w∈rn) i:=by
 constructor
 ·intro hb r hr v hv hp hrow
  have hn:nd (r++v)≠none:=(h.node _).2 (hrow.node (List.prefix_refl _))
  exact hb ⟨r,hr,v,hv,hp,hn,(h.row _ hn).2 hrow⟩
 ·rintro ha ⟨r,hr,v,hv,hp,hn,hg⟩
  exact ha r hr v hv hp ((h.row _ hn).1 hg)
theorem TrOk.moved {nd:Nd} {rw:List Int→Int} (h:TrOk F n nd rw) (rn:List (List Int)) (i:List Int):(fun w=>zEB nd rn i w)=zxT F n (fun w=>w∈rn) i:=by
 funext w
 apply propext
 unfold zEB zxT
 simp only [h.node]
end
theorem ziN {α:Type} (p:α→Bool):∀ l:List α,l.length=(l.filter p).length+(l.filter fun a=>!p a).length
 | []=>rfl
 | a::l=>by
  rw [List.filter_cons,List.filter_cons,kaH,ziN p l]
  cases p a<;>simp<;>omega
theorem zdx:∀ (k lo:Nat) (LL:List (List Nat)),LL.Nodup→(∀ l∈LL,l.Pairwise (·<·)∧∀ x∈l,lo≤x∧x<lo+k)→LL.length≤2 ^ k
 | 0,lo,LL,hn,h=>by
  have h0:∀ l∈LL,l=[]:=fun l hl=>by
   cases l with
   | nil=>rfl
   | cons x t =>
    have:=(h _ hl).2 x (by simp)
    omega
  match LL,hn,h0 with
  | [],_,_=>simp
  | [a],_,_=>simp
  | a::b::t,hn,h0 =>
   have h1:=h0 a (by simp)
   have h2:=h0 b (by simp)
   rw [h1,h2] at hn
   simp at hn
 | k+1,lo,LL,hn,h=>by
  have e:LL.length=(LL.filter fun l=>l.head? == some lo).length+(LL.filter fun l=>!(l.head? == some lo)).length:=by
   exact ziN _ LL
  have hA:(LL.filter fun l=>l.head? == some lo).length≤2 ^ k:=by
   have e2:((LL.filter fun l=>l.head? == some lo).map List.tail).length=(LL.filter fun l=>l.head? == some lo).length:=kai ..
   rw [←e2]
   have hcons:∀ l∈LL.filter fun l=>l.head? == some lo,∃ t,l=lo::t∧l∈LL:=fun l hl=>by
    obtain ⟨h1,h2⟩:=List.mem_filter.1 hl
    cases l with
    | nil=>simp at h2
    | cons x t =>
     simp at h2
     exact ⟨t,by rw [h2],h1⟩
   refine zdx k (lo+1) _ ?_ fun l hl=>?_
   ·refine List.pairwise_map.2 ?_
    refine List.Pairwise.imp_of_mem ?_ (List.Pairwise.filter _ hn)
    intro a b ha hb hne e
    obtain ⟨t,rfl,-⟩:=hcons a ha
    obtain ⟨t',rfl,-⟩:=hcons b hb
    exact hne (by rw [show t=t' from e])
   ·obtain ⟨l',hl',rfl⟩:=kav.1 hl
    obtain ⟨t,rfl,hm⟩:=hcons l' hl'
    obtain ⟨g1,g2⟩:=h _ hm
    rw [List.pairwise_cons] at g1
    refine ⟨g1.2,fun x hx=>?_⟩
    have:=g1.1 x hx
    have:=g2 x (by simp [show x∈t from hx])
    omega
  have hB:(LL.filter fun l=>!(l.head? == some lo)).length≤2 ^ k:=by
   refine zdx k (lo+1) _ (List.Pairwise.filter _ hn) fun l hl=>?_
   obtain ⟨h1,h2⟩:=List.mem_filter.1 hl
   obtain ⟨g1,g2⟩:=h _ h1
   refine ⟨g1,fun x hx=>?_⟩
   cases l with
   | nil=>cases hx
   | cons y t =>
    have hy:y≠lo:=by simpa using h2
    rw [List.pairwise_cons] at g1
    have b1:=g2 y (by simp)
    have b2:=g2 x hx
    rcases kaj.1 hx with rfl | hx
    ·omega
    ·have:=g1.1 x hx
     omega
  rw [e,Nat.pow_succ]
  omega
def nfc (L:List Bool):Nat:=L.countP (fun b=>!b)
def fcn (L:List Bool):Nat:=L.countP id
theorem zMP (L:List Bool):nfc L+fcn L=L.length:=by
 unfold nfc fcn
 induction L with
 | nil=>rfl
 | cons b L ih =>
  rw [List.countP_cons,List.countP_cons,kaH]
  cases b<;>simp<;>omega
theorem zH1 (L M:List Bool):nfc (L++M)=nfc L+nfc M:=List.countP_append
theorem zGd (L M:List Bool):fcn (L++M)=fcn L+fcn M:=List.countP_append
theorem zL6 (k:Nat):nfc (List.replicate k false)=k:=by
 unfold nfc
 rw [List.countP_replicate];simp
theorem zkg (L:List Bool) (q:Nat):fcn (L.take q)≤fcn L:=by
 have:=zGd (L.take q) (L.drop q)
 rw [List.take_append_drop] at this
 omega
theorem zb2 {L:List Bool} {q:Nat} {b:Bool} (h:L[q]?=some b):fcn (L.take (q+1))=fcn (L.take q)+if b then 1 else 0:=by
 rw [List.take_add_one,h,zGd]
 cases b<;>rfl
theorem zyo:∀ (o:List Int) (x:Int) (G:List PS) (q:Nat) (i:List Int) (to:Nat),(qN G q i (x::o) to).map PS.fl=G.map PS.fl++List.replicate o.length false
 | [],x,G,q,i,to=>by
  unfold qN
  rw [show List.replicate ([]:List Int).length false=[] from rfl,List.append_nil]
  apply kaG
  intro j
  unfold addSt
  rw [kal,kal,List.getElem?_modify]
  cases G[j]? with
  | none=>rfl
  | some y=>by_cases h:q=j<;>simp [h]
 | y::o,x,G,q,i,to=>by
  unfold qN
  rw [zyo o y]
  have:(addSt (G++[⟨[],false,[]⟩]) q (i,x,G.length)).map PS.fl=G.map PS.fl++[false]:=by
   apply kaG
   intro j
   unfold addSt
   rw [kal,List.getElem?_modify]
   have e:(G.map PS.fl++[false])=(G++[(⟨[],false,[]⟩:PS)]).map PS.fl:=by rw [kaE];rfl
   rw [e,kal]
   cases (G++[(⟨[],false,[]⟩:PS)])[j]? with
   | none=>rfl
   | some y=>by_cases h:q=j<;>simp [h]
  rw [this,kat]
  rfl
theorem zHO {b:S} {nd:Nd} {rw:List Int→Int} {idf:List Int→Nat} {c:Nat} {G:List PS} {nl:LG (List Nat)} (hT:TreeF b nd rw idf c) (h1:idf []=1) (hroot:nd []≠none) (hN:NamesOK nd idf G nl) (hR:zFU G):fcn (G.map PS.fl)≤2 ^ (c - 1):=by
 have e:fcn (G.map PS.fl)=((G.filter PS.fl).map fun x=>x.rn.map idf).length:=by
  unfold fcn
  rw [List.countP_map,kai,List.countP_eq_length_filter]
  rfl
 rw [e]
 have hid:∀ x∈G,∀ w∈x.rn,2≤idf w∧idf w≤c:=fun x hx w hw=>by
  have hn:=hN.nodes x hx w hw
  obtain ⟨p,hp⟩:=kaz.1 hn
  obtain ⟨g1,g2,-⟩:=hT.ids.1 w p.1 p.2 hp
  have:idf w≠1:=fun e=>(hR x hx).2 w hw (hT.ids.2 w [] hn hroot (by rw [e,h1]))
  omega
 refine zdx (c - 1) 2 _ ?_ fun l hl=>?_
 ·refine List.pairwise_map.2 ?_
  rw [List.pairwise_iff_getElem]
  intro i j hi hj hij hne
  -- places in G
  have key:∀ (G:List PS) (i:Nat) (j:Nat) (hi:i<(G.filter PS.fl).length) (hj:j<(G.filter PS.fl).length),i<j→∃ p q:Nat,p<q∧G[p]?=some (G.filter PS.fl)[i]∧G[q]?=some (G.filter PS.fl)[j]:=by
   intro G
   induction G with
   | nil=>intro i j hi;simp at hi
   | cons x G ih =>
    intro i j hi hj hij
    cases hf:x.fl with
    | false =>
     have e:(x::G).filter PS.fl=G.filter PS.fl:=by rw [List.filter_cons,hf];rfl
     simp only [e] at hi hj ⊢
     obtain ⟨p,q,g1,g2,g3⟩:=ih i j hi hj hij
     exact ⟨p+1,q+1,by omega,by simpa using g2,by simpa using g3⟩
    | true =>
     have e:(x::G).filter PS.fl=x::G.filter PS.fl:=by rw [List.filter_cons,hf];rfl
     simp only [e] at hi hj ⊢
     cases j with
     | zero=>omega
     | succ j =>
      cases i with
      | zero =>
       have hj':j<(G.filter PS.fl).length:=by simpa using hj
       obtain ⟨q,hq⟩:=List.getElem?_of_mem ((List.mem_filter.1 (kaI hj')).1)
       exact ⟨0,q+1,by omega,rfl,by simpa using hq⟩
      | succ i =>
       obtain ⟨p,q,g1,g2,g3⟩:=ih i j (by simpa using hi) (by simpa using hj) (by omega)
       exact ⟨p+1,q+1,by omega,by simpa using g2,by simpa using g3⟩
  obtain ⟨p,q,hpq,hp,hq⟩:=key G i j hi hj hij
  have f1:(G.filter PS.fl)[i].fl=true:=(List.mem_filter.1 (kaI hi)).2
  have f2:(G.filter PS.fl)[j].fl=true:=(List.mem_filter.1 (kaI hj)).2
  have n1:=hN.to p _ hp f1
  have n2:=hN.to q _ hq f2
  rw [hne,n2] at n1
  have:=zae (Option.some.inj n1)
  omega
 ·obtain ⟨x,hx,rfl⟩:=kav.1 hl
  obtain ⟨g1,g2⟩:=List.mem_filter.1 hx
  refine ⟨List.pairwise_map.2 (hN.sorted x g1 g2),fun y hy=>?_⟩
  obtain ⟨w,hw,rfl⟩:=kav.1 hy
  have:=hid x g1 w hw
  omega
structure BI (F T:Nat→List Int) (n:Nat) (A:Int→Prop) (G:List PS) (q:Nat) (dn:List Int→List Int→Prop) (cn m d:Nat):Prop where
 start:∃ x,G[0]?=some x∧x.fl=true∧x.rn=[]
 sound:∀ p x,G[p]?=some x→x.fl=true→∀ e∈x.st,∃ i o,Tok F T n A i o∧zoh F n (fun w=>w∈x.rn) i∧zEu F n (z5 G) p e i o
 compl:∀ p x,p<q→G[p]?=some x→x.fl=true→∀ i o,Tok F T n A i o→zoh F n (fun w=>w∈x.rn) i→∃ e∈x.st,zEu F n (z5 G) p e i o
 done:∀ x,G[q]?=some x→x.fl=true→∀ i o,dn i o→zoh F n (fun w=>w∈x.rn) i→∃ e∈x.st,zEu F n (z5 G) q e i o
 fresh:∀ p x,q<p→G[p]?=some x→x.fl=true→x.st=[]
 here:∀ x,G[q]?=some x→x.fl=true→x.st.length≤m
 stl:∀ p x,G[p]?=some x→p<q∨x.fl=false→x.st.length≤12
 wf:∀ x∈G,∀ e∈x.st,e.2.2<G.length
 inw:∀ x∈G,∀ e∈x.st,e.1.length≤13
 runs:zFU G
 cnt:nfc (G.map PS.fl)≤fcn ((G.map PS.fl).take q)*d+cn
section
variable {F T:Nat→List Int} {n:Nat} {A:Int→Prop} {nd:Nd} {rw:List Int→Int} {idf:List Int→Nat}
theorem BI.token (hTr:TrOk F n nd rw) {G:List PS} {q:Nat} {dn:List Int→List Int→Prop} {cn m d:Nat} (h:BI F T n A G q dn cn m d) {x:PS} (hx:G[q]?=some x) (hf:x.fl=true) {i o:List Int} (htok:Tok F T n A i o) (hi:i≠[]) (hi13:i.length≤13) (ho:o≠[])
  {G':List PS} (hR:zNZ nd rw G x.rn q i o G'):BI F T n A G' q (fun i' o'=>dn i' o'∨(i'=i∧o'=o)) (cn+(o.length - 1)) (m+1) d∧(∃ x',G'[q]?=some x'∧x'.fl=true∧x'.rn=x.rn)∧G.length≤G'.length:=by
 rcases hR with ⟨hb,rfl⟩ | ⟨hnb,G1,to,y,hG1,hto,hyf,hym,rfl⟩
 ·refine ⟨⟨h.start,h.sound,h.compl,fun z hz hzf i' o' hd ha=>?_,h.fresh,fun z hz hzf=>Nat.le_succ_of_le (h.here z hz hzf),h.stl,h.wf,h.inw,h.runs,kar h.cnt (by omega)⟩,⟨x,hx,hf,rfl⟩,kab _⟩
  rcases hd with hd | ⟨rfl,rfl⟩
  ·exact h.done z hz hzf i' o' hd ha
  ·rw [hx] at hz
   cases hz
   exact absurd hb (hTr.blocked.2 ha)
 ·obtain ⟨a,o',rfl⟩:∃ a o',o=a::o':=by
   cases o with
   | nil=>exact absurd rfl ho
   | cons a o'=>exact ⟨a,o',rfl⟩
  have hql:q<G.length:=(kad.1 hx).1
  have hold1:∀ p z,G[p]?=some z→G1[p]?=some z:=fun p z hz=>by
   rcases hG1 with rfl | rfl
   ·exact hz
   ·rw [kam (kad.1 hz).1];exact hz
  have hl1:G.length≤G1.length:=by
   rcases hG1 with rfl | rfl
   ·exact kab _
   ·rw [kah];omega
  obtain ⟨t0,C⟩:=zC9 o' a G1 q i to (by omega) ⟨y,hto,hyf⟩
  have hfls:=zyo o' a G1 q i to
  generalize hG':qN G1 q i (a::o') to=G' at C hfls
  have hlen:G'.length=G1.length+o'.length:=C.len
  have hlat:Lat G G' q:=⟨⟨x,hx,hf⟩,fun p z hz hne=>C.other p z (hold1 p z hz) hne,fun z hz=>⟨_,C.self z (hold1 q z hz)⟩⟩
  have hlat1:Lat G1 G' q:=⟨⟨x,hold1 q x hx,hf⟩,C.other,fun z hz=>⟨_,C.self z hz⟩⟩
  have cls:∀ p z,G'[p]?=some z→(∃ z0,G[p]?=some z0∧z.fl=z0.fl∧z.rn=z0.rn∧(p≠q→z=z0)∧(p=q→z.st=z0.st++[(i,a,t0)]))∨(G.length≤p∧z.st=[]∧z.fl=true∧z.rn=y.rn)∨(G.length≤p∧z.fl=false∧z.rn=[]∧∃ s t,z.st=[([],s,t)]∧t<G'.length):=fun p z hz=>by
   rcases kaq p G.length with g | g
   ·left
    refine ⟨G[p],kac g,?_⟩
    by_cases e:p=q
    ·subst e
     have:=C.self _ (hold1 p _ (kac g))
     rw [hz] at this
     cases this
     exact ⟨rfl,rfl,fun h=>absurd rfl h,fun _=>rfl⟩
    ·have:=C.other p _ (hold1 p _ (kac g)) e
     rw [hz] at this
     cases this
     exact ⟨rfl,rfl,fun _=>rfl,fun h=>absurd h e⟩
   ·rcases kaq p G1.length with g2 | g2
    ·right;left
     rcases hG1 with rfl | hG1
     ·omega
     ·have hp:p=G.length:=by rw [hG1,kah] at g2;simp at g2;omega
      have h1:G1[p]?=some ⟨[],true,y.rn⟩:=by rw [hG1,hp,kax (kab _)];simp
      have:=C.other p _ h1 (by omega)
      rw [hz] at this
      cases this
      exact ⟨g,rfl,rfl,rfl⟩
    ·right;right
     exact ⟨g,C.new p z g2 hz⟩
  have hx':=C.self x (hold1 q x hx)
  obtain ⟨y',hy',-,hyr,-⟩:=hlat1.at_ hto
  have hmv:(fun w=>w∈y.rn)=zxT F n (fun w=>w∈x.rn) i:=by
   rw [←hTr.moved]
   funext w
   exact propext (hym w)
  have hhead:zEu F n (z5 G') q (i,a,t0) i (a::o'):=by
   refine ⟨o',to,rfl,rfl,C.chain,?_⟩
   rw [wM hy',wM hx',hyr];exact hmv
  have hallow:=hTr.blocked.1 hnb
  refine ⟨⟨?_,fun p z hz hzf e he=>?_,fun p z hp hz hzf i' o2 ht ha=>?_,fun z hz hzf i' o2 hd ha=>?_,fun p z hp hz hzf=>?_,fun z hz hzf=>?_,fun p z hz hcond=>?_,fun z hz e he=>?_,fun z hz e he=>?_,fun z hz=>?_,?_⟩,⟨_,hx',hf,rfl⟩,by omega⟩
  ·obtain ⟨z,hz,hzf,hzr⟩:=h.start
   obtain ⟨z',g1,g2,g3,-⟩:=hlat.at_ hz
   exact ⟨z',g1,g2.trans hzf,g3.trans hzr⟩
  ·rcases cls p z hz with ⟨z0,g1,g2,g3,g4,g5⟩ | ⟨g1,g2,g3,g4⟩ | ⟨g1,g2,-⟩
   ·rw [g3]
    by_cases e1:p=q
    ·subst e1
     rw [hx] at g1
     cases g1
     rw [g5 rfl] at he
     rcases kak.1 he with he | he
     ·obtain ⟨i',o2,k1,k2,k3⟩:=h.sound p x hx hf e he
      exact ⟨i',o2,k1,k2,hlat.head hx k3⟩
     ·rcases kag.1 he with rfl
      exact ⟨i,a::o',htok,hallow,hhead⟩
    ·have:=g4 e1
     subst this
     obtain ⟨i',o2,k1,k2,k3⟩:=h.sound p z g1 hzf e he
     exact ⟨i',o2,k1,k2,hlat.head g1 k3⟩
   ·rw [g2] at he;cases he
   ·rw [hzf] at g2;cases g2
  ·rcases cls p z hz with ⟨z0,g1,g2,g3,g4,-⟩ | ⟨g1,-⟩ | ⟨g1,-⟩
   ·have:=g4 (by omega)
    subst this
    obtain ⟨e,he,k⟩:=h.compl p z hp g1 hzf i' o2 ht ha
    exact ⟨e,he,hlat.head g1 k⟩
   ·omega
   ·omega
  ·rw [hx'] at hz
   cases hz
   rcases hd with hd | ⟨rfl,rfl⟩
   ·obtain ⟨e,he,k⟩:=h.done x hx hf i' o2 hd ha
    exact ⟨e,List.mem_append_left _ he,hlat.head hx k⟩
   ·exact ⟨_,List.mem_append_right _ (kag.2 rfl),hhead⟩
  ·rcases cls p z hz with ⟨z0,g1,g2,g3,g4,-⟩ | ⟨g1,g2,-⟩ | ⟨g1,g2,-⟩
   ·have:=g4 (by omega)
    subst this
    exact h.fresh p z hp g1 hzf
   ·exact g2
   ·rw [hzf] at g2;cases g2
  ·rw [hx'] at hz
   cases hz
   rw [kah]
   have:=h.here x hx hf
   simp only [kaH,List.length_nil]
   omega
  ·rcases cls p z hz with ⟨z0,g1,g2,g3,g4,-⟩ | ⟨g1,g2,-⟩ | ⟨g1,-,-,s,t,g2,-⟩
   ·by_cases e:p=q
    ·subst e
     rw [hx] at g1
     cases g1
     rw [g2,hf] at hcond
     rcases hcond with hc | hc
     ·omega
     ·cases hc
    ·have:=g4 e
     subst this
     exact h.stl p z g1 hcond
   ·rw [g2];simp
   ·rw [g2];simp
  ·obtain ⟨p,hp⟩:=List.getElem?_of_mem hz
   rcases cls p z hp with ⟨z0,g1,g2,g3,g4,g5⟩ | ⟨g1,g2,-⟩ | ⟨g1,-,-,s,t,g2,g3⟩
   ·have hm:=kae g1
    by_cases e1:p=q
    ·rw [g5 e1] at he
     rcases kak.1 he with he | he
     ·have:=h.wf z0 hm e he;omega
     ·rcases kag.1 he with rfl
      exact C.lt
    ·have:=g4 e1
     subst this
     have:=h.wf z hm e he;omega
   ·rw [g2] at he;cases he
   ·rw [g2] at he
    rcases kag.1 he with rfl
    exact g3
  ·obtain ⟨p,hp⟩:=List.getElem?_of_mem hz
   rcases cls p z hp with ⟨z0,g1,g2,g3,g4,g5⟩ | ⟨g1,g2,-⟩ | ⟨g1,-,-,s,t,g2,g3⟩
   ·have hm:=kae g1
    by_cases e1:p=q
    ·rw [g5 e1] at he
     rcases kak.1 he with he | he
     ·exact h.inw z0 hm e he
     ·rcases kag.1 he with rfl
      exact hi13
    ·have:=g4 e1
     subst this
     exact h.inw z hm e he
   ·rw [g2] at he;cases he
   ·rw [g2] at he
    rcases kag.1 he with rfl
    simp
  ·obtain ⟨p,hp⟩:=List.getElem?_of_mem hz
   rcases cls p z hp with ⟨z0,g1,g2,g3,-⟩ | ⟨g1,-,-,g3⟩ | ⟨g1,-,g3,-⟩
   ·rw [g3];exact h.runs z0 (kae g1)
   ·rw [g3]
    obtain ⟨r1,r2⟩:=h.runs x (kae hx)
    have hil:=List.length_pos_iff.2 hi
    constructor
    ·intro u hu w hw e
     rcases (hym u).1 hu with ⟨r,hr,rfl,-⟩ | ⟨rfl,-⟩<;>rcases (hym w).1 hw with ⟨r',hr',rfl,-⟩ | ⟨rfl,-⟩
     ·rw [kah,kah] at e
      rw [r1 r hr r' hr' (by omega)]
     ·rw [kah] at e
      exact absurd (kaw.1 (by omega)) (r2 r hr)
     ·rw [kah] at e
      exact absurd (kaw.1 (by omega)) (r2 r' hr')
     ·rfl
    ·intro u hu e
     rcases (hym u).1 hu with ⟨r,hr,rfl,-⟩ | ⟨rfl,-⟩
     ·exact hi (List.append_eq_nil_iff.1 e).2
     ·exact hi e
   ·rw [g3]
    constructor
    ·intro u hu;cases hu
    ·intro u hu;cases hu
  ·rw [hfls,zH1,zL6]
   have e1:nfc (G1.map PS.fl)=nfc (G.map PS.fl):=by
    rcases hG1 with rfl | rfl
    ·rfl
    ·rw [kaE,zH1];rfl
   have e2:(G1.map PS.fl++List.replicate o'.length false).take q=(G.map PS.fl).take q:=by
    rw [List.take_append_of_le_length (by rw [kai];omega)]
    rcases hG1 with rfl | rfl
    ·rfl
    ·rw [kaE,List.take_append_of_le_length (by rw [kai];omega)]
   rw [e1,e2]
   have:=h.cnt
   simp only [kaH]
   omega
end
section
variable {F T:Nat→List Int} {n:Nat} {A:Int→Prop}
variable {G:List PS} {q:Nat} {x:PS}
theorem zz0 (h:G[q]?=some x):(G.map PS.fl)[q]?=some x.fl:=by rw [kal,h];rfl
variable {cn d m:Nat}
theorem BI.next {dn:List Int→List Int→Prop} (h:BI F T n A G q dn cn m d) (hx:G[q]?=some x) (hf:x.fl=true) (hd:∀ i o,Tok F T n A i o→dn i o) (hm:m≤12) (hc:cn≤d):BI F T n A G (q+1) (fun _ _=>False) 0 0 d:=by
 refine ⟨h.start,h.sound,fun p z hp hz hzf i o ht ha=>?_,fun _ _ _ _ _ hd=>hd.elim,fun p z hp=>h.fresh p z (by omega),fun z hz hzf=>by rw [h.fresh _ z (by omega) hz hzf];exact kab _,fun p z hz hcond=>?_,h.wf,h.inw,h.runs,?_⟩
 ·rcases kaq p q with g | g
  ·exact h.compl p z g hz hzf i o ht ha
  ·obtain rfl:p=q:=by omega
   exact h.done z hz hzf i o (hd i o ht) ha
 ·by_cases e:z.fl=true
  ·rcases hcond with hcond | hcond
   ·rcases kaq p q with g | g
    ·exact h.stl p z hz (.inl g)
    ·obtain rfl:p=q:=by omega
     exact kar (h.here z hz e) hm
   ·rw [e] at hcond;cases hcond
  ·exact h.stl p z hz (.inr (by simpa using e))
 ·rw [zb2 (zz0 hx),hf]
  have:=h.cnt
  simp only [if_true,Nat.add_mul]
  omega
theorem BI.skip (h:BI F T n A G q (fun _ _=>False) 0 0 d) (hx:G[q]?=some x) (hf:x.fl=false):BI F T n A G (q+1) (fun _ _=>False) 0 0 d:=by
 refine ⟨h.start,h.sound,fun p z hp hz hzf i o ht ha=>?_,fun _ _ _ _ _ hd=>hd.elim,fun p z hp=>h.fresh p z (by omega),fun z hz hzf=>by rw [h.fresh _ z (by omega) hz hzf];exact kab _,fun p z hz hcond=>?_,h.wf,h.inw,h.runs,?_⟩
 ·rcases kaq p q with g | g
  ·exact h.compl p z g hz hzf i o ht ha
  ·obtain rfl:p=q:=by omega
   rw [hx] at hz
   cases hz
   rw [hf] at hzf;cases hzf
 ·rcases kaq p q with g | g
  ·exact h.stl p z hz (.inl g)
  ·rcases hcond with hcond | hcond
   ·obtain rfl:p=q:=by omega
    rw [hx] at hz
    cases hz
    exact h.stl _ _ hx (.inr hf)
   ·exact h.stl p z hz (.inr hcond)
 ·rw [zb2 (zz0 hx),hf]
  have:=h.cnt
  simp only [Bool.false_eq_true,if_false]
  omega
theorem BI.first {y:PS} (hy:y.fl=true) (hst:y.st=[]) (hrn:∀ w,¬w∈y.rn) (d:Nat):BI F T n A [y] 0 (fun _ _=>False) 0 0 d:=by
 have hr:y.rn=[]:=List.eq_nil_iff_forall_not_mem.2 hrn
 have key:∀ p z,[y][p]?=some z→p=0∧z=y:=fun p z hz=>by
  cases p with
  | zero=>simp at hz;exact ⟨rfl,hz.symm⟩
  | succ p=>simp at hz
 refine ⟨⟨y,rfl,hy,hr⟩,fun p x hx _ e he=>?_,fun p x hp=>by omega,fun _ _ _ _ _ hd=>hd.elim,fun p x hp hx=>?_,fun x hx _=>?_,fun p x hx _=>?_,fun x hx e he=>?_,fun x hx e he=>?_,fun x hx=>?_,?_⟩
 ·obtain ⟨-,rfl⟩:=key p x hx
  rw [hst] at he;cases he
 ·have:=(key p x hx).1;omega
 ·obtain ⟨-,rfl⟩:=key 0 x hx
  rw [hst];exact kab _
 ·obtain ⟨-,rfl⟩:=key p x hx
  rw [hst];exact Nat.zero_le _
 ·rcases kag.1 hx with rfl
  rw [hst] at he;cases he
 ·rcases kag.1 hx with rfl
  rw [hst] at he;cases he
 ·rcases kag.1 hx with rfl
  rw [hr]
  constructor
  ·intro u hu;cases hu
  ·intro u hu;cases hu
 ·simp [nfc,hy]
theorem BI.ok (h:BI F T n A G G.length (fun _ _=>False) 0 0 d):GOk F T n A (z5 G)∧∀ x∈G,x.st.length≤12:=by
 refine ⟨⟨?_,fun q hq e he=>?_,fun q hq i o ht ha=>?_⟩,fun x hx=>?_⟩
 ·obtain ⟨x,hx,h1,h2⟩:=h.start
  refine ⟨by rw [jA hx,h1],?_⟩
  rw [wM hx,h2]
  funext w
  simp
 ·obtain ⟨x,hx,hf⟩:=zeR hq
  rw [yY hx] at he
  rw [wM hx]
  exact h.sound q x hx hf e he
 ·obtain ⟨x,hx,hf⟩:=zeR hq
  rw [wM hx] at ha
  rw [yY hx]
  exact h.compl q x (kad.1 hx).1 hx hf i o ht ha
 ·obtain ⟨p,hp⟩:=List.getElem?_of_mem hx
  exact h.stl p x hp (.inl (kad.1 hp).1)
theorem BI.size {dn:List Int→List Int→Prop} {k:Nat} (h:BI F T n A G q dn cn m d) (hcur:fcn ((G.map PS.fl).take q)*d+cn≤fcn (G.map PS.fl)*d) (hfull:fcn (G.map PS.fl)≤2 ^ k) (hk:k+d≤14):G.length≤16384:=by
 have h1:=zMP (G.map PS.fl)
 rw [kai] at h1
 have h2:=h.cnt
 have h3:fcn (G.map PS.fl)*(d+1)≤2 ^ k*2 ^ d:=Nat.mul_le_mul hfull (Nat.lt_two_pow_self)
 rw [←Nat.pow_add] at h3
 have h4:2 ^ (k+d)≤2 ^ 14:=Nat.pow_le_pow_right (by omega) hk
 rw [Nat.mul_add] at h3
 omega
theorem BI.cur (hx:G[q]?=some x) (hf:x.fl=true) (hc:cn≤d):fcn ((G.map PS.fl).take q)*d+cn≤fcn (G.map PS.fl)*d:=by
 have h1:=zb2 (zz0 hx)
 rw [hf] at h1
 have h2:=zkg (G.map PS.fl) (q+1)
 have h3:(fcn ((G.map PS.fl).take q)+1)*d≤fcn (G.map PS.fl)*d:=kaL _ (by simp only [if_true] at h1;omega)
 rw [Nat.add_mul] at h3
 omega
end
theorem zCk (cst:Bool) (a:Go.Ev.K) (v o:Nat) (c:V→Go.Ev.A):zk ⟨1,[]⟩ cst .neq (.ptr a v o) (.nil 0) c=c (.bool true):=rfl
theorem zDv (cst:Bool) (c:V→Go.Ev.A):zk ⟨1,[]⟩ cst .neq (.nil 0) (.nil 0) c=c (.bool false):=rfl
theorem zBp:zL Tryz.prog KB 54:=by
 refine zgs (L:=ztf ChX.pre ChX.post) (X:=GX × (List Int→Int) × (List Int→Nat) × Nat × Nat × PS × V × List Int × V × List Int × V) rfl ?_
 rintro ⟨⟨b,nd,gk,nm,G,nl,nc⟩,rw_,idf,c,q,p,inV,i,outV,o,nV⟩ a s ⟨rfl,hG,hT,hN,hRu,hSh,hq,hfl,hin,hout,hi,ho,hnV,hlim,hpl⟩
 simp only at hG hT hN hRu hq hin hout hnV hlim
 have hCl:=qV (zQ (L:=ztf ChX.pre ChX.post) zI4) (X:=S × V × List V) rfl
 have hSt:=qV (zQ (L:=ztf ChX.pre ChX.post) zD9) (X:=GX × (List Int→Int) × (List Int→Nat) × Nat × V × List (List Int) × (Go.Ev.K→Prop)) rfl
 have hL0:=zMi ChX.pre ChX.post
 have hL6:=zMb
 generalize Rk Tryz.prog _ _=r at hCl hSt hL0 hL6 ⊢
 obtain ⟨D,vS,vF,vR,el,hD,hDG,-⟩:=hG
 simp only at hD hDG hSh
 obtain ⟨d,hd,hdp⟩:∃ d,D[q]?=some d∧d.p=p:=by
  rw [←hDG,kal] at hq
  cases hh:D[q]? with
  | none=>rw [hh] at hq;cases hq
  | some d=>rw [hh] at hq;exact ⟨d,rfl,Option.some.inj hq⟩
 have hdm:d∈D:=kae hd
 have hpm:p∈G:=kae hq
 have hrn:d.rn=p.rn:=by rw [←hdp];rfl
 have hEb:=hD.ext
 have hnodes:∀ w∈p.rn,nd w≠none:=hN.nodes p hpm
 have hsorted:=hN.sorted p hpm hfl
 have hid:∀ w,nd w≠none→idf w<100:=fun w hw=>by
  obtain ⟨x,hx⟩:=kaz.1 hw
  exact (hT.at_ hEb (a:=x.1) (m:=x.2) hx).2.2
 have hlen100:p.rn.length≤100:=by
  have h1:(p.rn.map idf).length=p.rn.length:=kai ..
  rw [←h1]
  refine zE4 (List.pairwise_map.2 hsorted) fun x hx=>?_
  obtain ⟨w,hw,rfl⟩:=kav.1 hx
  exact hid w (hnodes w hw)
 have hzr:Gz 66 1 b s d.rv ((p.rn.map (ndV nd)).map fun x=>[x]):=by
  have:=hD.runs d hdm
  rw [hrn] at this
  rw [List.map_map];exact this
 have hqz:(D.map fun d=>[d.rv])[q]?=some [d.rv]:=by rw [kal,hd];rfl
 have hlR:(D.map fun d=>[d.rv]).length=D.length:=kai ..
 have hql:q<D.length:=(kad.1 hd).1
 have l1:∀ k:V→S→Go.Ev.A,zd false 1 (.ptr gk 0 2) s k=k vR s:=fun k=>zw hD.row 2 rfl (by omega) (by simpa using hD.zR.nbad) k
 have l2:∀ kk (f:V→Go.Ev.A),zg 1 vR (iv kk (q:Int)) f=f (jy vR q):=fun kk f=>by rw [hD.zR.idx (by omega),kaK]
 have l3:∀ k:V→S→Go.Ev.A,zd false 1 (jy vR q) s k=k d.rv s:=fun k=>hD.zR.load1 hqz (hD.runs d hdm).nbad k
 have hbad:∀ x∈p.rn.map (ndV nd),x≠.bad:=fun x hx=>by
  obtain ⟨w,hw,rfl⟩:=kav.1 hx
  obtain ⟨y,hy⟩:=kaz.1 (hnodes w hw)
  unfold ndV
  rw [hy]
  intro e
  cases e
 obtain ⟨rv0,s1,e1,hE1,hR1⟩:=hCl (b,d.rv,p.rn.map (ndV nd)) _ s ⟨rfl,hzr,hbad,by rw [kai];omega⟩
 have hR1':zFI s s1 nd rv0 (yZ nd p.rn []):=by
  rw [zIc hnodes]
  rcases hR1 with h | ⟨h1,h2⟩
  ·rw [List.map_map] at h;exact .inl h
  ·exact .inr ⟨List.map_eq_nil_iff.1 h1,h2⟩
 have hG0:GR b s nd gk nm G nl nc (fun c=>c.toNat<s.nx.toNat):=⟨D,vS,vF,vR,el,hD,hDG,fun c ⟨d',hd',hc⟩=>((hD.runs d' hd').blk hc).2⟩
 have hil:i.length=zb inV:=by rw [←hin.2.1,zA]
 have hinl:∀ f:V→Go.Ev.A,zz inV f=f (iv .i64 (i.length:Int)):=fun f=>by rw [hin.1.1.len,hil]
 have hol:o.length=zb outV:=by rw [←hout.2.1,zA]
 have houl:∀ f:V→Go.Ev.A,zz outV f=f (iv .i64 (o.length:Int)):=fun f=>by rw [hout.1.1.len,hol]
 generalize hF:(fnC zj 54).run r _ _=F0
 simp -implicitDefEqProofs [jV,l1,l2,l3,e1,hinl,-Int.natCast_add] at hF
 generalize hA:zew.run r _ _=A1 at hF
 have:=hA▸hL0 ⟨b,nd,rw_,idf,c,s,fun j=>if j=0 then .ptr gk 0 0 else if j=1 then iv .i64 (q:Int) else if j=2 then inV else if j=3 then outV else nV,p.rn,i,.nil 1,0⟩ _ s1 ⟨⟨by simp,by simp,by simp,by simp,by simp,by simp⟩,⟨hEb,hT,hE1,hnodes,hlen100⟩,
  by simp;exact hin.1,by simp;exact hin.2.1,by simp,0,by simp,Nat.zero_le _,by simp;exact hR1',fun h=>absurd h (by omega),fun r _ v hv hp=>absurd (List.prefix_nil.1 (by simpa using hp)) hv⟩
 rcases this with ⟨hfree,tm',s2,rfl,⟨k0,k1,k2,k3,k4,k240⟩,hE2,hz⟩ | ⟨hfree,tm',s2,rfl,k240,hE2⟩
 ·simp at k0 k1 k2 k3 k4
  simp only at hfree hE2 hz
  have hz:=hz hi
  obtain ⟨hnd,hl12,hnn⟩:=zLf hsorted (hRu p hpm).1 (hRu p hpm).2 hSh hfree hi
  -- the runs, with the token's own yc
  have hrun:∃ rvF s3,(∀ {f:T→S→Go.Ev.A},(∀ tm,gp 10 tm=rvF→gp 0 tm=.ptr gk 0 0→gp 1 tm=iv .i64 (q:Int)→gp 2 tm=inV→gp 3 tm=outV→gp 240 tm=.bad→True)→True)∧Ext s s3∧Gz 66 1 s s3 rvF (y8 nd (zch nd p.rn i)) ∧
    ((nV=.nil 0∧s3=s2∧rvF=gp 10 tm')∨(∃ pa,nV=.ptr pa 0 0∧∀ k:V→S→Go.Ev.A,zP 66 1 (gp 10 tm') (.sl s2.nx 0 0 1 1) (zN s2 (.row [.ptr pa 0 0] 1 66 false 0 0 0)) k=k rvF s3)):=by
   rcases hnV with ⟨rfl,hno⟩ | ⟨hno,rfl⟩
   ·refine ⟨gp 10 tm',s2,fun _=>trivial,hE2,?_,.inl ⟨rfl,rfl,rfl⟩⟩
    have:zch nd p.rn i=yZ nd p.rn i:=by unfold zch;rw [hno];simp
    rw [this];exact hz
   ·obtain ⟨⟨pa,pm⟩,hp⟩:=kaz.1 hno
    have hv:ndV nd i=.ptr pa 0 0:=by unfold ndV;rw [hp]
    have hl:(y8 nd (yZ nd p.rn i)).length≤100:=by rw [kai];exact kar (zyJ _ _ _) hlen100
    obtain ⟨nv,s3,ap,hz3,hnx,hk,hbk⟩:=hz.app1 hE2.nx Nat.one_pos (x:=[.ptr pa 0 0]) (fun y hy=>by rw [kag.1 hy];intro e;cases e) rfl (by omega)
    refine ⟨nv,s3,fun _=>trivial,ext_of (b:=s) hE2 hnx (D:=fun c=>zC (gp 10 tm')=some c) (fun c hc hd=>hk c hc hd) (fun c hc=>(hz.blk hc).1),?_,.inr ⟨pa,hv,ap⟩⟩
    have:y8 nd (zch nd p.rn i)=y8 nd (yZ nd p.rn i)++[[.ptr pa 0 0]]:=by
     unfold zch
     rw [hp]
     simp only [Option.isSome_some,if_true,y8,kaE,kaN,List.map_nil,hv]
    rw [this];exact hz3
  obtain ⟨rvF,s3,-,hE3,hz3,hcase⟩:=hrun
  have hEb3:Ext b s3:=hEb.trans hE3
  have hG3:GR b s3 nd gk nm G nl nc (fun c=>c.toNat<s.nx.toNat):=hG0.later hE3
  obtain ⟨vq,s4,e4,to,G1,nl',nc',y,rfl,hG4,hN4,hF4,hG1,hto,hyf,hym⟩:=hSt (⟨b,nd,gk,nm,G,nl,nc⟩,rw_,idf,c,rvF,zch nd p.rn i,fun c=>c.toNat<s.nx.toNat) _ s3 ⟨rfl,hG3,hT,hN,hz3.base hEb.nx,hnn,hnd,hl12,by simp only;omega,fun c hc hlt=>by
   have:=(hz3.blk hc).1;omega⟩
  simp only at e4 hG4 hN4 hF4 hG1 hym
  have hF34:Frm 66 b gk nm (fun _=>False) s s4:=⟨kar hE3.nx hF4.nx,fun c hc hk=>by
   have e0:=hE3.get c hc
   rw [hF4.keep c (kaf hc hE3.nx) ?_,e0]
   rcases hk with hk | ⟨g1,g2,g3,-⟩
   ·exact .inl hk
   ·exact .inr ⟨g1,g2,fun hg=>g3 ((Gw.same e0).1 hg),fun hb=>by have:=(hz3.blk hb).1;omega⟩⟩
  have hxg:∀ c,zC rvF=some c→Grw s3 c:=fun c hc=>by
   obtain ⟨l,n,mn,f1,f2,g⟩:=hz3.own hc
   exact ⟨_,_,_,_,_,_,g⟩
  have hin4:=(hin.ext hE3).frm hF4 hxg
  have hout4:=(hout.ext hE3).frm hF4 hxg
  have hG4':GR b s4 nd gk nm G1 nl' nc' (fun _=>True):=by
   obtain ⟨D,vS,vF,vR,el,g1,g2,-⟩:=hG4
   exact ⟨D,vS,vF,vR,el,g1,g2,fun _ _=>trivial⟩
  have hq1:G1[q]?=some p:=by
   rcases hG1 with rfl | rfl
   ·exact hq
   ·rw [kam (kad.1 hq).1];exact hq
  have hl1:G1.length≤G.length+1:=by
   rcases hG1 with rfl | rfl
   ·omega
   ·simp
  have hnb:¬ziB nd rw_ p.rn i:=fun h=>zhT.2 h hfree
  have fin:∀ tm2,gp 0 tm2=.ptr gk 0 0→gp 1 tm2=iv .i64 (q:Int)→gp 2 tm2=inV→gp 3 tm2=outV→gp 16 tm2=iv .i64 (to:Int)→gp 240 tm2=.bad→gp 31 tm2=outV→gp 32 tm2=iv .i64 (o.length:Int)→gp 33 tm2=iv .i64 0→∃ tm3 s5,zad.run r tm2 s4=.ext 4 tm3 s5∧gp 240 tm3=.bad∧GR b s5 nd gk nm (qN G1 q i o to) nl' nc' (fun _=>True)∧Frm 66 b gk nm (fun _=>False) s4 s5:=by
   intro tm2 a0 a1 a2 a3 a16 a240 a31 a32 a33
   exact hL6 ⟨b,nd,gk,nm,G1,nl',nc',q,i,s4,outV,o,to,qN G1 q i o to⟩ tm2 s4 ⟨a0,a1,by rw [a2];exact hin4,a3,a16,a240,a31,a32,hG4',hout4,Frm.refl _ _ _ _ _ _,0,a33,Nat.zero_le _,by rw [List.drop_zero],by simp only;omega,fun _=>⟨p,hq1,hpl⟩⟩
  have post:∀ s5,GR b s5 nd gk nm (qN G1 q i o to) nl' nc' (fun _=>True)→Frm 66 b gk nm (fun _=>False) s4 s5→∃ (G':List PS) (nl':LG (List Nat)) (nc':Nat),GR b s5 nd gk nm G' nl' nc' (fun _=>True)∧NamesOK nd idf G' nl'∧Frm 66 b gk nm (fun _=>False) s s5∧zNZ nd rw_ G p.rn q i o G' :=
   fun s5 h1 h2=>⟨_,nl',nc',h1,hN4.chain o q i to,hF34.trans h2,.inr ⟨hnb,G1,to,y,hG1,hto,hyf,fun w=>(hym w).trans ztN,rfl⟩⟩
  rcases hcase with ⟨rfl,rfl,hr10⟩ | ⟨pa,rfl,ap⟩
  ·rw [hr10] at e4
   simp -implicitDefEqProofs [k0,k3,k4,zDv,e4,houl] at hF
   generalize hB:zad.run r _ s4=B1 at hF
   obtain ⟨tm3,s5,hB',t240,hG5,hF5⟩:=hB▸fin _ (by simp [k0]) (by simp [k1]) (by simp [k2]) (by simp [k3]) (by simp) (by simp [k240]) (by simp) (by simp) (by simp)
   rw [hB'] at hF
   simp -implicitDefEqProofs [t240] at hF
   exact ⟨_,s5,hF.symm,post s5 hG5 hF5⟩
  ·simp -implicitDefEqProofs [k0,k3,k4,zCk,rep,zc7,upd,put,zo,ap,e4,houl] at hF
   generalize hB:zad.run r _ s4=B1 at hF
   obtain ⟨tm3,s5,hB',t240,hG5,hF5⟩:=hB▸fin _ (by simp [k0]) (by simp [k1]) (by simp [k2]) (by simp [k3]) (by simp) (by simp [k240]) (by simp) (by simp) (by simp)
   rw [hB'] at hF
   simp -implicitDefEqProofs [t240] at hF
   exact ⟨_,s5,hF.symm,post s5 hG5 hF5⟩
 ·simp only at hfree hE2
  simp -implicitDefEqProofs [k240] at hF
  exact ⟨_,s2,hF.symm,G,nl,nc,by
   obtain ⟨D,vS,vF,vR,el,g1,g2,-⟩:=hG0.later hE2
   exact ⟨D,vS,vF,vR,el,g1,g2,fun _ _=>trivial⟩,hN,Frm.of_ext hE2,.inl ⟨zhT.1 hfree,rfl⟩⟩
def CT (s0 s:S) (N:Nat) (v:V) (A:List Int):Prop:=Ext s0 s∧((N=0∧v=.nil 1∧A=[])∨(0<N∧∃ a mn l,v=.so a N 0 A.length 0∧s0.nx.toNat≤a.toNat∧a.toNat<s.nx.toNat∧Tr.get B.none a s.h=.row l N 3 true mn 0 0∧mn≤N∧l.length=N∧A.length≤N∧l.take A.length=A.map (iv .i64)∧∀ x∈l,x=iv .i64 (toI x)))
theorem zHI:∀ (new:List V) (p:Nat) (l:List V),p+new.length≤l.length→upd new p l=l.take p++new++l.drop (p+new.length)
 | new,0,l,h=>by
  rw [List.take_zero,List.nil_append,kaF]
  induction new generalizing l with
  | nil=>cases l<;>rfl
  | cons x new ih=>cases l with
   | nil=>simp at h
   | cons y l =>
    show x::upd new 0 l=_
    rw [ih l (by simp at h ⊢;omega)]
    simp
 | new,p+1,[],h=>by simp at h
 | new,p+1,y::l,h=>by
  show y::upd new p l=_
  have h':p+new.length≤l.length:=by simp at h;omega
  rw [zHI new p l h',show p+1+new.length=p+new.length+1 by omega]
  rfl
variable {s s0:S}
theorem CT.app {N:Nat} {v y:V} {A:List Int} (h:CT s0 s N v A) (hy:zZ s y) (hl:A.length+zb y≤N) (hN:N≤68719476736) :
  ∃ v' s',(∀ k:V→S→Go.Ev.A,zP 3 1 v y s k=k v' s')∧CT s0 s' N v' (A++word s y):=by
 have hsrc:∀ k:V→S→Go.Ev.A,zP 3 1 v y s k=jL 3 1 v (zb y) ((word s y).map (iv .i64)) s k:=fun k=>by
  show qy 1 y s _=_
  rw [zAa hy]
 obtain ⟨hE,h⟩:=h
 have hwl:(word s y).length=zb y:=zA s y
 generalize hW:word s y=Wd at *
 by_cases h0:Wd=[]
 ·have hz:zb y=0:=by rw [←hwl,h0];rfl
  subst h0
  refine ⟨v,s,fun k=>?_,hE,by simpa using h⟩
  rw [hsrc,hz]
  rcases h with ⟨-,rfl,-⟩ | ⟨-,a,mn,l,rfl,-⟩<;>rfl
 ·have hpos:0<Wd.length:=List.length_pos_iff.2 h0
  rcases h with ⟨rfl,rfl,rfl⟩ | ⟨hN0,a,mn,l,rfl,h1,h2,h3,h4,h5,h6,h7,h8⟩
  ·omega
  ·have hne:Nat.beq Wd.length 0=false:=by
    cases e:Nat.beq Wd.length 0 with
    | true=>have:=kaa e;omega
    | false=>rfl
   have hfit:A.length+(Wd.map (iv .i64)).length≤l.length:=by rw [kai];omega
   have hu:=zHI (Wd.map (iv .i64)) A.length l hfit
   refine ⟨.so a N 0 (A.length+Wd.length) 0,qj s a (.row (upd (Wd.map (iv .i64)) A.length l) N 3 true N 0 0),fun k=>?_,⟨hE.nx,fun c hc=>?_⟩,.inr ⟨hN0,a,N,_,by rw [kah],h1,h2,by rw [zm,if_pos rfl],kab _,?_,by rw [kah];omega,?_,fun x hx=>?_⟩⟩
   ·rw [hsrc,←hwl]
    show (Bool.rec (motive:=fun _=>Go.Ev.A) _ _ (Nat.beq Wd.length 0):Go.Ev.A)=_
    rw [hne]
    show fN (Nat.add A.length Wd.length) _=_
    rw [zH]
    show zY s a _=_
    rw [zK,h3]
    show fN (Nat.add 0 (Nat.mul A.length 1)) _=_
    rw [zH]
    have e0:Nat.add 0 (Nat.mul A.length 1)=A.length:=by show 0+A.length*1=_;omega
    have e1:Nat.mul Wd.length 1=Wd.length:=kaK _
    show (Bool.rec (motive:=fun _=>Go.Ev.A) _ _ (zq (Nat.beq N N) (Nat.ble (Nat.add (Nat.add 0 (Nat.mul A.length 1)) (Nat.mul Wd.length 1)) N)):Go.Ev.A)=_
    rw [e0,e1,show Nat.beq N N=true from kay N,show Nat.ble (Nat.add A.length Wd.length) N=true from kap (by show A.length+Wd.length≤N;omega)]
    show qf s a N A.length Wd.length (Wd.map (iv .i64)) _=_
    unfold qf
    rw [zK,h3]
    show (Bool.rec (motive:=fun _=>Go.Ev.A) _ _ (zfA N true N A.length (Nat.add A.length Wd.length) 0 0):Go.Ev.A)=_
    rw [show zfA N true N A.length (Nat.add A.length Wd.length) 0 0=true by
     show (@Bool.rec (fun _=>Bool) _ _ _:Bool)=_
     rw [show Nat.ble (Nat.add A.length Wd.length) N=true from kap (by show A.length+Wd.length≤N;omega),show Nat.ble 0 A.length=true from kap (Nat.zero_le _),show Nat.beq N N=true from kay _]]
    show qY (Wd.map (iv .i64)) A.length l _=_
    rw [zdp,qp]
    rfl
   ·rw [zm,if_neg (fun e=>by rw [e] at hc;omega)];exact hE.get c hc
   ·rw [hu]
    simp
    omega
   ·rw [hu,kah,kaE,←h7]
    have hA:(l.take A.length).length=A.length:=by rw [List.length_take];omega
    have hAW:(l.take A.length++Wd.map (iv .i64)).length=A.length+Wd.length:=by rw [kah,hA,kai]
    rw [←hAW,List.take_left]
   ·rw [hu] at hx
    rcases kak.1 hx with hx | hx
    ·rcases kak.1 hx with hx | hx
     ·exact h8 x (List.mem_of_mem_take hx)
     ·obtain ⟨z,_,rfl⟩:=kav.1 hx
      rw [zn]
    ·exact h8 x (List.mem_of_mem_drop hx)
theorem CT.gr {N:Nat} {v:V} {A:List Int} (h:CT s0 s N v A) (hA:A.length=N):Gr s0 s v∧word s v=A∧zb v=N:=by
 obtain ⟨hE,⟨rfl,rfl,rfl⟩ | ⟨hN0,a,mn,l,rfl,h1,h2,h3,h4,h5,h6,h7,h8⟩⟩:=h
 ·exact ⟨.inl (.inl rfl),rfl,rfl⟩
 ·subst hA
  refine ⟨.inr ⟨a,A.length,l,rfl,h1,h2,⟨mn,h4,h3⟩,h5,h8⟩,?_,rfl⟩
  rw [Gr.wordE h3 h5]
  have:l=A.map (iv .i64):=by rw [←h7,List.take_of_length_le (by omega)]
  rw [this,List.map_map]
  conv=>rhs;rw [←List.map_id A]
  exact kaO fun z _=>zn _ _
noncomputable def KB2:Nat→Ct
 | 93=>ctI (X:=Nat) (fun n a _=>a=[.nil 1,iv .i64 (n:Int)]∧n≤68719476736) (fun n s v s'=>CT s s' n v [])
 | 52=>ctI (X:=Go.Ev.K × V × V) (fun ⟨k,x,y⟩ a s=>a=[.sl k 0 0 2 2]∧Tr.get B.none k s.h=.row [x,y] 2 29 false 0 0 0∧k.toNat<s.nx.toNat∧zZ s x∧zZ s y∧zb x+zb y≤68719476736) (fun ⟨_,x,y⟩ s v s'=>Ext s s'∧Gr s s' v∧word s' v=word s x++word s y)
 | f=>KB f
theorem zNp {L:Nat→Lt} {f:Nat} {X:Type} {pre:X→List V→S→Prop} {post:X→S→V→S→Prop} (hK:KB2 f=ctI pre post) (h:∀ x a s,pre x a s→∃ v s',(fnC zj f).run (Rk Tryz.prog KB2 L) a s=.ret v s'∧post x s v s'):zL Tryz.prog KB2 f:=zaj zG.1 zG.2 hK h
theorem zJZ:zL Tryz.prog KB2 93:=by
 refine zNp (L:=noL) (X:=Nat) rfl ?_
 rintro n a s ⟨rfl,hn⟩
 generalize Rk Tryz.prog _ _=r
 have h0:((n:Int)<0)=False:=eq_false (by omega)
 have c1:∀ f:V→Go.Ev.A,zKh (.nil 1) f=f (iv .i64 0):=fun f=>rfl
 have c2:∀ f:V→Go.Ev.A,zz (.nil 1) f=f (iv .i64 0):=fun f=>rfl
 have w0:IntKind.i64.wrap (0:Int)=0:=z9 (by omega) (by omega)
 have w1:IntKind.i64.wrap (n:Int)=(n:Int):=z9 (by omega) (by omega)
 by_cases hpos:0<n
 ·have hp:((0:Int)<n)=True:=eq_true (by omega)
  have s1:∀ f:V→Go.Ev.A,yg 3 1 (.nil 1) none (some (iv .i64 0)) none s f=f (.nil 1):=fun f=>rfl
  obtain ⟨s2,hs2⟩:∃ s2,s2=zN s (.row (rep [iv .i64 0] n) n 3 true 0 0 0):=⟨_,rfl⟩
  have hrl:(rep [iv .i64 0] n).length=n:=by rw [zaZ];simp
  have z1:∀ f:V→S→Go.Ev.A,zdV 3 1 [iv .i64 0] (.nil 1) (iv .i64 (n:Int)) s f=f (.so s.nx n 0 n 0) s2:=fun f=>by
   show (Bool.rec (motive:=fun _=>Go.Ev.A) _ (j4 [iv .i64 0] n fun new=>jL 3 1 (.nil 1) n new s f) (Nat.ble n 68719476736):Go.Ev.A)=_
   rw [kap hn]
   show j4 [iv .i64 0] n _=_
   rw [ziR]
   show (Bool.rec (motive:=fun _=>Go.Ev.A) _ _ (Nat.beq n 0):Go.Ev.A)=_
   rw [show Nat.beq n 0=false by
    cases e:Nat.beq n 0 with
    | true=>have:=kaa e;omega
    | false=>rfl]
   show yF s 3 _ n f=_
   rw [zgc s _ n hn hrl,hs2]
  have hg:Tr.get B.none s.nx s2.h=.row (rep [iv .i64 0] n) n 3 true 0 0 0:=by rw [hs2];exact zx _ _
  have s3:∀ f:V→Go.Ev.A,yg 3 1 (.so s.nx n 0 n 0) none (some (iv .i64 0)) none s2 f=f (.so s.nx n 0 0 0):=fun f=>by
   show zY s2 s.nx _=_
   rw [zK,hg]
   show fN (Bool.rec (motive:=fun _=>Nat) n (Nat.div (Nat.sub n 0) 1) (zq true (Nat.beq n n))) _=_
   rw [zH]
   rfl
  refine ⟨.so s.nx n 0 0 0,s2,?_,by rw [hs2];exact zO _ _,.inr ⟨hpos,s.nx,0,_,rfl,kab _,?_,hg,Nat.zero_le _,hrl,Nat.zero_le _,rfl,fun x hx=>?_⟩⟩
  ·simp -implicitDefEqProofs [zCV,h0,c1,c2,w0,w1,hpos,s1,z1,s3]
  ·rw [hs2];show s.nx.toNat<s.nx.succ.toNat;rw [K.toNat_succ];omega
  ·have:∀ (n:Nat) (x:V),x∈rep [iv .i64 0] n→x=iv .i64 0:=by
    intro n
    induction n with
    | zero=>intro x hx;cases hx
    | succ n ih =>
     intro x hx
     have e:rep [iv .i64 (0:Int)] (n+1)=[iv .i64 0]++rep [iv .i64 0] n:=rfl
     rw [e] at hx
     rcases kak.1 hx with hx | hx
     ·exact kag.1 hx
     ·exact ih x hx
   rw [this n x hx,zn]
 ·obtain rfl:n=0:=by omega
  refine ⟨.nil 1,s,?_,Ext.refl _,.inl ⟨rfl,rfl,rfl⟩⟩
  simp -implicitDefEqProofs [zCV,c1,c2,w0]
structure CoX where
 s0:S
 k:Go.Ev.K
 x:V
 y:V
def CoX.at_ (c:CoX) (j:Nat):V:=if j=0 then c.x else c.y
def CoX.base (c:CoX):Prop:=Tr.get B.none c.k c.s0.h=.row [c.x,c.y] 2 29 false 0 0 0∧c.k.toNat<c.s0.nx.toNat∧zZ c.s0 c.x∧zZ c.s0 c.y∧zb c.x+zb c.y≤68719476736
def CoX.pre1 (c:CoX) (tm:T) (s:S):Prop:=s=c.s0∧c.base∧gp 0 tm=.sl c.k 0 0 2 2∧gp 240 tm=.bad∧gp 9 tm=.sl c.k 0 0 2 2∧gp 10 tm=iv .i64 2∧∃ j:Nat,j≤2∧gp 11 tm=iv .i64 (j:Int)∧gp 3 tm=iv .i64 ((if j=0 then 0 else if j=1 then zb c.x else zb c.x+zb c.y:Nat):Int)
def CoX.post1 (c:CoX) (a:Go.Ev.A):Prop:=∃ tm,a=.ext 0 tm c.s0∧gp 0 tm=.sl c.k 0 0 2 2∧gp 240 tm=.bad∧gp 3 tm=iv .i64 ((zb c.x+zb c.y:Nat):Int)
def CoX.pre2 (c:CoX) (tm:T) (s:S):Prop:=c.base∧gp 240 tm=.bad∧gp 14 tm=.sl c.k 0 0 2 2∧gp 15 tm=iv .i64 2∧∃ j:Nat,j≤2∧gp 16 tm=iv .i64 (j:Int)∧CT c.s0 s (zb c.x+zb c.y) (gp 6 tm) (if j=0 then [] else if j=1 then word c.s0 c.x else word c.s0 c.x++word c.s0 c.y)
def CoX.post2 (c:CoX) (a:Go.Ev.A):Prop:=∃ tm s,a=.ext 2 tm s∧gp 240 tm=.bad∧CT c.s0 s (zb c.x+zb c.y) (gp 6 tm) (word c.s0 c.x++word c.s0 c.y)
noncomputable def zIy:Nat→Lt
 | 34=>ltI CoX.pre1 CoX.post1
 | _=>ltI CoX.pre2 CoX.post2
theorem CoX.idx {c:CoX} (h:c.base) (hE:Ext c.s0 s) {j:Nat} (hj:j<2):(∀ kk (f:V→Go.Ev.A),zg 1 (.sl c.k 0 0 2 2) (iv kk (j:Int)) f=f (.ptr c.k 0 j))∧(∀ f:V→S→Go.Ev.A,zd false 1 (.ptr c.k 0 j) s f=f (c.at_ j) s)∧zZ s (c.at_ j):=by
 obtain ⟨h1,h2,h3,h4,h5⟩:=h
 have hg:Tr.get B.none c.k s.h=.row [c.x,c.y] 2 29 false 0 0 0:=(hE.get _ h2).trans h1
 refine ⟨fun kk f=>?_,fun f=>?_,?_⟩
 ·show (Bool.rec (motive:=fun _=>Go.Ev.A) _ _ (Nat.blt j 2):Go.Ev.A)=_
  rw [show Nat.blt j 2=true by rw [Nat.blt_eq];exact hj]
  show fN (Nat.add 0 (Nat.mul j 1)) _=_
  rw [zH,show Nat.add 0 (Nat.mul j 1)=j by show 0+j*1=j;omega]
 ·have hc:c.at_ j≠.bad:=by
   unfold CoX.at_
   split
   ·exact h3.ne
   ·exact h4.ne
  have e:([c.x,c.y]:List V).getD j .bad=c.at_ j:=by
   match j,hj with
   | 0,_=>rfl
   | 1,_=>rfl
  have:=zw hg j rfl hj (by rw [e];exact hc) f
  rw [e] at this
  exact this
 ·unfold CoX.at_
  split
  ·exact (h3.ext hE).1
  ·exact (h4.ext hE).1
theorem zMu:∀ (x:CoX) tm s,x.pre1 tm s→x.post1 (zbn.run (Rk Tryz.prog KB2 zIy) tm s):=by
 refine y9 (L:=zIy) zG.1 zG.2 zCH rfl (fun tm _=>3 - (toI (gp 11 tm)).toNat) (fun x a ⟨_,h,_⟩=>by rw [h];exact fun h=>h) ?_
 rintro ⟨s0,k,x,y⟩ tm s ⟨rfl,hb,h0,h240,h9,h10,j,hj,h11,h3⟩ IH
 show CoX.post1 _ (zbn.run _ tm _)
 generalize Rk Tryz.prog _ _=r at IH ⊢
 simp only at h0 h9 h3
 by_cases hlt:j<2
 ·have hlt':((j:Int)<2)=True:=eq_true (by omega)
  obtain ⟨i1,i2,i3⟩:=CoX.idx (c:=⟨s,k,x,y⟩) hb (Ext.refl _) hlt
  have hw:IntKind.i64.wrap ((j:Int)+1)=((j+1:Nat):Int):=by rw [z9 (by omega) (by omega)];omega
  obtain ⟨-,-,g1,g2,g3⟩:=id hb
  simp only at g1 g2 g3
  generalize hS:(if j=0 then 0 else if j=1 then zb x else zb x+zb y:Nat)=Sz at *
  have hl:zb (CoX.at_ ⟨s,k,x,y⟩ j)+Sz≤68719476736∧(if j+1=0 then 0 else if j+1=1 then zb x else zb x+zb y:Nat)=Sz+zb (CoX.at_ ⟨s,k,x,y⟩ j):=by
   match j,hlt with
   | 0,_=>simp at hS;subst hS;simp [CoX.at_];omega
   | 1,_=>simp at hS;subst hS;simp [CoX.at_];omega
  have hw2:IntKind.i64.wrap ((Sz:Int)+(zb (CoX.at_ ⟨s,k,x,y⟩ j):Int))=((Sz+zb (CoX.at_ ⟨s,k,x,y⟩ j):Nat):Int):=by rw [z9 (by omega) (by omega)];omega
  have hneg:(((Sz+zb (CoX.at_ ⟨s,k,x,y⟩ j):Nat):Int)<0)=False:=eq_false (by omega)
  have hlen:=i3.1.len
  generalize CoX.at_ ⟨s,k,x,y⟩ j=z at *
  simp -implicitDefEqProofs [zkQ,zbp,h9,h10,h11,h3,hlt',i1,i2,hlen,hw2,hneg,hw,-Int.natCast_add]
  refine IH ⟨s,k,x,y⟩ _ s ?_ ⟨rfl,hb,by simp [h0],by simp [h240],by simp [h9],by simp [h10],j+1,by omega,by simp,?_⟩
  ·rw [h11,zn];simp [zn,-Int.natCast_add];omega
  ·rw [hl.2];simp
 ·obtain rfl:j=2:=by omega
  simp -implicitDefEqProofs [zkQ,zbp,h10,h11]
  exact ⟨_,rfl,by simp [h0],by simp [h240],by simp [h3]⟩
theorem zM4:∀ (x:CoX) tm s,x.pre2 tm s→x.post2 (zav.run (Rk Tryz.prog KB2 zIy) tm s):=by
 refine y9 (L:=zIy) zG.1 zG.2 zz8 rfl (fun tm _=>3 - (toI (gp 16 tm)).toNat) (fun x a ⟨_,_,h,_⟩=>by rw [h];exact fun h=>h) ?_
 rintro ⟨s0,k,x,y⟩ tm s ⟨hb,h240,h14,h15,j,hj,h16,hC⟩ IH
 show CoX.post2 _ (zav.run _ tm _)
 generalize Rk Tryz.prog _ _=r at IH ⊢
 simp only at h14 hC
 by_cases hlt:j<2
 ·have hlt':((j:Int)<2)=True:=eq_true (by omega)
  obtain ⟨i1,i2,i3⟩:=CoX.idx (c:=⟨s0,k,x,y⟩) hb hC.1 hlt
  have hw:IntKind.i64.wrap ((j:Int)+1)=((j+1:Nat):Int):=by rw [z9 (by omega) (by omega)];omega
  obtain ⟨-,-,g1,g2,g3⟩:=id hb
  simp only at g1 g2 g3
  have hl:(if j=0 then ([]:List Int) else if j=1 then word s0 x else word s0 x++word s0 y).length+zb (CoX.at_ ⟨s0,k,x,y⟩ j)≤zb x+zb y∧(if j+1=0 then ([]:List Int) else if j+1=1 then word s0 x else word s0 x++word s0 y)=(if j=0 then ([]:List Int) else if j=1 then word s0 x else word s0 x++word s0 y)++word s (CoX.at_ ⟨s0,k,x,y⟩ j):=by
   match j,hlt with
   | 0,_=>simp [CoX.at_,g1.word hC.1]
   | 1,_=>simp [CoX.at_,g2.word hC.1]
  obtain ⟨v',s',a1,a2⟩:=hC.app i3 hl.1 g3
  rw [←hl.2] at a2
  simp -implicitDefEqProofs [zhS,zbp,h14,h15,h16,hlt',i1,i2,a1,hw,-Int.natCast_add]
  refine IH ⟨s0,k,x,y⟩ _ s' ?_ ⟨hb,by simp [h240],by simp [h14],by simp [h15],j+1,by omega,by simp,by simpa using a2⟩
  rw [h16,zn];simp [zn,-Int.natCast_add];omega
 ·obtain rfl:j=2:=by omega
  simp -implicitDefEqProofs [zhS,zbp,h15,h16]
  exact ⟨_,_,rfl,by simp [h240],by simpa using hC⟩
theorem zrW:zL Tryz.prog KB2 52:=by
 refine zNp (L:=zIy) (X:=Go.Ev.K × V × V) rfl ?_
 rintro ⟨k,x,y⟩ a s ⟨rfl,hg,hk,hx,hy,hlim⟩
 have hG:=qV (zQ (L:=zIy) zJZ) (X:=Nat) rfl
 have h1:=zMu
 have h2:=zM4
 generalize Rk Tryz.prog _ _=r at hG h1 h2 ⊢
 have hb:CoX.base ⟨s,k,x,y⟩:=⟨hg,hk,hx,hy,hlim⟩
 have hlen:∀ f:V→Go.Ev.A,zz (.sl k 0 0 2 2) f=f (iv .i64 2):=fun f=>rfl
 generalize hF:(fnC zj 52).run r _ _=F0
 simp -implicitDefEqProofs [zbp,hlen] at hF
 generalize hA:zbn.run r _ _=A1 at hF
 obtain ⟨tm',rfl,k0,k240,k3⟩:=hA▸h1 ⟨s,k,x,y⟩ _ s ⟨rfl,hb,by simp,by simp,by simp,by simp,0,by omega,by simp,by simp⟩
 simp only at k0 k3
 obtain ⟨v1,s1,e1,hC⟩:=hG (zb x+zb y) _ s ⟨rfl,hlim⟩
 simp -implicitDefEqProofs [k0,k3,e1,hlen,-Int.natCast_add] at hF
 generalize hB:zav.run r _ _=B1 at hF
 obtain ⟨tm2,s2,rfl,t240,hC2⟩:=hB▸h2 ⟨s,k,x,y⟩ _ s1 ⟨hb,by simp [k240],by simp,by simp,0,by omega,by simp,by simpa using hC⟩
 simp only at hC2
 simp -implicitDefEqProofs [t240] at hF
 obtain ⟨g1,g2,g3⟩:=hC2.gr (by simp)
 exact ⟨_,s2,hF.symm,hC2.1,g1,g2⟩
end Go.Proofs.YtlklljjppambpaaGreatDoor.oev
namespace Go.Ev
open Go.RowKit
variable {Q:A→Prop}
@[simp] theorem A.all_nrm (Q:A→Prop) (tm:T) (s:S):(A.nrm tm s).all Q=Q (.nrm tm s):=rfl
@[simp] theorem A.all_ext (Q:A→Prop) (i:Nat) (tm:T) (s:S):(A.ext i tm s).all Q=Q (.ext i tm s):=rfl
@[simp] theorem A.all_ret (Q:A→Prop) (tm:T) (s:S):(A.ret tm s).all Q=Q (.ret tm s):=rfl
theorem A.all_seq' {f:T→S→A} {a:A} (h:a.all fun x=>(za f x).all Q):(za f a).all Q:=A.all_seq (fun _ _ h=>h) h
theorem A.all_block' {i:Nat} {a:A} (h:a.all fun x=>(zE i x).all Q):(zE i a).all Q:=A.all_block (fun _ _ h=>h) h
theorem zdf {P:Program} {pc:PC} (hp:PcOk P pc) (hh:pc.hooks=[]) {K KN:Nat→Ct} {L:Nat→Lt} {fi:FI} {c:Code} {n:Nat} (hn:z3 c=n) {X:Type} {pre:X→T→S→Prop} {post:X→A→Prop} (hL:L n=ltI pre post) (μ:T→S→Nat)
  (hnb:∀ x a,post x a→¬a.isBad) (body:∀ x tm s,pre x tm s→(∀ y tm' s',μ tm' s'<μ tm s→pre y tm' s'→post y ((RkN P K KN L).code fi c tm' s'))→post x ((zl pc fi c).run (RkN P K KN L) tm s)) :
  ∀ x tm s,pre x tm s→post x ((zl pc fi c).run (RkN P K KN L) tm s):=by
 intro x tm s hx
 have:=zKl (P:=P) hp hh (K:=K) (KN:=KN) (L:=L) (fi:=fi) (c:=c) hn μ (fun tm s a h1 h2=>by
  rw [hL] at h1 h2
  obtain ⟨x,hx⟩:=h1
  exact hnb x a (h2 x hx)) (fun tm s h1 IH=>by
  rw [hL] at h1 IH ⊢
  intro x hx
  exact body x tm s hx fun y tm' s' hm hy=>IH tm' s' hm ⟨y,hy⟩ y hy) tm s (by rw [hL];exact ⟨x,hx⟩)
 rw [hL] at this
 exact this x hx
end Go.Ev
namespace Go.Proofs.YtlklljjppambpaaGreatDoor.oev
open Go.Ev Go.RowKit
set_option maxRecDepth 100000
structure UM (s:S) (um:Go.Ev.K) (l:LG Int) (ck:Nat):Prop where
 at_:yj (iv .i64) s um l ck
 one:∀ e∈l,e.2.1=iv .i64 1
 born:∀ e∈l,e.2.2<ck
 diff:l.Pairwise fun a b=>a.2.2≠b.2.2
 keys:(l.map (·.1)).Nodup
theorem zng {z:Int} {v:V} {ck:Nat}:∀ {l:LG Int} {e},e∈yr z v ck l→(e∈l∨(e.1=z∧e.2.1=v∧(e.2.2=ck∨∃ e'∈l,e.2.2=e'.2.2)))
 | [],e,h=>by
  rcases kag.1 h with rfl
  exact .inr ⟨rfl,rfl,.inl rfl⟩
 | a::l,e,h=>by
  unfold yr at h
  split at h
  ·rename_i hz
   rcases kaj.1 h with rfl | h
   ·exact .inr ⟨rfl,rfl,.inr ⟨a,by simp,rfl⟩⟩
   ·exact .inl (by simp [h])
  ·rcases kaj.1 h with rfl | h
   ·exact .inl (by simp)
   ·rcases zng h with h | ⟨h1,h2,h3⟩
    ·exact .inl (by simp [h])
    ·refine .inr ⟨h1,h2,?_⟩
     rcases h3 with h3 | ⟨e',h3,h4⟩
     ·exact .inl h3
     ·exact .inr ⟨e',by simp [h3],h4⟩
theorem zEh {z:Int} {v:V} {ck:Nat}:∀ {l:LG Int},(∀ e∈l,e.2.2<ck)→l.Pairwise (fun a b=>a.2.2≠b.2.2)→(yr z v ck l).Pairwise fun a b=>a.2.2≠b.2.2
 | [],_,_=>List.pairwise_singleton _ _
 | a::l,h,g=>by
  obtain ⟨g1,g2⟩:=List.pairwise_cons.1 g
  unfold yr
  split
  ·exact List.pairwise_cons.2 ⟨g1,g2⟩
  ·refine List.pairwise_cons.2 ⟨fun e he=>?_,zEh (fun e he=>h e (by simp [he])) g2⟩
   rcases zng he with he | ⟨-,-,h3 | ⟨e',h3,h4⟩⟩
   ·exact g1 e he
   ·rw [h3];exact Nat.ne_of_lt (h a (by simp))
   ·rw [h4];exact g1 e' h3
variable {um:Go.Ev.K} {l:LG Int} {ck:Nat} {s:S}
theorem UM.upd (h:UM s um l ck) (z:Int) :
  ∃ l' ck',(∀ c:V→S→Go.Ev.A,qw ⟨7,[]⟩ (.ref 0 um) (iv .i64 z) (iv .i64 1) s c=c Go.Ev.undef (qj s um (.map (l'.map (toG (iv .i64))) ck')))∧UM (qj s um (.map (l'.map (toG (iv .i64))) ck')) um l' ck'∧∀ y,y∈l'.map (·.1)↔y∈l.map (·.1)∨y=z:=by
 have hk:=zj2 z (iv .i64 1) ck l
 refine ⟨_,_,fun c=>zbo zGP h.at_ z (iv .i64 1) c,⟨by unfold yj;rw [zm,if_pos rfl],fun e he=>?_,fun e he=>?_,zEh h.born h.diff,?_⟩,fun y=>?_⟩
 ·rcases zng he with he | ⟨-,h2,-⟩
  ·exact h.one e he
  ·exact h2
 ·rcases zng he with he | ⟨-,-,h3 | ⟨e',h3,h4⟩⟩
  ·have:=h.born e he
   split<;>omega
  ·-- a new entry: there was none
   have hno:(qh l z).isNone=true:=by
    cases hm:qh l z with
    | none=>rfl
    | some v =>
     exfalso
     -- an old key keeps its birth
     have old:∀ {l:LG Int},(qh l z).isSome=true→∀ e∈yr z (iv .i64 1) ck l,∃ e'∈l,e.2.2=e'.2.2:=by
      intro l
      induction l with
      | nil=>intro h;cases h
      | cons a l ih =>
       intro hs e he
       unfold yr at he
       unfold qh at hs
       split at he
       ·rcases kaj.1 he with rfl | he
        ·exact ⟨a,by simp,rfl⟩
        ·exact ⟨e,by simp [he],rfl⟩
       ·rename_i hne
        rw [if_neg (fun e=>hne e.symm)] at hs
        rcases kaj.1 he with rfl | he
        ·exact ⟨_,by simp,rfl⟩
        ·obtain ⟨e',h1,h2⟩:=ih hs e he
         exact ⟨e',by simp [h1],h2⟩
     obtain ⟨e',h1,h2⟩:=old (by rw [hm];rfl) e he
     have:=h.born e' h1
     omega
   rw [hno,h3];simp
  ·have:=h.born e' h3
   rw [h4]
   split<;>omega
 ·rw [hk]
  split
  ·exact h.keys
  ·rename_i hs
   refine kaP.2 ⟨h.keys,List.nodup_cons.2 ⟨by simp,List.nodup_nil⟩,fun a ha b hb e=>?_⟩
   rcases kag.1 hb with rfl
   subst e
   exact hs (zbq.2 ha)
 ·rw [hk]
  split
  ·rename_i hs
   exact ⟨.inl,fun h=>h.elim id fun e=>by rw [e];exact zbq.1 hs⟩
  ·simp
theorem UM.look (h:UM s um l ck) (z:Int) (c:V→Go.Ev.A):z4 ⟨7,[]⟩ (iv .i64 0) false (.ref 0 um) (iv .i64 z) s c=c (iv .i64 (if z∈l.map (·.1) then 1 else 0)):=by
 rw [zcn zGP h.at_]
 congr 1
 cases hm:qh l z with
 | none =>
  rw [if_neg]
  ·rfl
  ·intro hz
   have:=zbq.2 hz
   rw [hm] at this
   cases this
 | some v =>
  have hz:z∈l.map (·.1):=zbq.1 (by rw [hm];rfl)
  rw [if_pos hz]
  have:∀ {l:LG Int},(∀ e∈l,e.2.1=iv .i64 1)→qh l z=some v→v=iv .i64 1:=by
   intro l
   induction l with
   | nil=>intro _ h;cases h
   | cons a l ih =>
    intro h1 h2
    unfold qh at h2
    split at h2
    ·injection h2 with h2
     rw [←h2];exact h1 a (by simp)
    ·exact ih (fun e he=>h1 e (by simp [he])) h2
  exact this h.one hm
theorem zHc (z:Int):yS (iv .i64 z) (iv .i64 z)=true:=by
 cases z with
 | ofNat n=>show zq (yl .i64 .i64) (Nat.beq n n)=true;rw [kay];rfl
 | negSucc n=>show zq (yl .i64 .i64) (Nat.beq n n)=true;rw [kay];rfl
theorem zhe:∀ {l:LG Int},(∀ e∈l,e.2.1=iv .i64 1)→zcw (l.map (toG (iv .i64))) (l.map (toG (iv .i64)))=true
 | [],_=>rfl
 | e::l,h=>by
  show zq (zq (Nat.beq e.2.2 e.2.2) (zq (yS (iv .i64 e.1) (iv .i64 e.1)) (yS e.2.1 e.2.1))) (zcw (l.map (toG (iv .i64))) (l.map (toG (iv .i64))))=true
  rw [zhe (fun x hx=>h x (by simp [hx])),h e (by simp),kay,zHc,zHc];rfl
theorem zwZ {n:Nat}:∀ {l:LG Int},(∀ e∈l,n≠e.2.2)→zeH n (l.map (toG (iv .i64)))=true
 | [],_=>rfl
 | e::l,h=>by
  show (@Bool.rec (fun _=>Bool) (zeH n (l.map (toG (iv .i64)))) false (Nat.beq n e.2.2):Bool)=true
  rw [show Nat.beq n e.2.2=false by cases g:Nat.beq n e.2.2 with | false=>rfl | true=>exact absurd (kaa g) (h e (by simp))]
  exact zwZ fun x hx=>h x (by simp [hx])
theorem zxK {ck:Nat}:∀ {l:LG Int},(∀ e∈l,e.2.2<ck)→l.Pairwise (fun a b=>a.2.2≠b.2.2)→j8 ck (l.map (toG (iv .i64)))=true
 | [],_,_=>rfl
 | e::l,h,g=>by
  obtain ⟨g1,g2⟩:=List.pairwise_cons.1 g
  show zq (Nat.blt e.2.2 ck) (zq (zeH e.2.2 (l.map (toG (iv .i64)))) (j8 ck (l.map (toG (iv .i64)))))=true
  rw [show Nat.blt e.2.2 ck=true by rw [Nat.blt_eq];exact h e (by simp),zwZ g1,zxK (fun x hx=>h x (by simp [hx])) g2];rfl
def zb5 (um:Go.Ev.K) (l:LG Int) (ck:Nat) (rest:LG Int) (cur:Option ME):B:=.mit um (l.map (toG (iv .i64))) ck (rest.map (toG (iv .i64))) cur
theorem zJM (h:UM s um l ck) (k:V→S→Go.Ev.A):zm3 (.ref 0 um) s k=k (.ptr s.nx 0 0) (zN s (zb5 um l ck l none)):=by
 have hm:=h.at_
 unfold yj at hm
 show zY s um _=_
 rw [zK,hm]
 show (Bool.rec (motive:=fun _=>Go.Ev.A) _ _ (j8 ck (l.map (toG (iv .i64)))):Go.Ev.A)=_
 rw [zxK h.born h.diff]
 show jU s _ _=_
 rw [zLz];rfl
variable {it:Go.Ev.K}
theorem zAp {cur:Option ME} (h:UM s um l ck) (hi:Tr.get B.none it s.h=zb5 um l ck [] cur) (k:V→S→Go.Ev.A):zcW (.ptr it 0 0) s k=k (.ls 1 [.bool false]) (qj s it .none):=by
 have hm:=h.at_
 unfold yj at hm
 unfold zb5 at hi
 show zY s it _=_
 rw [zK,hi]
 show zY s um _=_
 rw [zK,hm]
 show (Bool.rec (motive:=fun _=>Go.Ev.A) _ _ (zq (Nat.beq ck ck) (zcw (l.map (toG (iv .i64))) (l.map (toG (iv .i64))))):Go.Ev.A)=_
 rw [zhe h.one,kay]
 show jP s it .none _=_
 rw [qp];rfl
variable {rest:LG Int}
theorem zM5 {e:Int × V × Nat} {cur:Option ME} (h:UM s um l ck) (hi:Tr.get B.none it s.h=zb5 um l ck (e::rest) cur) {k:V→S→Go.Ev.A} {Q:Go.Ev.A→Prop}
  (H:∀ l1 e' l2,e::rest=l1++e'::l2→(k (.ls 1 [.bool true,iv .i64 e'.1,e'.2.1]) (qj s it (zb5 um l ck (l1++l2) (some (toG (iv .i64) e'))))).all Q):(zcW (.ptr it 0 0) s k).all Q:=by
 have hm:=h.at_
 unfold yj at hm
 unfold zb5 at hi
 have e1:zcW (.ptr it 0 0) s k=zek (fun e r=>k (.ls 1 [.bool true,e.key,e.val]) (qj s it (.mit um (l.map (toG (iv .i64))) ck r (some e)))) ((e::rest).map (toG (iv .i64))) []:=by
  show zY s it _=_
  rw [zK,hi]
  show zY s um _=_
  rw [zK,hm]
  show (Bool.rec (motive:=fun _=>Go.Ev.A) _ _ (zq (Nat.beq ck ck) (zcw (l.map (toG (iv .i64))) (l.map (toG (iv .i64))))):Go.Ev.A)=_
  rw [zhe h.one,kay]
  show zek (fun e r=>jP s it (.mit um (l.map (toG (iv .i64))) ck r (some e)) fun s=>k (.ls 1 [.bool true,e.key,e.val]) s) ((e::rest).map (toG (iv .i64))) []=_
  congr 1
  funext e r
  rw [qp];rfl
 rw [e1]
 refine A.all_pick [] (by simp) fun l1 e' l2 he=>?_
 obtain ⟨l1',r,h1,h2,h3⟩:=List.map_eq_append_iff.1 he
 obtain ⟨e0,l2',h4,h5,h6⟩:=List.map_eq_cons_iff.1 h3
 subst h2 h5 h6
 have:=H l1' e0 l2' (by rw [h1,h4])
 simpa [zb5,toG] using this
theorem zLr {e:ME} (h:UM s um l ck) (hi:Tr.get B.none it s.h=zb5 um l ck rest (some e)) (c:V→Go.Ev.A):zoY (.ptr it 0 0) s c=c (.ls 1 [e.key,e.val]):=by
 have hm:=h.at_
 unfold yj at hm
 unfold zb5 at hi
 show zY s it _=_
 rw [zK,hi]
 show zY s um _=_
 rw [zK,hm]
 show (Bool.rec (motive:=fun _=>Go.Ev.A) _ _ (zq (Nat.beq ck ck) (zcw (l.map (toG (iv .i64))) (l.map (toG (iv .i64))))):Go.Ev.A)=_
 rw [zhe h.one,kay];rfl
theorem UM.keep {s':S} (h:UM s um l ck) (hk:Tr.get B.none um s'.h=Tr.get B.none um s.h):UM s' um l ck:=⟨by unfold yj;rw [hk];exact h.at_,h.one,h.born,h.diff,h.keys⟩
theorem zD7 {v:V} (h:zZ s v) {es es':List ME} {ck':Nat} (hm:Tr.get B.none um s.h=.map es ck):zZ (qj s um (.map es' ck')) v∧word (qj s um (.map es' ck')) v=word s v:=by
 have key:∀ a l n el gr mn f1 f2,Tr.get B.none a s.h=.row l n el gr mn f1 f2→Tr.get B.none a (qj s um (.map es' ck')).h=Tr.get B.none a s.h:=fun a l n el gr mn f1 f2 ha=>by
  rw [zm,if_neg]
  rintro rfl
  rw [hm] at ha
  cases ha
 rcases h with ⟨h1,h2,h3⟩
 have hcell:∀ j,zt (qj s um (.map es' ck')) v j=zt s v j:=fun j=>by
  rcases h1 with (rfl | ⟨c0,rfl⟩) | ⟨a,w,o,len,hv,hlt,l,n,el,gr,mn,f1,f2,g1,g2⟩
  ·rfl
  ·rfl
  ·rcases hv with ⟨cap,rfl,_⟩ | ⟨e,rfl⟩<;>simp [zt,key _ _ _ _ _ _ _ _ g1]
 refine ⟨⟨?_,h2,fun j hj=>by rw [hcell];exact h3 j hj⟩,?_⟩
 ·rcases h1 with h | ⟨a,w,o,len,hv,hlt,l,n,el,gr,mn,f1,f2,g1,g2⟩
  ·exact .inl h
  ·exact .inr ⟨a,w,o,len,hv,hlt,l,n,el,gr,mn,f1,f2,(key _ _ _ _ _ _ _ _ g1).trans g1,g2⟩
 ·unfold Go.Ev.word
  exact kaO fun j _=>by unfold qi;rw [hcell]
def za6 (F T:Nat→List Int) (n:Nat) (z:Int):Prop:=∃ i,i<n∧(z∈F i∨z∈T i)
structure SmallR (F T:Nat→List Int) (n:Nat) (sigma:Int):Prop where
 n8:n≤8
 sum:qv F n+qv T n≤14+n
 f13:∀ i,i<n→(F i).length≤13
 tne:∀ i,i<n→T i≠[]
 sym:∀ z,za6 F T n z→1≤z∧z≤sigma
 sg:0≤sigma∧sigma≤4
structure AOK (F T:Nat→List Int) (n:Nat) (sigma:Int) (A:Int→Prop):Prop where
 sym:∀ z,za6 F T n z→A z
 rng:∀ z,A z→1≤z∧z≤sigma
 oth:(∃ z,1≤z∧z≤sigma∧¬za6 F T n z)→∃ z,A z∧¬za6 F T n z
def zzE (l:V) (sigma:Int) (s:S) (v:V) (s':S):Prop:=Ext s s'∧∃ (gk:Go.Ev.K) (b:S) (nd:Nd) (nm:Go.Ev.K) (G:List PS) (nl:LG (List Nat)) (nc:Nat) (A:Int→Prop),v=.ptr gk 0 0∧GR b s' nd gk nm G nl nc (fun _=>True)∧GOk (zi s l) (toV s l) (zb l) A (z5 G)∧AOK (zi s l) (toV s l) (zb l) sigma A ∧
 G.length≤16384∧∀ x∈G,x.st.length≤12∧∀ e∈x.st,e.2.2<G.length∧e.1.length≤13
def zN2 (l:V) (sigma:Int) (s:S):Prop:=Tab s l∧qx s l∧SmallR (zi s l) (toV s l) (zb l) sigma
noncomputable def KNB:Nat→Ct
 | 28=>ctI (X:=V × Int) (fun ⟨l,sigma⟩ a s=>a=[l,iv .i64 sigma]∧zN2 l sigma s) (fun ⟨l,sigma⟩ s v s'=>zzE l sigma s v s')
 | _=>⟨fun _ _=>False,fun _ _ _ _=>True⟩
structure B1X where
 l:V
 sigma:Int
 s0:S
 s1:S
 um:Go.Ev.K
 rt:V
 i:Nat
 w:List Int
 K0:Int→Prop
 cv:V
def B1X.base (x:B1X) (s:S):Prop:=Tab x.s0 x.l∧qx x.s0 x.l∧SmallR (zi x.s0 x.l) (toV x.s0 x.l) (zb x.l) x.sigma∧Ext x.s0 x.s1∧Ext x.s1 s∧x.s1.nx.toNat≤x.um.toNat∧x.um.toNat<s.nx.toNat
def B1X.fr (x:B1X) (tm:T):Prop:=gp 0 tm=x.l∧gp 1 tm=iv .i64 x.sigma∧gp 5 tm=x.rt∧gp 6 tm=.ref 0 x.um∧gp 240 tm=.bad
def B1X.pre52 (x:B1X) (tm:T) (s:S):Prop:=x.fr tm∧x.base s∧gp 21 tm=x.l∧gp 22 tm=iv .i64 (zb x.l:Int)∧∃ (i:Nat) (ul:LG Int) (uck:Nat),i≤zb x.l∧gp 23 tm=iv .i64 (i:Int)∧UM s x.um ul uck∧∀ y,y∈ul.map (·.1)↔za6 (zi x.s0 x.l) (toV x.s0 x.l) i y
def B1X.post52 (x:B1X) (a:Go.Ev.A):Prop:=∃ tm s,a=.ext 0 tm s∧x.fr tm∧x.base s∧∃ (ul:LG Int) (uck:Nat),UM s x.um ul uck∧∀ y,y∈ul.map (·.1)↔za6 (zi x.s0 x.l) (toV x.s0 x.l) (zb x.l) y
def B1X.pre22 (x:B1X) (tm:T) (s:S):Prop:=x.fr tm∧x.base s∧gp 21 tm=x.l∧gp 22 tm=iv .i64 (zb x.l:Int)∧gp 23 tm=iv .i64 (x.i:Int)∧gp 25 tm=x.cv∧gp 26 tm=iv .i64 (x.w.length:Int)∧zZ s x.cv∧word s x.cv=x.w ∧
 ∃ (j:Nat) (ul:LG Int) (uck:Nat),j≤x.w.length∧gp 27 tm=iv .i64 (j:Int)∧UM s x.um ul uck∧∀ y,y∈ul.map (·.1)↔(x.K0 y∨y∈x.w.take j)
def B1X.post22 (x:B1X) (a:Go.Ev.A):Prop:=∃ tm s,a=.ext 2 tm s∧x.fr tm∧x.base s∧gp 21 tm=x.l∧gp 22 tm=iv .i64 (zb x.l:Int)∧gp 23 tm=iv .i64 (x.i:Int)∧∃ (ul:LG Int) (uck:Nat),UM s x.um ul uck∧∀ y,y∈ul.map (·.1)↔(x.K0 y∨y∈x.w)
def B1X.pre30 (x:B1X) (tm:T) (s:S):Prop:=x.fr tm∧x.base s∧(∃ (ul:LG Int) (uck:Nat),UM s x.um ul uck∧∀ y,y∈ul.map (·.1)↔za6 (zi x.s0 x.l) (toV x.s0 x.l) (zb x.l) y) ∧
 ∃ z:Int,gp 11 tm=iv .i64 z∧1≤z∧z≤x.sigma+1∧∀ y,1≤y→y<z→za6 (zi x.s0 x.l) (toV x.s0 x.l) (zb x.l) y
def B1X.post30 (x:B1X) (a:Go.Ev.A):Prop:=∃ tm s,a=.ext 4 tm s∧x.fr tm∧x.base s∧∃ (ul:LG Int) (uck:Nat),UM s x.um ul uck∧AOK (zi x.s0 x.l) (toV x.s0 x.l) (zb x.l) x.sigma (fun y=>y∈ul.map (·.1))
structure B2X where
 l:V
 sigma:Int
 s0:S
 b:S
 nd:Nd
 rw:List Int→Int
 idf:List Int→Nat
 c:Nat
 gk:Go.Ev.K
 nm:Go.Ev.K
 um:Go.Ev.K
 ul:LG Int
 uck:Nat
 r0:Go.Ev.K
 m0:Go.Ev.K
 q:Nat
 it:Go.Ev.K
 j:Nat
 bx:V
 s:S
noncomputable abbrev B2X.FF (x:B2X):Nat→List Int:=zi x.s0 x.l
noncomputable abbrev B2X.TT (x:B2X):Nat→List Int:=toV x.s0 x.l
abbrev B2X.nn (x:B2X):Nat:=zb x.l
abbrev B2X.AA (x:B2X):Int→Prop:=fun y=>y∈x.ul.map (·.1)
noncomputable abbrev B2X.dd (x:B2X):Nat:=qv x.TT x.nn - x.nn
def B2X.base (x:B2X):Prop:=Tab x.s0 x.l∧qx x.s0 x.l∧SmallR x.FF x.TT x.nn x.sigma∧Ext x.s0 x.b∧TreeF x.b x.nd x.rw x.idf x.c∧TrOk x.FF x.nn x.nd x.rw∧x.idf []=1∧x.nd []=some (x.r0,x.m0)∧x.c≤1+qv x.FF x.nn∧x.um.toNat<x.b.nx.toNat∧UM x.b x.um x.ul x.uck∧AOK x.FF x.TT x.nn x.sigma x.AA
def B2X.fr (x:B2X) (tm:T):Prop:=gp 0 tm=x.l∧gp 5 tm=.ptr x.r0 0 0∧gp 6 tm=.ref 0 x.um∧gp 12 tm=.ptr x.gk 0 0∧gp 240 tm=.bad
def dnS (F:Nat→List Int) (n:Nat) (dk:List Int) (i o:List Int):Prop:=∃ z∈dk,i=[z]∧o=[z]∧¬zcz F n [z]
def dnR (F T:Nat→List Int) (n:Nat) (dk:List Int) (j:Nat) (i o:List Int):Prop:=dnS F n dk i o∨∃ k,k<j∧i=F k∧o=T k
def B2X.gr (x:B2X) (s:S) (q:Nat) (dn:List Int→List Int→Prop) (cn m:Nat) (full:Prop):Prop:=∃ (G:List PS) (nl:LG (List Nat)) (nc:Nat),GR x.b s x.nd x.gk x.nm G nl nc (fun _=>True)∧NamesOK x.nd x.idf G nl∧BI x.FF x.TT x.nn x.AA G q dn cn m x.dd∧q≤G.length∧(full→∃ p,G[q]?=some p∧p.fl=true)
def B2X.pre158 (x:B2X) (tm:T) (s:S):Prop:=x.base∧x.fr tm∧gp 13 tm=iv .i64 (x.q:Int)∧x.gr s x.q (fun _ _=>False) 0 0 False
def B2X.post158 (x:B2X) (a:Go.Ev.A):Prop:=∃ tm s,a=.ext 6 tm s∧gp 12 tm=.ptr x.gk 0 0∧gp 240 tm=.bad∧∃ (G:List PS) (nl:LG (List Nat)) (nc:Nat),GR x.b s x.nd x.gk x.nm G nl nc (fun _=>True)∧NamesOK x.nd x.idf G nl∧BI x.FF x.TT x.nn x.AA G G.length (fun _ _=>False) 0 0 x.dd
def B2X.pre46 (x:B2X) (tm:T) (s:S):Prop:=x.base∧x.fr tm∧gp 13 tm=iv .i64 (x.q:Int)∧gp 33 tm=.ptr x.it 0 0∧x.b.nx.toNat≤x.it.toNat∧x.it.toNat<s.nx.toNat∧∃ (rest:LG Int) (cur:Option ME) (dk:List Int),Tr.get B.none x.it s.h=zb5 x.um x.ul x.uck rest cur ∧
 (∀ y,y∈x.ul.map (·.1)↔(y∈dk∨y∈rest.map (·.1)))∧dk.length+rest.length=x.ul.length∧x.gr s x.q (dnS x.FF x.nn dk) 0 dk.length True
def B2X.post46 (x:B2X) (a:Go.Ev.A):Prop:=∃ tm s,a=.ext 8 tm s∧x.fr tm∧gp 13 tm=iv .i64 (x.q:Int)∧x.gr s x.q (dnS x.FF x.nn (x.ul.map (·.1))) 0 x.ul.length True
def B2X.pre66 (x:B2X) (tm:T) (s:S):Prop:=x.base∧x.fr tm∧gp 13 tm=iv .i64 (x.q:Int)∧gp 36 tm=x.l∧gp 37 tm=iv .i64 (x.nn:Int)∧∃ j:Nat,j≤x.nn∧gp 38 tm=iv .i64 (j:Int)∧x.gr s x.q (dnR x.FF x.TT x.nn (x.ul.map (·.1)) j) (qv x.TT j - j) (x.ul.length+j) True
def B2X.post66 (x:B2X) (a:Go.Ev.A):Prop:=∃ tm s,a=.ext 10 tm s∧x.fr tm∧gp 13 tm=iv .i64 (x.q:Int)∧x.gr s x.q (dnR x.FF x.TT x.nn (x.ul.map (·.1)) x.nn) (qv x.TT x.nn - x.nn) (x.ul.length+x.nn) True
def B2X.fr26 (x:B2X) (tm:T):Prop:=x.fr tm∧gp 13 tm=iv .i64 (x.q:Int)∧gp 36 tm=x.l∧gp 37 tm=iv .i64 (x.nn:Int)∧gp 38 tm=iv .i64 (x.j:Int)∧gp 17 tm=x.bx
def B2X.pre26 (x:B2X) (tm:T) (s:S):Prop:=s=x.s∧x.base∧Ext x.b s∧x.fr26 tm∧x.j<x.nn∧gp 40 tm=zt x.s0 x.l (x.j*2)∧gp 41 tm=iv .i64 ((x.FF x.j).length:Int)∧∃ k:Nat,k≤(x.FF x.j).length∧gp 42 tm=iv .i64 (k:Int)∧gp 18 tm=ndV x.nd ((x.FF x.j).take k)
def B2X.post26 (x:B2X) (a:Go.Ev.A):Prop:=∃ tm,a=.ext 12 tm x.s∧x.fr26 tm∧gp 18 tm=ndV x.nd (x.FF x.j)
noncomputable def ltB:Nat→Lt
 | 22=>ltI B1X.pre22 B1X.post22
 | 52=>ltI B1X.pre52 B1X.post52
 | 30=>ltI B1X.pre30 B1X.post30
 | 26=>ltI B2X.pre26 B2X.post26
 | 66=>ltI B2X.pre66 B2X.post66
 | 46=>ltM B2X.pre46 B2X.post46
 | _=>ltM B2X.pre158 B2X.post158
theorem zHt {f:Nat} {X:Type} {pre:X→List V→S→Prop} {post:X→S→V→S→Prop} (h:zL Tryz.prog KB2 f) (hK:KB2 f=ctI pre post) (hn:∀ a s,¬(KNB f).pre a s):∀ x a s,pre x a s→∃ v s',(RkN Tryz.prog KB2 KNB ltB).call f a s=.ret v s'∧post x s v s' :=
 qV (zd8 (L:=ltB) h hn) hK
theorem zO3 (h:zL Tryz.prog KB 53):zL Tryz.prog KB2 53:=h
theorem zMO:∀ (x:B1X) tm s,x.pre22 tm s→x.post22 (zcg.run (RkN Tryz.prog KB2 KNB ltB) tm s):=by
 refine zdf (L:=ltB) zG.1 zG.2 zGa rfl (fun tm _=>(toI (gp 26 tm)).toNat - (toI (gp 27 tm)).toNat) (fun x a ⟨_,_,h,_⟩=>by rw [h];exact fun h=>h) ?_
 rintro ⟨l,sigma,s0,s1,um,rt,i,w,K0,cv⟩ tm s ⟨⟨h0,h1,h5,h6,h240⟩,⟨hl,hok,hsm,hE0,hE1,hu1,hu2⟩,h21,h22,h23,h25,h26,hcv,hcw,j,ul,uck,hj,h27,hU,hkeys⟩ IH
 show B1X.post22 _ (zcg.run _ tm _)
 generalize RkN Tryz.prog _ _ _=r at IH ⊢
 simp only at h0 h1 h5 h6 hl hok hsm hE0 hE1 hu1 hu2 h21 h22 h23 h25 h26 hcv hcw hj hU hkeys
 have hwl:w.length=zb cv:=by rw [←hcw,zA]
 by_cases hlt:j<w.length
 ·have hlt':((j:Int)<(w.length:Int))=True:=eq_true (by omega)
  have hmax:=hcv.2.1
  have hw:IntKind.i64.wrap ((j:Int)+1)=((j+1:Nat):Int):=by rw [z9 (by omega) (by omega)];omega
  obtain ⟨p,hp,hP⟩:=hcv.at_ (i:=j) (by omega)
  have hz:w[j]?=some (qi s cv j):=by rw [←hcw];exact yb (by omega)
  generalize qi s cv j=z at hP hz
  have htk:=zaY hz
  obtain ⟨l',ck',u1,u2,u3⟩:=hU.upd z
  have hmm:=hU.at_
  unfold yj at hmm
  obtain ⟨hcv2,hcw2⟩:=zD7 (es':=l'.map (toG (iv .i64))) (ck':=ck') hcv hmm
  have hE2:Ext s1 (qj s um (.map (l'.map (toG (iv .i64))) ck')):=⟨hE1.nx,fun c hc=>by rw [zm,if_neg (fun e=>by rw [e] at hc;omega)];exact hE1.get c hc⟩
  have hu3:um.toNat<(qj s um (.map (l'.map (toG (iv .i64))) ck')).nx.toNat:=hu2
  generalize qj s um (.map (l'.map (toG (iv .i64))) ck')=s2 at u1 u2 hcv2 hcw2 hE2 hu3
  simp -implicitDefEqProofs [zq7,qt,h6,h25,h26,h27,hlt',hp,hP,u1,hw,-Int.natCast_add]
  refine IH ⟨l,sigma,s0,s1,um,rt,i,w,K0,cv⟩ _ s2 ?_ ⟨⟨by simp [h0],by simp [h1],by simp [h5],by simp [h6],by simp [h240]⟩,⟨hl,hok,hsm,hE0,hE2,hu1,?_⟩,by simp [h21],by simp [h22],by simp [h23],by simp [h25],by simp [h26],hcv2,hcw2.trans hcw,j+1,l',ck',hlt,by simp,u2,fun y=>?_⟩
  ·rw [h26,h27,zn,zn];simp [h26,zn,-Int.natCast_add];omega
  ·exact hu3
  ·simp only
   rw [u3,hkeys,htk,kak,kag,or_assoc]
 ·obtain rfl:j=w.length:=by omega
  rw [List.take_length] at hkeys
  simp -implicitDefEqProofs [zq7,qt,h26,h27]
  exact ⟨_,_,rfl,⟨by simp [h0],by simp [h1],by simp [h5],by simp [h6],by simp [h240]⟩,⟨hl,hok,hsm,hE0,hE1,hu1,hu2⟩,by simp [h21],by simp [h22],by simp [h23],ul,uck,hU,hkeys⟩
theorem zFG {F T:Nat→List Int} {i:Nat} {z:Int}:za6 F T (i+1) z↔za6 F T i z∨z∈F i++T i:=by
 unfold za6
 constructor
 ·rintro ⟨k,hk,h⟩
  rcases kaq k i with g | g
  ·exact .inl ⟨k,g,h⟩
  ·obtain rfl:k=i:=by omega
   exact .inr (kak.2 h)
 ·rintro (⟨k,hk,h⟩ | h)
  ·exact ⟨k,by omega,h⟩
  ·exact ⟨i,by omega,kak.1 h⟩
theorem zMF:∀ (x:B1X) tm s,x.pre52 tm s→x.post52 (zcP.run (RkN Tryz.prog KB2 KNB ltB) tm s):=by
 refine zdf (L:=ltB) zG.1 zG.2 zE0 rfl (fun tm _=>(toI (gp 22 tm)).toNat - (toI (gp 23 tm)).toNat) (fun x a ⟨_,_,h,_⟩=>by rw [h];exact fun h=>h) ?_
 rintro ⟨l,sigma,s0,s1,um,rt,i0,w0,K0,cv0⟩ tm s ⟨⟨h0,h1,h5,h6,h240⟩,⟨hl,hok,hsm,hE0,hE1,hu1,hu2⟩,h21,h22,i,ul,uck,hi,h23,hU,hkeys⟩ IH
 show B1X.post52 _ (zcP.run _ tm _)
 have hC:=zHt zrW (X:=Go.Ev.K × V × V) rfl (fun _ _ h=>h)
 have hIn:=zMO
 generalize RkN Tryz.prog _ _ _=r at IH hC hIn ⊢
 simp only at h0 h1 h5 h6 hl hok hsm hE0 hE1 hu1 hu2 h21 h22 hi hU hkeys
 by_cases hlt:i<zb l
 ·have hlt':((i:Int)<(zb l:Int))=True:=eq_true (by omega)
  have hw:=zlm hlt hl.2.1.1
  have hw:IntKind.i64.wrap ((i:Int)+1)=((i+1:Nat):Int):=by rw [hw];omega
  have hE:Ext s0 s:=hE0.trans hE1
  have hv':=hl.ext hE
  obtain ⟨p,q0,q1,hp,-,-,-,-,hL⟩:=hv'.1.fields hlt
  have hx:=hv'.1.2.2 i hlt
  have hx0:=hl.2.2 i hlt
  have hFT:(zi s0 l i=word s0 (zt s0 l (i*2)))∧toV s0 l i=word s0 (zt s0 l (i*2+1)):=⟨rfl,rfl⟩
  have hrow:=hok.2.2 i hlt
  rw [hv'.2.1,hv'.2.1] at hL hx
  generalize zt s0 l (i*2)=F at hL hx hx0 hFT
  generalize zt s0 l (i*2+1)=T at hL hx hx0 hFT
  have hEn:Ext s (zN s (.row [F,T] 2 49 false 0 0 0)):=zO _ _
  have hst:=qX s 49 2 [V.nil 1,V.nil 1] [F,T] rfl rfl
  have hg0:=zx s (.row [F,T] 2 49 false 0 0 0)
  have hn1:(zN s (.row [F,T] 2 49 false 0 0 0)).nx.toNat=s.nx.toNat+1:=K.toNat_succ _
  generalize hs2:zN s (.row [F,T] 2 49 false 0 0 0)=s2 at hEn hst hg0 hn1
  have ld0:∀ f:V→S→Go.Ev.A,zd false 1 (.ptr s.nx 0 0) s2 f=f F s2:=fun f=>zw hg0 0 rfl (by omega) (by simpa using hx.1.ne) f
  have ld1:∀ f:V→S→Go.Ev.A,zd false 1 (.ptr s.nx 0 1) s2 f=f T s2:=fun f=>zw hg0 1 rfl (by omega) (by simpa using hx.2.ne) f
  have hE3:=zO s2 (.row [F,T] 2 29 false 0 0 0)
  have hg3:=zx s2 (.row [F,T] 2 29 false 0 0 0)
  have hn3:(zN s2 (.row [F,T] 2 29 false 0 0 0)).nx.toNat=s2.nx.toNat+1:=K.toNat_succ _
  generalize hs3:zN s2 (.row [F,T] 2 29 false 0 0 0)=s3 at hE3 hg3 hn3
  have hE03:Ext s0 s3:=(hE.trans hEn).trans hE3
  have hFl:zb F≤20:=by rw [zcp (s:=s0),←hFT.1];exact hrow.2.1
  have hTl:zb T≤20:=by rw [zcp (s:=s0),←hFT.2];exact hrow.2.2.1
  obtain ⟨cv,s4,e1,hE4,hG4,hw4⟩:=hC (s2.nx,F,T) _ s3 ⟨rfl,hg3,by omega,(hx0.1.ext hE03).1,(hx0.2.ext hE03).1,by omega⟩
  rw [hx0.1.word hE03,hx0.2.word hE03,←hFT.1,←hFT.2] at hw4
  have hcl:zb cv=(zi s0 l i++toV s0 l i).length:=by rw [zcp (s:=s4),hw4]
  have hcl40:zb cv≤40:=by rw [hcl,kah];have:=hrow.2.1;have:=hrow.2.2.1;omega
  have hcI:zZ s4 cv:=hG4.ints (by omega)
  have hE14:Ext s1 s4:=((hE1.trans hEn).trans hE3).trans hE4
  have hU4:UM s4 um ul uck:=hU.keep (((hEn.trans hE3).trans hE4).get um hu2)
  have hclen:∀ f:V→Go.Ev.A,zz cv f=f (iv .i64 ((zi s0 l i++toV s0 l i).length:Int)):=fun f=>by rw [hcI.1.len,hcl]
  have cF:∀ f:List V→Go.Ev.A,zp 1 F f=f [F]:=jb hx.1
  have cT:∀ f:List V→Go.Ev.A,zp 1 T f=f [T]:=jb hx.2
  simp -implicitDefEqProofs [zoA,qt,h21,h22,h23,hlt',hp,hL,zo,hst,ld0,ld1,rep,cF,cT,upd,put,hs3,e1,hclen,-Int.natCast_add,-List.length_append]
  generalize hA:zcg.run r _ s4=a
  obtain ⟨tm',s5,rfl,⟨k0,k1,k5,k6,k240⟩,kb,k21,k22,k23,ul',uck',kU,kk⟩:=hA▸hIn ⟨l,sigma,s0,s1,um,rt,i,zi s0 l i++toV s0 l i,za6 (zi s0 l) (toV s0 l) i,cv⟩ _ s4 ⟨⟨by simp [h0],by simp [h1],by simp [h5],by simp [h6],by simp [h240]⟩,⟨hl,hok,hsm,hE0,hE14,hu1,by simp only;have:=hEn.nx;have:=hE3.nx;have:=hE4.nx;omega⟩,
   by simp [h21],by simp [h22],by simp [h23],by simp,by simp,hcI,hw4,0,ul,uck,Nat.zero_le _,by simp,hU4,fun y=>by simp only [List.take_zero];rw [hkeys y];simp⟩
  simp only at k0 k1 k5 k6 k21 k22 k23 kU kk
  simp -implicitDefEqProofs [k23,hw,-Int.natCast_add]
  refine IH ⟨l,sigma,s0,s1,um,rt,i0,w0,K0,cv0⟩ _ s5 ?_ ⟨⟨by simp [k0],by simp [k1],by simp [k5],by simp [k6],by simp [k240]⟩,kb,by simp [k21],by simp [k22],i+1,ul',uck',hlt,by simp,kU,fun y=>by simp only;rw [kk,zFG]⟩
  rw [h22,h23,zn,zn];simp [k22,zn,-Int.natCast_add];omega
 ·obtain rfl:i=zb l:=by omega
  simp -implicitDefEqProofs [zoA,qt,h22,h23]
  exact ⟨_,_,rfl,⟨by simp [h0],by simp [h1],by simp [h5],by simp [h6],by simp [h240]⟩,⟨hl,hok,hsm,hE0,hE1,hu1,hu2⟩,ul,uck,hU,hkeys⟩
theorem zMY:∀ (x:B1X) tm s,x.pre30 tm s→x.post30 (zcD.run (RkN Tryz.prog KB2 KNB ltB) tm s):=by
 refine zdf (L:=ltB) zG.1 zG.2 zFO rfl (fun tm _=>10 - (toI (gp 11 tm)).toNat) (fun x a ⟨_,_,h,_⟩=>by rw [h];exact fun h=>h) ?_
 rintro ⟨l,sigma,s0,s1,um,rt,i0,w0,K0,cv0⟩ tm s ⟨⟨h0,h1,h5,h6,h240⟩,⟨hl,hok,hsm,hE0,hE1,hu1,hu2⟩,⟨ul,uck,hU,hkeys⟩,z,h11,hz1,hz2,hall⟩ IH
 show B1X.post30 _ (zcD.run _ tm _)
 generalize RkN Tryz.prog _ _ _=r at IH ⊢
 simp only at h0 h1 h5 h6 hl hok hsm hE0 hE1 hu1 hu2 hz2 hU hkeys hall
 have hsg:=hsm.sg
 by_cases hle:z≤sigma
 ·have hle':(z≤sigma)=True:=eq_true hle
  have hlk:=fun f=>hU.look z f
  by_cases hin:z∈ul.map (·.1)
  ·rw [if_pos hin] at hlk
   have hw:IntKind.i64.wrap (z+1)=z+1:=z9 (by omega) (by omega)
   simp -implicitDefEqProofs [zgu,qt,h1,h6,h11,hle',hlk,hw]
   refine IH ⟨l,sigma,s0,s1,um,rt,i0,w0,K0,cv0⟩ _ s ?_ ⟨⟨by simp [h0],by simp [h1],by simp [h5],by simp [h6],by simp [h240]⟩,⟨hl,hok,hsm,hE0,hE1,hu1,hu2⟩,⟨ul,uck,hU,hkeys⟩,z+1,by simp,by omega,by simp only;omega,fun y hy1 hy2=>?_⟩
   ·rw [h11,zn];simp [zn];omega
   ·simp only
    rcases (show y<z∨z≤y by omega) with g | g
    ·exact hall y hy1 g
    ·obtain rfl:y=z:=by omega
     exact (hkeys _).1 hin
  ·rw [if_neg hin] at hlk
   obtain ⟨l',ck',u1,u2,u3⟩:=hU.upd z
   have hE2:Ext s1 (qj s um (.map (l'.map (toG (iv .i64))) ck')):=⟨hE1.nx,fun c hc=>by rw [zm,if_neg (fun e=>by rw [e] at hc;omega)];exact hE1.get c hc⟩
   have hu3:um.toNat<(qj s um (.map (l'.map (toG (iv .i64))) ck')).nx.toNat:=hu2
   generalize qj s um (.map (l'.map (toG (iv .i64))) ck')=s2 at u1 u2 hE2 hu3
   simp -implicitDefEqProofs [zgu,qt,h1,h6,h11,hle',hlk,u1,zFY]
   refine ⟨_,_,rfl,⟨by simp [h0],by simp [h1],by simp [h5],by simp [h6],by simp [h240]⟩,⟨hl,hok,hsm,hE0,hE2,hu1,hu3⟩,l',ck',u2,⟨fun y hy=>?_,fun y hy=>?_,fun _=>⟨z,?_,fun h=>hin ((hkeys z).2 h)⟩⟩⟩
   ·simp only at hy ⊢
    rw [u3];exact .inl ((hkeys y).2 hy)
   ·simp only at hy ⊢
    rw [u3] at hy
    rcases hy with hy | rfl
    ·exact hsm.sym y ((hkeys y).1 hy)
    ·exact ⟨hz1,hle⟩
   ·rw [u3];exact .inr rfl
 ·have hle':(z≤sigma)=False:=eq_false hle
  simp -implicitDefEqProofs [zgu,qt,h1,h11,hle']
  refine ⟨_,_,rfl,⟨by simp [h0],by simp [h1],by simp [h5],by simp [h6],by simp [h240]⟩,⟨hl,hok,hsm,hE0,hE1,hu1,hu2⟩,ul,uck,hU,⟨fun y hy=>(hkeys y).2 hy,fun y hy=>hsm.sym y ((hkeys y).1 hy),fun ⟨y,g1,g2,g3⟩=>absurd (hall y g1 (by simp only at g2;omega)) g3⟩⟩
section
variable {F T:Nat→List Int} {n:Nat} {A:Int→Prop}
theorem BI.mono {G:List PS} {q:Nat} {dn dn2:List Int→List Int→Prop} {cn cn2 m m2 d:Nat} (h:BI F T n A G q dn cn m d) (hd:∀ i o,dn2 i o→dn i o) (hc:cn≤cn2) (hm:m≤m2):BI F T n A G q dn2 cn2 m2 d :=
 ⟨h.start,h.sound,h.compl,fun x hx hf i o hdn ha=>h.done x hx hf i o (hd i o hdn) ha,h.fresh,fun x hx hf=>kar (h.here x hx hf) hm,h.stl,h.wf,h.inw,h.runs,kar h.cnt (by omega)⟩
theorem zfp (h:∀ i,i<n→T i≠[]):∀ j,j≤n→j≤qv T j
 | 0,_=>Nat.zero_le _
 | j+1,hj=>by
  have:=zfp h j (by omega)
  have:=List.length_pos_iff.2 (h j (by omega))
  rw [qv];omega
theorem zuA (h:∀ i,i<n→T i≠[]):∀ k j,j+k≤n→qv T j - j≤qv T (j+k) - (j+k)
 | 0,_,_=>kab _
 | k+1,j,hj=>by
  have h1:=zuA h k j (by omega)
  have h2:=List.length_pos_iff.2 (h (j+k) (by omega))
  have h3:=zfp h (j+k) (by omega)
  show qv T j - j≤(qv T (j+k)+(T (j+k)).length) - (j+(k+1))
  omega
end
variable {x:B2X}
theorem B2X.short (h:x.base):zJu x.nd x.rw:=by
 obtain ⟨-,-,hsm,-,-,hTr,-⟩:=h
 intro w hw hr
 obtain ⟨i,hi,hp⟩:=(hTr.node w).1 hw
 have h1:=hsm.f13 i hi
 have h2:=hp.length_le
 rcases kaq w.length (x.FF i).length with g | g
 ·omega
 ·have e:w=x.FF i:=by
   rw [List.prefix_iff_eq_take.1 hp,List.take_of_length_le g]
  have:=(hTr.row w hw).2 ⟨i,hi,e⟩
  omega
variable {nl:LG (List Nat)} {G:List PS} {m q:Nat}
theorem B2X.sz (h:x.base) {dn:List Int→List Int→Prop} {cn:Nat} (hN:NamesOK x.nd x.idf G nl) (hB:BI x.FF x.TT x.nn x.AA G q dn cn m x.dd) {p:PS} (hp:G[q]?=some p) (hf:p.fl=true) (hc:cn≤x.dd):G.length≤16384:=by
 obtain ⟨-,-,hsm,-,hT,-,h1,hr,hcc,-⟩:=h
 have h2:=zfp hsm.tne x.nn (kab _)
 have h3:=hsm.sum
 have hc1:1≤x.c:=by
  obtain ⟨g1,g2,-⟩:=hT.ids.1 [] _ _ hr
  omega
 refine hB.size (BI.cur hp hf hc) (zHO hT h1 (by rw [hr];simp) hN hB.runs) ?_
 show x.c - 1+(qv x.TT x.nn - x.nn)≤14
 simp only [B2X.FF,B2X.TT,B2X.nn] at *
 omega
theorem zMX:∀ (x:B2X) tm s,x.pre26 tm s→x.post26 (zbf.run (RkN Tryz.prog KB2 KNB ltB) tm s):=by
 refine zdf (L:=ltB) zG.1 zG.2 zDF rfl (fun tm _=>(toI (gp 41 tm)).toNat - (toI (gp 42 tm)).toNat) (fun x a ⟨_,h,_⟩=>by rw [h];exact fun h=>h) ?_
 rintro x tm s ⟨hs,hb,hE,⟨⟨h0,h5,h6,h12,h240⟩,h13,h36,h37,h38,h17⟩,hj,h40,h41,k,hk,h42,h18⟩ IH
 show B2X.post26 _ (zbf.run _ tm _)
 generalize RkN Tryz.prog _ _ _=r at IH ⊢
 obtain ⟨hl,hok,hsm,hE0,hT,hTr,-⟩:=id hb
 have hI:=(hl.2.2 x.j hj).1
 have hFe:x.FF x.j=word x.s0 (zt x.s0 x.l (x.j*2)):=rfl
 have hnode:∀ k,∃ a m,x.nd ((x.FF x.j).take k)=some (a,m):=fun k=>by
  obtain ⟨p,hp⟩:=kaz.1 ((hTr.node ((x.FF x.j).take k)).2 ⟨x.j,hj,List.take_prefix _ _⟩)
  exact ⟨p.1,p.2,hp⟩
 by_cases hlt:k<(x.FF x.j).length
 ·have hlt':((k:Int)<((x.FF x.j).length:Int))=True:=eq_true (by omega)
  have h13':=hsm.f13 x.j hj
  have hw:IntKind.i64.wrap ((k:Int)+1)=((k+1:Nat):Int):=by rw [z9 (by omega) (by omega)];omega
  obtain ⟨p,hp,hP⟩:=(hI.ext (hE0.trans hE)).1.at_ (i:=k) (by rw [hFe,zA] at hlt;exact hlt)
  rw [(hI.ext (hE0.trans hE)).2 k] at hP
  have hz:(x.FF x.j)[k]?=some (qi x.s0 (zt x.s0 x.l (x.j*2)) k):=yb (by rw [hFe,zA] at hlt;exact hlt)
  generalize qi x.s0 (zt x.s0 x.l (x.j*2)) k=z at hP hz
  have htk:=zaY hz
  obtain ⟨a,m,ha⟩:=hnode k
  obtain ⟨a2,m2,ha2⟩:=hnode (k+1)
  obtain ⟨d1,d2,d3,d4⟩:=zhI hT hE ha
  rw [htk] at ha2
  have e4:=fun c=>d4 z c a2 m2 ha2
  have hv:gp 18 tm=.ptr a 0 0:=by rw [h18];unfold ndV;rw [ha]
  simp -implicitDefEqProofs [zlr,qt,h40,h41,h42,hv,hlt',hp,hP,d1,e4,hw,-Int.natCast_add]
  refine IH x _ s ?_ ⟨hs,hb,hE,⟨⟨by simp [h0],by simp [h5],by simp [h6],by simp [h12],by simp [h240]⟩,by simp [h13],by simp [h36],by simp [h37],by simp [h38],by simp [h17]⟩,hj,by simp [h40],by simp [h41],k+1,hlt,by simp,?_⟩
  ·rw [h41,h42,zn,zn];simp [h41,zn,-Int.natCast_add];omega
  ·rw [htk]
   unfold ndV
   rw [ha2]
   simp
 ·obtain rfl:k=(x.FF x.j).length:=by omega
  rw [List.take_length] at h18
  subst hs
  simp -implicitDefEqProofs [zlr,qt,h41,h42]
  exact ⟨_,rfl,⟨⟨by simp [h0],by simp [h5],by simp [h6],by simp [h12],by simp [h240]⟩,by simp [h13],by simp [h36],by simp [h37],by simp [h38],by simp [h17]⟩,by simp [h18]⟩
theorem zM1:∀ (x:B2X) tm s,x.pre66 tm s→x.post66 (za7.run (RkN Tryz.prog KB2 KNB ltB) tm s):=by
 refine zdf (L:=ltB) zG.1 zG.2 zCF rfl (fun tm _=>(toI (gp 37 tm)).toNat - (toI (gp 38 tm)).toNat) (fun x a ⟨_,_,h,_⟩=>by rw [h];exact fun h=>h) ?_
 rintro x tm s ⟨hb,⟨h0,h5,h6,h12,h240⟩,h13,h36,h37,j,hj,h38,G,nl,nc,hG,hN,hB,hq,hfull⟩ IH
 show B2X.post66 _ (za7.run _ tm _)
 have hC:=zHt (f:=54) (show zL Tryz.prog KB2 54 from zBp) (X:=GX × (List Int→Int) × (List Int→Nat) × Nat × Nat × PS × V × List Int × V × List Int × V) rfl (fun _ _ h=>h)
 have hIn:=zMX
 generalize RkN Tryz.prog _ _ _=r at IH hC hIn ⊢
 obtain ⟨hl,hok,hsm,hE0,hT,hTr,hid1,hroot,hcc,hum,hU,hA⟩:=id hb
 by_cases hlt:j<x.nn
 ·have hlt':((j:Int)<(x.nn:Int))=True:=eq_true (by omega)
  have hn8:=hsm.n8
  have hw:IntKind.i64.wrap ((j:Int)+1)=((j+1:Nat):Int):=by
   have:x.nn≤8:=hn8
   rw [z9 (by omega) (by omega)];omega
  have hEb:Ext x.b s:=by obtain ⟨D,vS,vF,vR,el,h1,-⟩:=hG;exact h1.ext
  have hE:Ext x.s0 s:=hE0.trans hEb
  have hv':=hl.ext hE
  obtain ⟨p,q0,q1,hp,-,-,-,-,hL⟩:=hv'.1.fields hlt
  have hx:=hv'.1.2.2 j hlt
  have hx0:=hl.2.2 j hlt
  rw [hv'.2.1,hv'.2.1] at hL hx
  obtain ⟨Fv,hFv⟩:∃ Fv,Fv=zt x.s0 x.l (j*2):=⟨_,rfl⟩
  obtain ⟨Tv,hTv⟩:∃ Tv,Tv=zt x.s0 x.l (j*2+1):=⟨_,rfl⟩
  rw [←hFv,←hTv] at hL hx hx0
  have hFe:x.FF j=word x.s0 Fv:=by rw [hFv];rfl
  have hTe:x.TT j=word x.s0 Tv:=by rw [hTv];rfl
  have hEn:Ext s (zN s (.row [Fv,Tv] 2 49 false 0 0 0)):=zO _ _
  have hst:=qX s 49 2 [V.nil 1,V.nil 1] [Fv,Tv] rfl rfl
  have hg0:=zx s (.row [Fv,Tv] 2 49 false 0 0 0)
  generalize hs2:zN s (.row [Fv,Tv] 2 49 false 0 0 0)=s2 at hEn hst hg0
  have ld0:∀ f:V→S→Go.Ev.A,zd false 1 (.ptr s.nx 0 0) s2 f=f Fv s2:=fun f=>zw hg0 0 rfl (by omega) (by simpa using hx.1.ne) f
  have ld1:∀ f:V→S→Go.Ev.A,zd false 1 (.ptr s.nx 0 1) s2 f=f Tv s2:=fun f=>zw hg0 1 rfl (by omega) (by simpa using hx.2.ne) f
  have hFlen:∀ f:V→Go.Ev.A,zz Fv f=f (iv .i64 ((x.FF j).length:Int)):=fun f=>by rw [hx.1.1.len,hFe,zA]
  have hG2:=hG.later hEn
  have hEb2:Ext x.b s2:=hEb.trans hEn
  obtain ⟨pq,hpq,hpf⟩:=hfull trivial
  have hcd:qv x.TT j - j≤x.dd:=by
   have:=zuA hsm.tne (x.nn - j) j (by omega)
   rwa [show j+(x.nn - j)=x.nn by omega] at this
  have hsz:=B2X.sz hb hN hB hpq hpf hcd
  have hTl:(x.TT j).length≤20:=(hok.2.2 j hlt).2.2.1
  have hF1:x.FF j≠[]:=List.length_pos_iff.1 (hok.2.2 j hlt).1
  have hT1:x.TT j≠[]:=hsm.tne j hlt
  have hul:pq.st.length≤x.ul.length+j:=hB.here pq hpq hpf
  have hul4:x.ul.length≤4:=by
   have h1:((x.ul.map (·.1)).map fun z=>z.toNat).length=x.ul.length:=by rw [kai,kai]
   rw [←h1]
   have h2:=zao 4 ((x.ul.map (·.1)).map fun z=>(z - 1).toNat) (by
    refine List.pairwise_map.2 ?_
    refine List.Pairwise.imp_of_mem ?_ hU.keys
    intro a b ha hb' hne e
    have g1:=hA.rng a ha
    have g2:=hA.rng b hb'
    exact hne (by omega)) (fun y hy=>by
    obtain ⟨z,hz,rfl⟩:=kav.1 hy
    have g1:=hA.rng z hz
    have:=hsm.sg
    omega)
   rw [kai,kai] at h2 ⊢
   exact h2
  have hnd:x.nd (x.FF j)≠none:=(hTr.node _).2 ⟨j,hlt,List.prefix_refl _⟩
  obtain ⟨w,s5,e5,G',nl',nc',hG5,hN5,hF5,hR5⟩:=hC (⟨x.b,x.nd,x.gk,x.nm,G,nl,nc⟩,x.rw,x.idf,x.c,x.q,pq,Fv,x.FF j,Tv,x.TT j,ndV x.nd (x.FF j)) _ s2 ⟨rfl,hG2,hT,hN,hB.runs,B2X.short hb,hpq,hpf,by rw [hFe];exact wq.old hx0.1 hE0 hEb2,by rw [hTe];exact wq.old hx0.2 hE0 hEb2,hF1,hT1,.inr ⟨hnd,rfl⟩,by simp only;omega,by omega⟩
  simp only at e5 hG5 hN5 hF5 hR5
  have hlt13:=hsm.f13 j hlt
  obtain ⟨hB5,⟨p5,hp5,hpf5,-⟩,hlen5⟩:=hB.token hTr hpq hpf (.inl ⟨j,hlt,rfl,rfl⟩) hF1 hlt13 hT1 hR5
  have hTj:=List.length_pos_iff.2 hT1
  have hsj:=zfp hsm.tne j hj
  have hB6:BI x.FF x.TT x.nn x.AA G' x.q (dnR x.FF x.TT x.nn (x.ul.map (·.1)) (j+1)) (qv x.TT (j+1) - (j+1)) (x.ul.length+(j+1)) x.dd:=hB5.mono (fun i o h=>by
   rcases h with h | ⟨k,hk,h1,h2⟩
   ·exact .inl (.inl h)
   ·rcases kaq k j with g | g
    ·exact .inl (.inr ⟨k,g,h1,h2⟩)
    ·obtain rfl:k=j:=by omega
     exact .inr ⟨h1,h2⟩) (by rw [qv];omega) (by omega)
  simp -implicitDefEqProofs [zml,qt,h5,h36,h37,h38,hlt',hp,hL,zo,hst,ld0,hFlen,-Int.natCast_add]
  generalize hA1:zbf.run r _ s2=a
  obtain ⟨tm',rfl,⟨⟨k0,k5,k6,k12,k240⟩,k13,k36,k37,k38,k17⟩,k18⟩:=hA1▸hIn { x with j:=j,bx:=.ptr s.nx 0 0,s:=s2 } _ s2 ⟨rfl,hb,hEb2,⟨⟨by simp [h0],by simp [h5],by simp [h6],by simp [h12],by simp [h240]⟩,by simp [h13],by simp [h36],by simp [h37],by simp [h38],by simp⟩,hlt,by simp [hFv],by simp,0,Nat.zero_le _,by simp,by
   simp only [List.take_zero]
   unfold ndV
   rw [hroot]
   simp⟩
  simp only at k0 k5 k6 k12 k13 k36 k37 k38 k17 k18
  have k37:gp 37 tm'=iv .i64 (x.nn:Int):=k37
  simp -implicitDefEqProofs [k12,k13,k17,k18,k38,ld0,ld1,e5,hw,-Int.natCast_add]
  refine IH x _ s5 ?_ ⟨hb,⟨by simp [k0],by simp [k5],by simp [k6],by simp [k12],by simp [k240]⟩,by simp [k13],by simp [k36],by simp [k37],j+1,hlt,by simp,G',nl',nc',hG5,hN5,hB6,by omega,fun _=>⟨p5,hp5,hpf5⟩⟩
  rw [h37,h38,zn,zn];simp [k37,zn,-Int.natCast_add];omega
 ·obtain rfl:j=x.nn:=by omega
  simp -implicitDefEqProofs [zml,qt,h37,h38]
  exact ⟨_,_,rfl,⟨by simp [h0],by simp [h5],by simp [h6],by simp [h12],by simp [h240]⟩,by simp [h13],G,nl,nc,hG,hN,hB,hq,hfull⟩
variable {nd:Nd}
theorem GR.keepI {b s s':S} {gk nm:Go.Ev.K} {nc:Nat} {rb:Go.Ev.K→Prop} (h:GR b s nd gk nm G nl nc rb) {k:Go.Ev.K} (hn:s.nx.toNat≤s'.nx.toNat) (hb:b.nx.toNat≤k.toNat) (hr:∀ l n el gr mn f1 f2,Tr.get B.none k s.h≠.row l n el gr mn f1 f2) (hm:∀ es ck,Tr.get B.none k s.h≠.map es ck)
  (hk:∀ c,c.toNat<s.nx.toNat→c≠k→Tr.get B.none c s'.h=Tr.get B.none c s.h):GR b s' nd gk nm G nl nc rb:=by
 obtain ⟨D,vS,vF,vR,el,h1,h2⟩:=h
 exact ⟨D,vS,vF,vR,el,h1.keepI hn hb hr hm hk,h2⟩
def zLL (tm:T) (s:S):Nat:=match gp 33 tm with | .ptr k _ _=>(match Tr.get B.none k s.h with | .mit _ _ _ r _=>r.length | _=>0) | _=>0
theorem zAk {tm:T} {s:S} {it um:Go.Ev.K} {ul rest:LG Int} {uck:Nat} {cur:Option ME} (h1:gp 33 tm=.ptr it 0 0) (h2:Tr.get B.none it s.h=zb5 um ul uck rest cur):zLL tm s=rest.length:=by
 unfold zLL
 rw [h1]
 simp only [h2,zb5]
 rw [kai]
theorem zMN:∀ (x:B2X) tm s,x.pre46 tm s→(zcs.run (RkN Tryz.prog KB2 KNB ltB) tm s).all x.post46:=by
 refine zJR (L:=ltB) zG.1 zG.2 zF9 rfl zLL (fun x a ⟨_,_,h,_⟩=>by rw [h];exact fun h=>h) ?_
 rintro x tm s ⟨hb,⟨h0,h5,h6,h12,h240⟩,h13,h33,hit1,hit2,rest,cur,dk,hit,hkeys,hcnt,G,nl,nc,hG,hN,hB,hq,hfull⟩ IH
 show (zcs.run _ tm _).all x.post46
 have hC:=zHt (f:=54) (show zL Tryz.prog KB2 54 from zBp) (X:=GX × (List Int→Int) × (List Int→Nat) × Nat × Nat × PS × V × List Int × V × List Int × V) rfl (fun _ _ h=>h)
 generalize RkN Tryz.prog _ _ _=r at IH hC ⊢
 obtain ⟨hl,hok,hsm,hE0,hT,hTr,hid1,hroot,hcc,hum,hU,hA⟩:=id hb
 have hEb:Ext x.b s:=by obtain ⟨D,vS,vF,vR,el,h1,-⟩:=hG;exact h1.ext
 have hUs:UM s x.um x.ul x.uck:=hU.keep (hEb.get _ hum)
 have hr1:∀ l n el gr mn f1 f2,Tr.get B.none x.it s.h≠.row l n el gr mn f1 f2:=fun l n el gr mn f1 f2 e=>by rw [hit] at e;cases e
 have hm1:∀ es ck,Tr.get B.none x.it s.h≠.map es ck:=fun es ck e=>by rw [hit] at e;cases e
 have hne:x.um≠x.it:=fun e=>by rw [e] at hum;omega
 cases rest with
 | nil =>
  have hn:=fun (k:V→S→Go.Ev.A)=>zAp hUs hit k
  have hG2:GR x.b (qj s x.it .none) x.nd x.gk x.nm G nl nc (fun _=>True):=hG.keepI (k:=x.it) (kab _) hit1 hr1 hm1 fun c _ hc=>by rw [zm,if_neg hc]
  have hB2:BI x.FF x.TT x.nn x.AA G x.q (dnS x.FF x.nn (x.ul.map (·.1))) 0 x.ul.length x.dd:=hB.mono (fun i o ⟨z,hz,h⟩=>⟨z,by
   rcases (hkeys z).1 hz with h | h
   ·exact h
   ·simp at h,h⟩) (kab _) (by simp at hcnt;omega)
  generalize qj s x.it .none=s2 at hn hG2
  simp -implicitDefEqProofs [zn1,qt,h33,hn]
  exact ⟨_,_,rfl,⟨by simp [h0],by simp [h5],by simp [h6],by simp [h12],by simp [h240]⟩,by simp [h13],G,nl,nc,hG2,hN,hB2,hq,hfull⟩
 | cons e rest =>
  simp only [zn1,zgX,h33]
  refine A.all_seq' (A.all_seq' (zM5 hUs hit fun l1 e' l2 he=>?_))
  obtain ⟨s2,hs2⟩:∃ s2,s2=qj s x.it (zb5 x.um x.ul x.uck (l1++l2) (some (toG (iv .i64) e'))):=⟨_,rfl⟩
  rw [←hs2]
  have hsk:∀ c,c≠x.it→Tr.get B.none c s2.h=Tr.get B.none c s.h:=fun c hc=>by rw [hs2,zm,if_neg hc]
  have hn2:s2.nx=s.nx:=by rw [hs2];rfl
  have hit2':Tr.get B.none x.it s2.h=zb5 x.um x.ul x.uck (l1++l2) (some (toG (iv .i64) e')):=by rw [hs2,zm,if_pos rfl]
  have hE2:Ext x.b s2:=⟨by rw [hn2];exact hEb.nx,fun c hc=>(hsk c (fun e=>by rw [e] at hc;omega)).trans (hEb.get c hc)⟩
  have hU2:UM s2 x.um x.ul x.uck:=hUs.keep (hsk _ hne)
  have hG2:GR x.b s2 x.nd x.gk x.nm G nl nc (fun _=>True):=hG.keepI (k:=x.it) (by rw [hn2];exact kab _) hit1 hr1 hm1 fun c _ hc=>hsk c hc
  clear hs2
  have hen:=fun (c:V→Go.Ev.A)=>zLr hU2 hit2' c
  -- the symbol
  obtain ⟨z,hz⟩:∃ z,z=e'.1:=⟨_,rfl⟩
  have htoz:(toG (iv .i64) e').key=iv .i64 z:=by rw [hz];rfl
  have htov:(toG (iv .i64) e').val=e'.2.1:=rfl
  rw [htoz,htov] at hen
  rw [←hz]
  have hmem:z∈x.ul.map (·.1):=(hkeys z).2 (.inr (by rw [he,hz];simp))
  have hkeys2:∀ y,y∈x.ul.map (·.1)↔(y∈z::dk∨y∈(l1++l2).map (·.1)):=fun y=>by
   rw [hkeys y,he,hz]
   simp only [kaE,kaN,kak,kaj]
   constructor
   ·rintro (h | h | h | h)
    ·exact .inl (.inr h)
    ·exact .inr (.inl h)
    ·exact .inl (.inl h)
    ·exact .inr (.inr h)
   ·rintro ((h | h) | h | h)
    ·exact .inr (.inr (.inl h))
    ·exact .inl h
    ·exact .inr (.inl h)
    ·exact .inr (.inr (.inr h))
  have hlen2:(l1++l2).length=rest.length:=by
   have:=congrArg List.length he
   simp at this ⊢
   omega
  have hcnt2:(z::dk).length+(l1++l2).length=x.ul.length:=by
   rw [hlen2]
   simp at hcnt ⊢
   omega
  obtain ⟨d1,d2,d3,d4⟩:=zhI hT hE2 hroot
  have next:∀ tm' s' (G':List PS) nl' nc',x.fr tm'→gp 13 tm'=iv .i64 (x.q:Int)→gp 33 tm'=.ptr x.it 0 0→x.it.toNat<s'.nx.toNat→Tr.get B.none x.it s'.h=zb5 x.um x.ul x.uck (l1++l2) (some (toG (iv .i64) e'))→GR x.b s' x.nd x.gk x.nm G' nl' nc' (fun _=>True)→NamesOK x.nd x.idf G' nl' →
    BI x.FF x.TT x.nn x.AA G' x.q (dnS x.FF x.nn (z::dk)) 0 (z::dk).length x.dd→x.q≤G'.length→(∃ p,G'[x.q]?=some p∧p.fl=true)→(r.code q8 zcL tm' s').all x.post46:=by
   intro tm' s' G' nl' nc' a1 a2 a3 a4 a5 a6 a7 a8 a9 a10
   refine IH x tm' s' (by rw [zAk a3 a5,zAk h33 hit,hlen2];exact Nat.lt_succ_self _) ⟨hb,a1,a2,a3,hit1,a4,l1++l2,_,z::dk,a5,hkeys2,hcnt2,G',nl',nc',a6,a7,a8,a9,fun _=>a10⟩
  obtain ⟨pq,hpq,hpf⟩:=hfull trivial
  -- a token of one symbol
  have tok:∀ nV,((nV=.nil 0∧x.nd [z]=none)∨(x.nd [z]≠none∧nV=ndV x.nd [z]))→¬zcz x.FF x.nn [z]→∃ w s5,r.call 54 [.ptr x.gk 0 0,iv .i64 (x.q:Int),.sl s2.nx 0 0 1 1,.sl s2.nx.succ 0 0 1 1,nV] (zN (zN s2 (.row [iv .i64 z] 1 3 false 0 0 0)) (.row [iv .i64 z] 1 3 false 0 0 0))=.ret w s5 ∧
    ∀ tm',x.fr tm'→gp 13 tm'=iv .i64 (x.q:Int)→gp 33 tm'=.ptr x.it 0 0→(r.code q8 zcL tm' s5).all x.post46:=by
   intro nV hnV hnr
   obtain ⟨s3,hs3⟩:∃ s3,s3=zN s2 (.row [iv .i64 z] 1 3 false 0 0 0):=⟨_,rfl⟩
   obtain ⟨s4,hs4⟩:∃ s4,s4=zN s3 (.row [iv .i64 z] 1 3 false 0 0 0):=⟨_,rfl⟩
   have hE3:Ext s2 s3:=by rw [hs3];exact zO _ _
   have hE4:Ext s3 s4:=by rw [hs4];exact zO _ _
   have hn3:s3.nx=s2.nx.succ:=by rw [hs3];rfl
   have hgk:x.gk.toNat<s2.nx.toNat∧x.nm.toNat<s2.nx.toNat∧∃ l n el f,Tr.get B.none x.gk s2.h=.row l n el f 0 0 0:=by
    obtain ⟨D,vS,vF,vR,el,h1,-⟩:=hG2
    exact ⟨h1.gk_.2,h1.nm_.2,_,_,_,_,h1.row⟩
   have hnmm:∃ es ck,Tr.get B.none x.nm s2.h=.map es ck:=by
    obtain ⟨D,vS,vF,vR,el,h1,-⟩:=hG2
    have:=h1.names
    unfold yj at this
    exact ⟨_,_,this⟩
   have hi4:wq x.b s4 x.gk x.nm (.sl s2.nx 0 0 1 1) [z]:=by
    have:=wq.box (b:=x.b) (s:=s2) z hgk.1 hgk.2.1
    rw [←hs3] at this
    exact this.ext hE4
   have ho4:wq x.b s4 x.gk x.nm (.sl s2.nx.succ 0 0 1 1) [z]:=by
    have:=wq.box (b:=x.b) (s:=s3) z (kaf hgk.1 hE3.nx) (kaf hgk.2.1 hE3.nx)
    rw [←hs4,hn3] at this
    exact this
   have hG4:=(hG2.later hE3).later hE4
   have hsz:=B2X.sz hb hN hB hpq hpf (Nat.zero_le _)
   have hpl:=hB.here pq hpq hpf
   have hul4:dk.length≤4:=by
    have h1:((x.ul.map (·.1)).map fun z=>z.toNat).length=x.ul.length:=by rw [kai,kai]
    have h2:=zao 4 ((x.ul.map (·.1)).map fun z=>(z - 1).toNat) (by
     refine List.pairwise_map.2 ?_
     refine List.Pairwise.imp_of_mem ?_ hU.keys
     intro a b ha hb' hne e
     have g1:=hA.rng a ha
     have g2:=hA.rng b hb'
     exact hne (by omega)) (fun y hy=>by
     obtain ⟨z,hz,rfl⟩:=kav.1 hy
     have g1:=hA.rng z hz
     have:=hsm.sg
     omega)
    rw [kai,kai] at h2
    simp at hcnt
    omega
   obtain ⟨w,s5,e5,G',nl',nc',hG5,hN5,hF5,hR5⟩:=hC (⟨x.b,x.nd,x.gk,x.nm,G,nl,nc⟩,x.rw,x.idf,x.c,x.q,pq,.sl s2.nx 0 0 1 1,[z],.sl s2.nx.succ 0 0 1 1,[z],nV) _ s4 ⟨rfl,hG4,hT,hN,hB.runs,B2X.short hb,hpq,hpf,hi4,ho4,by simp,by simp,hnV,by simp only [kaH,List.length_nil];omega,by omega⟩
   simp only at e5 hG5 hN5 hF5 hR5
   obtain ⟨hB5,⟨p5,hp5,hpf5,-⟩,hlen5⟩:=hB.token hTr hpq hpf (.inr ⟨z,hmem,rfl,rfl,hnr⟩) (by simp) (by simp) (by simp) hR5
   have hB6:BI x.FF x.TT x.nn x.AA G' x.q (dnS x.FF x.nn (z::dk)) 0 (z::dk).length x.dd:=hB5.mono (fun i o ⟨y,hy,h1,h2,h3⟩=>by
    rcases kaj.1 hy with rfl | hy
    ·exact .inr ⟨h1,h2⟩
    ·exact .inl ⟨y,hy,h1,h2,h3⟩) (kab _) (kab _)
   have hit24:Tr.get B.none x.it s4.h=zb5 x.um x.ul x.uck (l1++l2) (some (toG (iv .i64) e')):=by
    rw [hE4.get _ (by have:=hE3.nx;rw [hn2] at this;omega),hE3.get _ (by rw [hn2];exact hit2)];exact hit2'
   have hlt4:x.it.toNat<s4.nx.toNat:=by
    have:=hE3.nx;have:=hE4.nx;rw [hn2] at *;omega
   have hit5:Tr.get B.none x.it s5.h=zb5 x.um x.ul x.uck (l1++l2) (some (toG (iv .i64) e')):=by
    rw [hF5.keep _ hlt4 (.inr ⟨fun e=>?_,fun e=>?_,fun ⟨_,_,_,_,_,_,e,_⟩=>?_,fun h=>h⟩)]
    ·exact hit24
    ·obtain ⟨_,_,_,_,e2⟩:=hgk.2.2
     rw [←e,hit2'] at e2;cases e2
    ·obtain ⟨_,_,e2⟩:=hnmm
     rw [←e,hit2'] at e2;cases e2
    ·rw [hit24] at e;cases e
   refine ⟨w,s5,by rw [←hs3,←hs4];exact e5,fun tm' a1 a2 a3=>next tm' s5 G' nl' nc' a1 a2 a3 (kaf hlt4 hF5.nx) hit5 hG5 hN5 hB6 (by omega) ⟨p5,hp5,hpf5⟩⟩
  have hnx:∀ (s:S) (b:B),(zN s b).nx=s.nx.succ:=fun _ _=>rfl
  cases hch:x.nd ([]++[z]) with
  | none =>
   have e3:=fun c=>d3 z c hch
   have hnr:¬zcz x.FF x.nn [z]:=fun h=>(hTr.node [z]).2 (h.node (List.prefix_refl _)) hch
   obtain ⟨w,s5,e5,fin⟩:=tok (.nil 0) (.inl ⟨rfl,hch⟩) hnr
   simp -implicitDefEqProofs [qt,h5,h12,h13,h33,hen,d1,e3,zbN,rep,upd,put,zo,hnx,e5]
   refine fin _ ?_ ?_ ?_
   ·exact ⟨by simp [h0],by simp [h5],by simp [h6],by simp [h12],by simp [h240]⟩
   ·simp [h13]
   ·simp [h33]
  | some pz =>
   obtain ⟨az,mz⟩:=pz
   have e4:=fun c=>d4 z c az mz hch
   obtain ⟨f1,f2,f3,f4⟩:=zhI hT hE2 (w:=[z]) hch
   have hnz:x.nd [z]≠none:=by rw [show ([z]:List Int)=[]++[z] from rfl,hch];simp
   by_cases hrow:x.rw [z]<0
   ·have hrow':(x.rw [z]<0)=True:=eq_true hrow
    have hnr:¬zcz x.FF x.nn [z]:=fun h=>by have:=(hTr.row [z] hnz).2 h;omega
    obtain ⟨w,s5,e5,fin⟩:=tok (ndV x.nd [z]) (.inr ⟨hnz,rfl⟩) hnr
    have hv:ndV x.nd [z]=.ptr az 0 0:=by unfold ndV;rw [show ([z]:List Int)=[]++[z] from rfl,hch]
    rw [hv] at e5
    simp -implicitDefEqProofs [qt,h5,h12,h13,h33,hen,d1,e4,jr,f2,hrow',rep,upd,put,zo,hnx,e5]
    refine fin _ ?_ ?_ ?_
    ·exact ⟨by simp [h0],by simp [h5],by simp [h6],by simp [h12],by simp [h240]⟩
    ·simp [h13]
    ·simp [h33]
   ·have hrow':(x.rw [z]<0)=False:=eq_false hrow
    have hr:zcz x.FF x.nn [z]:=(hTr.row [z] hnz).1 (by omega)
    simp -implicitDefEqProofs [qt,h5,h33,hen,d1,e4,jr,f2,hrow']
    refine next _ s2 G nl nc ⟨by simp [h0],by simp [h5],by simp [h6],by simp [h12],by simp [h240]⟩ (by simp [h13]) (by simp [h33]) (by rw [hn2];exact hit2) hit2' hG2 hN (hB.mono (fun i o ⟨y,hy,h1,h2,h3⟩=>?_) (kab _) (by simp)) hq ⟨pq,hpq,hpf⟩
    rcases kaj.1 hy with rfl | hy
    ·exact absurd hr h3
    ·exact ⟨y,hy,h1,h2,h3⟩
theorem B2X.sz0 (h:x.base) {dn:List Int→List Int→Prop} (hN:NamesOK x.nd x.idf G nl) (hB:BI x.FF x.TT x.nn x.AA G q dn 0 m x.dd):G.length≤16384:=by
 obtain ⟨-,-,hsm,-,hT,-,h1,hr,hcc,-⟩:=h
 have h2:=zfp hsm.tne x.nn (kab _)
 have h3:=hsm.sum
 have hc1:1≤x.c:=by
  obtain ⟨g1,g2,-⟩:=hT.ids.1 [] _ _ hr
  omega
 refine hB.size (kaL _ (zkg _ _)) (zHO hT h1 (by rw [hr];simp) hN hB.runs) ?_
 show x.c - 1+(qv x.TT x.nn - x.nn)≤14
 simp only [B2X.FF,B2X.TT,B2X.nn] at *
 omega
theorem B2X.ul4 (h:x.base):x.ul.length≤4:=by
 obtain ⟨-,-,hsm,-,-,-,-,-,-,-,hU,hA⟩:=h
 have h2:=zao 4 ((x.ul.map (·.1)).map fun z=>(z - 1).toNat) (by
  refine List.pairwise_map.2 ?_
  refine List.Pairwise.imp_of_mem ?_ hU.keys
  intro a b ha hb' hne e
  have g1:=hA.rng a ha
  have g2:=hA.rng b hb'
  exact hne (by omega)) (fun y hy=>by
  obtain ⟨z,hz,rfl⟩:=kav.1 hy
  have g1:=hA.rng z hz
  have:=hsm.sg
  omega)
 rwa [kai,kai] at h2
theorem zJk:∀ (x:B2X) tm s,x.pre158 tm s→(zck.run (RkN Tryz.prog KB2 KNB ltB) tm s).all x.post158:=by
 refine zJR (L:=ltB) zG.1 zG.2 zFR rfl (fun tm _=>20000 - (toI (gp 13 tm)).toNat) (fun x a ⟨_,_,h,_⟩=>by rw [h];exact fun h=>h) ?_
 rintro x tm s ⟨hb,⟨h0,h5,h6,h12,h240⟩,h13,G,nl,nc,hG,hN,hB,hq,-⟩ IH
 show (zck.run _ tm _).all x.post158
 have hIn46:=zMN
 have hIn66:=zM1
 generalize RkN Tryz.prog _ _ _=r at IH hIn46 hIn66 ⊢
 obtain ⟨hl,hok,hsm,hE0,hT,hTr,hid1,hroot,hcc,hum,hU,hA⟩:=id hb
 have hsz:=B2X.sz0 hb hN hB
 obtain ⟨D,vS,vF,vR,el,hD,hDG,-⟩:=id hG
 have hDl:D.length=G.length:=by rw [←hDG,kai]
 have l1:∀ k:V→S→Go.Ev.A,zd false 1 (.ptr x.gk 0 1) s k=k vF s:=fun k=>zw hD.row 1 rfl (by omega) (by simpa using hD.zF.nbad) k
 have hlF:∀ f:V→Go.Ev.A,zz vF f=f (iv .i64 (G.length:Int)):=fun f=>by rw [hD.zF.len,kai,hDl]
 by_cases hlt:x.q<G.length
 ·have hlt':((x.q:Int)<(G.length:Int))=True:=eq_true (by omega)
  have hw:IntKind.i64.wrap ((x.q:Int)+1)=((x.q+1:Nat):Int):=by rw [z9 (by omega) (by omega)];omega
  obtain ⟨p,hp⟩:∃ p,G[x.q]?=some p:=⟨_,kac hlt⟩
  have hfq:(D.map fun d=>[V.bool d.fl])[x.q]?=some [.bool p.fl]:=by
   rw [←hDG,kal] at hp
   rw [kal]
   cases hh:D[x.q]? with
   | none=>rw [hh] at hp;cases hp
   | some d =>
    rw [hh] at hp
    have:d.p=p:=Option.some.inj hp
    rw [←this];rfl
  have ix:∀ kk (f:V→Go.Ev.A),zg 1 vF (iv kk (x.q:Int)) f=f (jy vF x.q):=fun kk f=>by rw [hD.zF.idx (by rw [kai];omega),kaK]
  have ld:∀ f:V→S→Go.Ev.A,zd false 1 (jy vF x.q) s f=f (.bool p.fl) s:=fun f=>hD.zF.load1 hfq (by intro e;cases e) f
  cases hf:p.fl with
  | false =>
   rw [hf] at ld
   simp -implicitDefEqProofs [zgv,qt,h12,h13,l1,hlF,hlt',ix,ld,hw,-Int.natCast_add]
   refine IH { x with q:=x.q+1 } _ s ?_ ⟨hb,⟨by simp [h0],by simp [h5],by simp [h6],by simp [h12],by simp [h240]⟩,by simp,G,nl,nc,hG,hN,hB.skip hp hf,hlt,fun h=>h.elim⟩
   rw [h13,zn];simp [zn,-Int.natCast_add];omega
  | true =>
   rw [hf] at ld
   have hUs:UM s x.um x.ul x.uck:=hU.keep (hD.ext.get _ hum)
   have hrg:=fun (k:V→S→Go.Ev.A)=>zJM hUs k
   have hE2:=zO s (zb5 x.um x.ul x.uck x.ul none)
   have hg2:=zx s (zb5 x.um x.ul x.uck x.ul none)
   have hn2:s.nx.toNat<(zN s (zb5 x.um x.ul x.uck x.ul none)).nx.toNat:=by show s.nx.toNat<s.nx.succ.toNat;rw [K.toNat_succ];omega
   generalize zN s (zb5 x.um x.ul x.uck x.ul none)=s2 at hrg hE2 hg2 hn2
   simp -implicitDefEqProofs [zgv,qt,h6,h12,h13,l1,hlF,hlt',ix,ld,hrg,-Int.natCast_add]
   generalize hA1:zcs.run r _ s2=a
   have ha:=hA1▸hIn46 { x with it:=s.nx } _ s2 ⟨hb,⟨by simp [h0],by simp [h5],by simp [h6],by simp [h12],by simp [h240]⟩,by simp [h13],by simp,hD.ext.nx,hn2,x.ul,none,[],hg2,fun y=>by simp,by simp,G,nl,nc,hG.later hE2,hN,hB.mono (fun i o ⟨z,hz,_⟩=>by cases hz) (kab _) (Nat.zero_le _),hq,fun _=>⟨p,hp,hf⟩⟩
   repeat (first | refine A.all_seq' ?_ | refine A.all_block' ?_)
   refine A.all.imp (fun y hy=>?_) ha
   obtain ⟨tm',s3,rfl,⟨k0,k5,k6,k12,k240⟩,k13,G3,nl3,nc3,hG3,hN3,hB3,hq3,hf3⟩:=hy
   simp only at k0 k5 k6 k12 k13 hG3 hN3 hB3 hq3 hf3
   obtain ⟨p3,hp3,hpf3⟩:=hf3 trivial
   have hln:∀ f:V→Go.Ev.A,zz x.l f=f (iv .i64 (x.nn:Int)):=fun f=>hl.1.len f
   simp -implicitDefEqProofs [k0,hln]
   generalize hA2:za7.run r _ s3=a2
   obtain ⟨tm4,s4,rfl,⟨t0,t5,t6,t12,t240⟩,t13,G4,nl4,nc4,hG4,hN4,hB4,hq4,hf4⟩:=hA2▸hIn66 x _ s3 ⟨hb,⟨by simp [k0],by simp [k5],by simp [k6],by simp [k12],by simp [k240]⟩,by simp [k13],by simp,by simp,0,Nat.zero_le _,by simp,G3,nl3,nc3,hG3,hN3,hB3.mono (fun i o h=>by
    rcases h with h | ⟨k,hk,_⟩
    ·exact h
    ·omega) (Nat.zero_le _) (kab _),hq3,hf3⟩
   obtain ⟨p4,hp4,hpf4⟩:=hf4 trivial
   have hn8:=hsm.n8
   have hul:=B2X.ul4 hb
   have hB5:=hB4.next hp4 hpf4 (fun i o ht=>by
    rcases ht with ⟨j,hj,h1,h2⟩ | ⟨z,hz,h1,h2,h3⟩
    ·exact .inr ⟨j,hj,h1,h2⟩
    ·exact .inl ⟨z,hz,h1,h2,h3⟩) (by have:x.nn≤8:=hn8;omega) (kab _)
   simp -implicitDefEqProofs [t13,hw,-Int.natCast_add]
   refine IH { x with q:=x.q+1 } _ s4 ?_ ⟨hb,⟨by simp [t0],by simp [t5],by simp [t6],by simp [t12],by simp [t240]⟩,by simp,G4,nl4,nc4,hG4,hN4,hB5,(kad.1 hp4).1,fun h=>h.elim⟩
   rw [h13,zn];simp [zn,-Int.natCast_add];omega
 ·have hlt':((x.q:Int)<(G.length:Int))=False:=eq_false (by omega)
  have hqe:x.q=G.length:=by omega
  simp -implicitDefEqProofs [zgv,qt,h12,h13,l1,hlF,hlt']
  exact ⟨_,_,rfl,by simp [h12],by simp [h240],G,nl,nc,hG,hN,by rw [←hqe];exact hB⟩
theorem TrOk.of {F:Nat→List Int} {n:Nat} {rw:List Int→Int} (h1:ji F n nd rw) (h2:Pfx F n nd):TrOk F n nd rw:=by
 refine ⟨fun w=>⟨fun h=>h2 w h,fun ⟨i,hi,hp⟩=>h1.1 i hi w hp⟩,fun w hw=>?_⟩
 obtain ⟨g1,g2⟩:=h1.2 w hw
 constructor
 ·intro h
  refine Classical.byContradiction fun hr=>?_
  have:=g2 fun k hk e=>hr ⟨k,hk,e.symm⟩
  omega
 ·rintro ⟨k,hk,rfl⟩
  have:=g1 k hk rfl
  omega
theorem zKC:zFj Tryz.prog KNB 28:=by
 refine zJX (K:=KB2) (L:=ltB) zG.1 zG.2 (X:=V × Int) rfl ?_
 rintro ⟨l,sigma⟩ a s ⟨rfl,hl,hok,hsm⟩
 have hTr:=zd8 (KN:=KNB) (L:=ltB) (show zL Tryz.prog KB2 34 from zGy) (fun _ _ h=>h)
 have hSt:=zHt (zO3 zD9) (X:=GX × (List Int→Int) × (List Int→Nat) × Nat × V × List (List Int) × (Go.Ev.K→Prop)) rfl (fun _ _ h=>h)
 have h52:=zMF
 have h30:=zMY
 have h158:=zJk
 generalize RkN Tryz.prog _ _ _=r at hTr hSt h52 h30 h158 ⊢
 obtain ⟨vt,s1,e1,hpost⟩:=hTr [l] s ⟨l,rfl,hl,hok⟩
 obtain ⟨hE1,nd,rw_,r0,m0,rfl,hroot,hTO,hRI,hPf,c,idf,hcc,hids,hid1⟩:=hpost l rfl
 have hlen:∀ f:V→Go.Ev.A,zz l f=f (iv .i64 (zb l:Int)):=fun f=>hl.1.len f
 obtain ⟨s2,hs2⟩:∃ s2,s2=zN s1 (.map [] 0):=⟨_,rfl⟩
 have hE2:Ext s1 s2:=by rw [hs2];exact zO _ _
 have hg2:Tr.get B.none s1.nx s2.h=.map [] 0:=by rw [hs2];exact zx _ _
 have hn2:s1.nx.toNat<s2.nx.toNat:=by rw [hs2];show s1.nx.toNat<s1.nx.succ.toNat;rw [K.toNat_succ];omega
 have hU2:UM s2 s1.nx [] 0:=⟨hg2,(fun e he=>by cases he),(fun e he=>by cases he),List.Pairwise.nil,List.nodup_nil⟩
 -- the outcome
 suffices H:∀ x,A.leaf x→(∃ tm s',x=.ret tm s'∧gp 240 tm=.bad∧zzE l sigma s (gp 4 tm) s')→(qk (z7 (fun tm s=>ziS tm s) x)).all (zzE l sigma s) by
  have main:(zik.run r (sp 1 (iv .i64 sigma) (sp 0 l T.new)) s).all (fun x=>∃ tm s',x=.ret tm s'∧gp 240 tm=.bad∧zzE l sigma s (gp 4 tm) s'):=by
   simp -implicitDefEqProofs [qt,e1,←hs2,hlen]
   generalize hA1:zcP.run r _ s2=a1
   obtain ⟨tm3,s3,rfl,⟨k0,k1,k5,k6,k240⟩,⟨-,-,-,-,hE3,hu1,hu2⟩,ul3,uck3,hU3,hk3⟩:=hA1▸h52 ⟨l,sigma,s,s1,s1.nx,.ptr r0 0 0,0,[],fun _=>True,.nil 1⟩ _ s2 ⟨⟨by simp,by simp,by simp,by simp,by simp⟩,⟨hl,hok,hsm,hE1,hE2,kab _,hn2⟩,by simp,by simp,0,[],0,Nat.zero_le _,by simp,hU2,fun y=>⟨(fun h=>by cases h),fun ⟨k,hk,_⟩=>by omega⟩⟩
   simp only at k0 k1 k5 k6 hE3 hu1 hu2 hU3 hk3
   simp -implicitDefEqProofs
   generalize hA2:zcD.run r _ s3=a2
   obtain ⟨tm4,s4,rfl,⟨t0,t1,t5,t6,t240⟩,⟨-,-,-,-,hE4,-,hu4⟩,ul,uck,hU4,hA4⟩:=hA2▸h30 ⟨l,sigma,s,s1,s1.nx,.ptr r0 0 0,0,[],fun _=>True,.nil 1⟩ _ s3 ⟨⟨by simp [k0],by simp [k1],by simp [k5],by simp [k6],by simp [k240]⟩,⟨hl,hok,hsm,hE1,hE3,hu1,hu2⟩,⟨ul3,uck3,hU3,hk3⟩,1,by simp,by omega,by have:=hsm.sg;simp only;omega,fun y h1 h2=>by omega⟩
   simp only at t0 t1 t5 t6 hE4 hu4 hU4 hA4
   -- the graph
   obtain ⟨s5,hs5⟩:∃ s5,s5=zN s4 (.map [] 0):=⟨_,rfl⟩
   obtain ⟨s6,hs6⟩:∃ s6,s6=zN s5 (.row [.nil 1,.nil 1,.nil 1,.ref 0 s4.nx] 4 101 false 0 0 0):=⟨_,rfl⟩
   have hE5:Ext s4 s5:=by rw [hs5];exact zO _ _
   have hE6:Ext s5 s6:=by rw [hs6];exact zO _ _
   have hn5:s5.nx=s4.nx.succ:=by rw [hs5];rfl
   have hn6:s6.nx=s5.nx.succ:=by rw [hs6];rfl
   have hlt5:s5.nx.toNat=s4.nx.toNat+1:=by rw [hn5,K.toNat_succ]
   have hlt6:s6.nx.toNat=s5.nx.toNat+1:=by rw [hn6,K.toNat_succ]
   have hgn:Tr.get B.none s4.nx s6.h=.map [] 0:=by rw [hE6.get _ (by omega),hs5];exact zx _ _
   have hgg:Tr.get B.none s5.nx s6.h=.row [.nil 1,.nil 1,.nil 1,.ref 0 s4.nx] 4 101 false 0 0 0:=by rw [hs6];exact zx _ _
   have hG6:GR s4 s6 nd s5.nx s4.nx [] [] 0 (fun _=>True):=by
    refine ⟨[],.nil 1,.nil 1,.nil 1,101,⟨hE5.trans hE6,hgg,.inl ⟨rfl,rfl⟩,.inl ⟨rfl,rfl⟩,.inl ⟨rfl,rfl⟩,⟨by omega,by omega⟩,⟨kab _,by omega⟩,hgn,?_,List.Pairwise.nil,?_,?_⟩,rfl,fun _ _=>trivial⟩
    ·intro d hd;cases hd
    ·intro d hd;cases hd
    ·intro d hd;cases hd
   have hEs4:Ext s s4:=hE1.trans hE4
   have hT4:TreeF s4 nd rw_ idf c:=by
    refine ⟨hTO.later hE4,fun w a m hw=>?_,⟨fun w a m hw=>?_,hids.2⟩,hTO.inj,hTO.closed,?_⟩
    ·obtain ⟨-,g2,-,g4⟩:=hTO.rng w a m hw
     have:=hE4.nx
     omega
    ·obtain ⟨g1,g2,y,g3⟩:=hids.1 w a m hw
     exact ⟨g1,g2,y,(hE4.get a (hTO.rng w a m hw).2.1).trans g3⟩
    ·have h1:=zfp hsm.tne (zb l) (kab _)
     have h2:=hsm.sum
     have h3:=hsm.n8
     omega
   have hN6:NamesOK nd idf ([]:List PS) ([]:LG (List Nat)):=⟨(fun q x hx=>by simp at hx),(fun k v hv=>by cases hv),(fun x hx=>by cases hx),(fun x hx=>by cases hx)⟩
   obtain ⟨vq,s7,e7,q,G,nl,nc,y,rfl,hG7,hN7,hF7,hGc,hqy,hyf,hym⟩:=hSt (⟨s4,nd,s5.nx,s4.nx,[],[],0⟩,rw_,idf,c,.nil 1,[],fun _=>True) _ s6 ⟨rfl,hG6,hT4,hN6,.inl ⟨rfl,rfl⟩,(fun w hw=>by cases hw),List.nodup_nil,Nat.zero_le _,by simp,(fun c hc=>by cases hc)⟩
   simp only at e7 hG7 hN7 hF7 hGc
   have hGy:G=[y]:=by
    rcases hGc with rfl | h
    ·simp at hqy
    ·rw [h] at hqy ⊢
     simp at hqy ⊢
     have:=(kad.1 hqy)
     obtain ⟨g1,g2⟩:=this
     simpa using g2
   have hst:y.st=[]:=by
    rcases hGc with h | h
    ·rw [hGy] at h;cases h
    ·rw [hGy] at h
     simp at h
     rw [h]
   have hrn:∀ w,¬w∈y.rn:=fun w hw=>by have:=(hym w).1 hw;cases this
   have hG7':GR s4 s7 nd s5.nx s4.nx G nl nc (fun _=>True):=by
    obtain ⟨D,vS,vF,vR,el,h1,h2,-⟩:=hG7
    exact ⟨D,vS,vF,vR,el,h1,h2,fun _ _=>trivial⟩
   have hE47:Ext s4 s7:=hF7.ext (hE5.trans hE6)
   obtain ⟨x,hx⟩:∃ x:B2X,x=⟨l,sigma,s,s4,nd,rw_,idf,c,s5.nx,s4.nx,s1.nx,ul,uck,r0,m0,0,s4.nx,0,.nil 1,s4⟩:=⟨_,rfl⟩
   have hbase:x.base:=by
    rw [hx]
    exact ⟨hl,hok,hsm,hEs4,hT4,TrOk.of hRI hPf,hid1,hroot,hcc,hu4,hU4,hA4⟩
   simp -implicitDefEqProofs [←hs5,qR,upd,put,zo,←hs6,e7]
   generalize hA3:zck.run r _ s7=a3
   have ha:=hA3▸h158 x _ s7 ⟨hbase,by
    rw [hx]
    exact ⟨by simp [t0],by simp [t5],by simp [t6],by simp,by simp [t240]⟩,by rw [hx];simp,by
    rw [hx]
    exact ⟨G,nl,nc,hG7',hN7,by rw [hGy];exact BI.first hyf hst hrn _,Nat.zero_le _,fun h=>h.elim⟩⟩
   repeat (first | refine A.all_seq' ?_ | refine A.all_block' ?_)
   refine A.all.imp (fun y hy=>?_) ha
   obtain ⟨tm8,s8,rfl,z12,z240,G8,nl8,nc8,hG8,hN8,hB8⟩:=hy
   have hsz:=B2X.sz0 hbase hN8 hB8
   obtain ⟨hGO,hst12⟩:=hB8.ok
   have hwf:=hB8.wf
   have hinw:=hB8.inw
   rw [hx] at z12 hG8 hGO
   simp only at z12 hG8
   have hE48:Ext s4 s8:=by obtain ⟨D,vS,vF,vR,el,h1,-⟩:=hG8;exact h1.ext
   simp -implicitDefEqProofs [z12]
   exact ⟨_,_,⟨rfl,rfl⟩,by simp [z240],hEs4.trans hE48,s5.nx,s4,nd,s4.nx,G8,nl8,nc8,fun y=>y∈ul.map (·.1),by simp,hG8,hGO,hA4,hsz,fun p hp=>⟨hst12 p hp,fun e he=>⟨hwf p hp e he,hinw p hp e he⟩⟩⟩
  have e0:(fnC zj 28).run r [l,iv .i64 sigma] s=qk (z7 (fun tm s=>ziS tm s) (zik.run r (sp 1 (iv .i64 sigma) (sp 0 l T.new)) s)):=by simp only [qt]
  rw [e0]
  exact F.all_fn H main
 rintro x - ⟨tm,s',rfl,h240,hQ⟩
 simp -implicitDefEqProofs [qt,h240]
 exact hQ
end Go.Proofs.YtlklljjppambpaaGreatDoor.oev
