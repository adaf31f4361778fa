/- The contracts of the functions that the statements reach, for all arguments. No statement of the seat stands here. Conditions: the arguments are as their types say. By an AI agent. -/
import Derived.Test.YtlklljjppambpaaGreatDoorOvU1
namespace Go.Proofs.YtlklljjppambpaaGreatDoor.oev
open Go.Ev Go.RowKit
set_option maxRecDepth 100000
def jl (lim:Int) (w:List Int):Prop:=∀ x,x∈w→1≤x∧x≤lim
def zy2 (w:List Int):Prop:=w.length≤200∧jl 500 w
def zoa (F T:Nat→List Int) (i:Nat):Prop:=1≤(F i).length∧(F i).length≤20∧(T i).length≤20∧jl 500 (F i)∧jl 500 (T i)∧∀ k,k<i→F i≠F k
def qJ (n:Nat) (F T:Nat→List Int):Prop:=1≤n∧n≤20∧∀ i,i<n→zoa F T i
def qx (s:S) (v:V):Prop:=qJ (zb v) (zi s v) (toV s v)
theorem ya {n:Nat} {F T F' T':Nat→List Int} (hF:∀ i,i<n→F' i=F i) (hT:∀ i,i<n→T' i=T i):qJ n F' T'↔qJ n F T:=by
 unfold qJ
 refine and_congr_right fun _=>and_congr_right fun _=>forall_congr' fun i=>imp_congr_right fun hi=>?_
 unfold zoa
 rw [hF i hi,hT i hi]
 refine and_congr_right fun _=>and_congr_right fun _=>and_congr_right fun _=>and_congr_right fun _=>and_congr_right fun _=>forall_congr' fun k=>imp_congr_right fun hk=>?_
 rw [hF k (by omega)]
def zzh (F:Nat→List Int) (n:Nat) (x:List Int) (j:Nat):Prop:=j<n∧F j <+: x∧∀ k,k<n→F k <+: x→(F k).length≤(F j).length
def wE (F T:Nat→List Int) (n:Nat) (x:List Int) (k:Nat) (out:List Int):Prop:=(∃ j,zzh F n x j∧k=(F j).length∧out=T j)∨((∀ j,j<n→¬F j <+: x)∧k=1∧out=x.take 1)
inductive ResP (F T:Nat→List Int) (n:Nat):List Int→List Int→Prop
 | nil:ResP F T n [] []
 | step {x y out:List Int} {k:Nat}:x≠[]→wE F T n x k out→ResP F T n (x.drop k) y→ResP F T n x (out++y)
def ApP (F T:Nat→List Int) (n:Nat) (x y:List Int) (e:Int):Prop :=
 (¬(qJ n F T∧zy2 x)∧e=1∧y=[])∨((qJ n F T∧zy2 x)∧∃ z,ResP F T n x z∧((z.length≤200∧e=0∧y=z)∨(200<z.length∧e=2∧y=[])))
section
variable {F T:Nat→List Int} {n:Nat}
variable {i j:Nat}
theorem zpu (h:qJ n F T) (hi:i<n) (hj:j<n) (e:F i=F j):i=j:=by
 rcases Nat.lt_trichotomy i j with g | g | g
 ·exact absurd e.symm ((h.2.2 j hj).2.2.2.2.2 i g)
 ·exact g
 ·exact absurd e ((h.2.2 i hi).2.2.2.2.2 j g)
theorem zLP {u v x:List Int} (hu:u <+: x) (hv:v <+: x) (e:u.length=v.length):u=v:=by
 rw [List.prefix_iff_eq_take.1 hu,List.prefix_iff_eq_take.1 hv,e]
theorem zIj (h:qJ n F T) {x:List Int} (hi:zzh F n x i) (hj:zzh F n x j):i=j :=
 zpu h hi.1 hj.1 (zLP hi.2.1 hj.2.1 (Nat.le_antisymm (hj.2.2 i hi.1 hi.2.1) (hi.2.2 j hj.1 hj.2.1)))
variable {k:Nat}
theorem zjM (h:qJ n F T) {x out out':List Int} {k':Nat} (h1:wE F T n x k out) (h2:wE F T n x k' out'):k=k'∧out=out':=by
 rcases h1 with ⟨j,hj,rfl,rfl⟩ | ⟨hn,rfl,rfl⟩
 ·rcases h2 with ⟨j',hj',rfl,rfl⟩ | ⟨hn,rfl,rfl⟩
  ·obtain rfl:=zIj h hj hj';exact ⟨rfl,rfl⟩
  ·exact absurd hj.2.1 (hn j hj.1)
 ·rcases h2 with ⟨j',hj',rfl,rfl⟩ | ⟨hn,rfl,rfl⟩
  ·exact absurd hj'.2.1 (hn j' hj'.1)
  ·exact ⟨rfl,rfl⟩
variable {y y':List Int}
theorem zLw (h:qJ n F T) {x:List Int} (h1:ResP F T n x y) (h2:ResP F T n x y'):y=y':=by
 induction h1 generalizing y' with
 | nil=>cases h2 with
  | nil=>rfl
  | step hx=>exact absurd rfl hx
 | step hx hs _ ih=>cases h2 with
  | nil=>exact absurd rfl hx
  | step _ hs' hr =>
   obtain ⟨rfl,rfl⟩:=zjM h hs hs'
   rw [ih hr]
theorem zHG {x:List Int} {e e':Int} (h1:ApP F T n x y e) (h2:ApP F T n x y' e'):y=y'∧e=e':=by
 rcases h1 with ⟨g1,rfl,rfl⟩ | ⟨g1,z,r1,q1⟩
 ·rcases h2 with ⟨_,rfl,rfl⟩ | ⟨g2,_⟩
  ·exact ⟨rfl,rfl⟩
  ·exact absurd g2 g1
 ·rcases h2 with ⟨g2,_⟩ | ⟨_,z',r2,q2⟩
  ·exact absurd g1 g2
  ·obtain rfl:=zLw g1.1 r1 r2
   rcases q1 with ⟨a1,rfl,rfl⟩ | ⟨a1,rfl,rfl⟩<;>rcases q2 with ⟨a2,rfl,rfl⟩ | ⟨a2,rfl,rfl⟩
   ·exact ⟨rfl,rfl⟩
   ·omega
   ·omega
   ·exact ⟨rfl,rfl⟩
theorem zMc (h:qJ n F T) {x out:List Int} (hx:x≠[]) (h1:wE F T n x k out):1≤k∧k≤x.length∧out.length≤20:=by
 have:1≤x.length:=by cases x with | nil=>exact absurd rfl hx | cons=>simp
 rcases h1 with ⟨j,hj,rfl,rfl⟩ | ⟨_,rfl,rfl⟩
 ·exact ⟨(h.2.2 j hj.1).1,hj.2.1.length_le,(h.2.2 j hj.1).2.2.1⟩
 ·exact ⟨kab _,this,by simp;omega⟩
variable {F' T':Nat→List Int}
theorem zFf (hF:∀ i,i<n→F' i=F i) (hT:∀ i,i<n→T' i=T i) {x out:List Int} (h:wE F' T' n x k out):wE F T n x k out:=by
 rcases h with ⟨j,⟨b1,b2,b3⟩,b4,b5⟩ | ⟨b1,b2⟩
 ·exact .inl ⟨j,⟨b1,hF j b1▸b2,fun k hk hp=>by
   have:=b3 k hk (by rw [hF k hk];exact hp)
   rwa [hF k hk,hF j b1] at this⟩,by rw [b4,hF j b1],by rw [b5,hT j b1]⟩
 ·exact .inr ⟨fun j hj hp=>b1 j hj (by rw [hF j hj];exact hp),b2⟩
theorem zi9 (hF:∀ i,i<n→F' i=F i) (hT:∀ i,i<n→T' i=T i) {x:List Int} (h:ResP F' T' n x y):ResP F T n x y:=by
 induction h with
 | nil=>exact .nil
 | step h1 h2 _ ih=>exact .step h1 (zFf hF hT h2) ih
end
theorem yH:PcOk Tryz.prog pc0∧pc0.hooks=[]:=by
 unfold pc0 pc
 exact zzr (by kernel_rfl) (by kernel_rfl) (by kernel_rfl) (by kernel_rfl) (by kernel_rfl)
def zsC (x y:Nat→Int):Nat→Nat→Int
 | 0,_=>0
 | n+1,i=>if x i<y i then -1 else if y i<x i then 1 else zsC x y n (i+1)
def zMd (x y:Nat→Int) (n m:Nat):Int:=if n=m then zsC x y n 0 else if n<m then -1 else 1
def wg (z:Int) (s:S) (a:A):Prop:=(z=0∧∃ tm',a=.ext 0 tm' s∧gp 240 tm'=.bad)∨(z≠0∧∃ tm',a=.ret tm' s∧gp 240 tm'=.bad∧gp 4 tm'=iv .i64 z)
variable {z:Int} {s:S}
theorem wg.nb {a:A} (h:wg z s a):¬a.isBad:=by
 rcases h with ⟨_,tm,rfl,_⟩ | ⟨_,tm,rfl,_⟩<;>exact fun h=>h
def zcI (vx vy:V) (s:S):FI→Code→T→S→A→Prop:=fun _ _ tm _ a=>∀ i:Nat,i≤zb vx→gp 5 tm=iv .i64 i→wg (zsC (qi s vx) (qi s vy) (zb vx - i) i) s a
variable {vx vy:V}
theorem zA0 (hx:zZ s vx) (hy:zZ s vy) (hl:zb vx=zb vy) (tm:T) (s':S) (h:s'=s∧gp 0 tm=vx∧gp 1 tm=vy∧gp 240 tm=.bad∧∃ i:Nat,i≤zb vx∧gp 5 tm=iv .i64 i) :
  zcI vx vy s wZ zbQ tm s' (y7.run (Rq Tryz.prog (fun _ _ _ _ _=>True) (zcI vx vy s)) tm s'):=by
 refine (zoP yH.1 yH.2 (fun _ _ _ _ _=>True) (zcI vx vy s) (fun tm s'=>s'=s∧gp 0 tm=vx∧gp 1 tm=vy∧gp 240 tm=.bad∧∃ i:Nat,i≤zb vx∧gp 5 tm=iv .i64 i) (fun tm _=>zb vx - (toI (gp 5 tm)).toNat) ?_ tm s' h).2
 clear h tm s'
 rintro tm s' ⟨rfl,h0,h1,h240,i,hi,h5⟩ IH
 show ¬(y7.run _ tm s').isBad∧zcI vx vy s' _ _ tm s' (y7.run _ tm s')
 generalize hr:Rq Tryz.prog _ _=r at IH ⊢
 suffices h:wg (zsC (qi s' vx) (qi s' vy) (zb vx - i) i) s' (y7.run r tm s') from ⟨h.nb,fun j _ hj=>by
  have:=congrArg toI (hj.symm.trans h5)
  rw [zn,zn] at this
  rw [show j=i by omega];exact h⟩
 have hw:i<zb vx→IntKind.i64.wrap ((i:Int)+1)=(i:Int)+1:=fun h=>z9 (by omega) (by have:=hx.2.1;omega)
 by_cases hlt:i<zb vx
 ·obtain ⟨p,hp,hP⟩:=hx.at_ hlt
  obtain ⟨q,hq,hQ⟩:=hy.at_ (hl▸hlt)
  obtain ⟨d,hd⟩:∃ d,zb vx - i=d+1:=⟨zb vx - i - 1,by omega⟩
  have IH':∀ tm',gp 0 tm'=vx→gp 1 tm'=vy→gp 240 tm'=.bad→gp 5 tm'=iv .i64 ((i:Int)+1)→wg (zsC (qi s' vx) (qi s' vy) d (i+1)) s' (r.code wZ zbQ tm' s'):=by
   intro tm' k0 k1 k240 k5
   have k5':gp 5 tm'=iv .i64 ((i+1:Nat):Int):=k5
   rw [show d=zb vx - (i+1) by omega]
   exact IH tm' s' (by rw [k5',h5,zn,zn];omega) ⟨rfl,k0,k1,k240,i+1,by omega,k5'⟩ (i+1) (by omega) k5'
  rw [hd,zsC]
  by_cases g1:qi s' vx i<qi s' vy i
  ·simp [zaM,j6,h0,h1,h5,hx.1.len,hp,hq,hP,hQ,zjz,hlt,g1]
   exact .inr ⟨by omega,_,rfl,by simp [h240],by simp⟩
  ·by_cases g2:qi s' vy i<qi s' vx i
   ·simp [zaM,j6,h0,h1,h5,hx.1.len,hp,hq,hP,hQ,zjz,hlt,g1,g2]
    exact .inr ⟨by omega,_,rfl,by simp [h240],by simp⟩
   ·simp [zaM,j6,h0,h1,h5,hx.1.len,hw hlt,hp,hq,hP,hQ,hlt,g1,g2]
    apply IH'<;>simp [h0,h1,h240]
 ·have e:i=zb vx:=by omega
  subst e
  simp [zaM,j6,h0,h5,hx.1.len,zsC]
  exact .inl ⟨rfl,_,rfl,by simp [h240]⟩
theorem zF5 (hx:zZ s vx) (hy:zZ s vy):qO Tryz.prog 20 [vx,vy] s (iv .i64 (zMd (qi s vx) (qi s vy) (zb vx) (zb vy))) s:=by
 refine zbD yH.1 yH.2 (zoK pc0 (fun _ _ _ _ _=>True) (zcI vx vy s)) ?_
 by_cases hl:zb vx=zb vy
 ·have hL:=zA0 hx hy hl
  generalize Rq Tryz.prog _ _=r at hL ⊢
  have hL':∀ tm a,y7.run r tm s=a→gp 0 tm=vx→gp 1 tm=vy→gp 240 tm=.bad→gp 5 tm=iv .i64 0→wg (zsC (qi s vx) (qi s vy) (zb vx) 0) s a:=fun tm a e k0 k1 k2 k3=>e▸hL tm s ⟨rfl,k0,k1,k2,0,by omega,k3⟩ 0 (by omega) k3
  rw [zMd,if_pos hl]
  simp [j6,hx.1.len,hy.1.len,hl.symm]
  generalize hA:y7.run r _ s=a
  rcases hL' _ _ hA (by simp) (by simp) (by simp) (by simp) with ⟨hz,tm',rfl,k1⟩ | ⟨hz,tm',rfl,k1,k2⟩
  ·simp [yC,k1,hz]
  ·simp [k1,k2]
 ·generalize Rq Tryz.prog _ _=r
  rw [zMd,if_neg hl]
  have hl':((zb vx:Int)=zb vy)=False:=by simp;omega
  by_cases g:zb vx<zb vy
  ·simp [j6,hx.1.len,hy.1.len,zjz,hl',g]
  ·simp [j6,hx.1.len,hy.1.len,hl',g]
theorem zNH {lim:Int} {p:V} (hp:∀ k:V→S→A,zd false 1 p s k=k (iv .i64 lim) s):qO Tryz.prog 51 [iv .i64 z,p] s (.bool (decide (z<1∨lim<z))) s:=by
 refine zbD yH.1 yH.2 (zoK pc0 (fun _ _ _ _ _=>True) (fun _ _ _ _ _=>True)) ?_
 generalize Rq Tryz.prog _ _=r
 by_cases h:z<1
 ·simp [zkP,h]
 ·simp [zkP,h,hp]
def zd5 (p:Nat→Bool):Nat→Nat→Int
 | 0,_=>-1
 | n+1,i=>if p i then i else zd5 p n (i+1)
theorem zHs (p : Nat → Bool) : ∀ n i, 0 ≤ zd5 p n i ↔ ∃ j, i ≤ j ∧ j < i + n ∧ p j = true
  | 0, i => by simp [zd5]; omega
  | n + 1, i => by
    rw [zd5]
    by_cases h : p i = true
    · rw [if_pos h]
      exact ⟨fun _ => ⟨i, by omega, by omega, h⟩, fun _ => by omega⟩
    · rw [if_neg h, zHs p n (i + 1)]
      constructor
      · rintro ⟨j, h1, h2, h3⟩; exact ⟨j, by omega, by omega, h3⟩
      · rintro ⟨j, h1, h2, h3⟩
        exact ⟨j, by rcases kaq i j with g | g
                     · omega
                     · have : j = i := by omega
                       subst this; exact absurd h3 h, by omega, h3⟩
def jf (z:Int) (s:S) (a:A):Prop:=(z=-1∧∃ tm',a=.ext 0 tm' s∧gp 240 tm'=.bad)∨(z≠-1∧∃ tm',a=.ret tm' s∧gp 240 tm'=.bad∧gp 4 tm'=iv .i64 z)
theorem jf.nb {a:A} (h:jf z s a):¬a.isBad:=by
 rcases h with ⟨_,tm,rfl,_⟩ | ⟨_,tm,rfl,_⟩<;>exact fun h=>h
def zbg (g:Nat) (cap:List V) (pz:Int→Bool) (s:S):Nat→List V→S→V→S→Prop:=fun f a t v t'=>f=g→t=s→∀ z,a=iv .i64 z::cap→v=.bool (pz z)∧t'=s
def jx (vx:V) (s:S) (pz:Int→Bool):FI→Code→T→S→A→Prop:=fun _ _ tm _ a=>∀ i:Nat,i≤zb vx→gp 7 tm=iv .i64 i→jf (zd5 (fun j=>pz (qi s vx j)) (zb vx - i) i) s a
variable {pz:Int→Bool} {cap:List V}
theorem zte {g:Nat} (hx:zZ s vx) (hg:∀ z,qO Tryz.prog g (iv .i64 z::cap) s (.bool (pz z)) s) (tm:T) (s':S)
  (h:s'=s∧gp 0 tm=vx∧gp 1 tm=.fn (.func g) [] cap∧gp 6 tm=iv .i64 (zb vx)∧gp 240 tm=.bad∧∃ i:Nat,i≤zb vx∧gp 7 tm=iv .i64 i) :
  jx vx s pz jv zaP tm s' (yK.run (Rq Tryz.prog (zbg g cap pz s) (jx vx s pz)) tm s'):=by
 refine (zoP yH.1 yH.2 (zbg g cap pz s) (jx vx s pz) (fun tm s'=>s'=s∧gp 0 tm=vx∧gp 1 tm=.fn (.func g) [] cap∧gp 6 tm=iv .i64 (zb vx)∧gp 240 tm=.bad∧∃ i:Nat,i≤zb vx∧gp 7 tm=iv .i64 i) (fun tm _=>zb vx - (toI (gp 7 tm)).toNat) ?_ tm s' h).2
 clear h tm s'
 rintro tm s' ⟨rfl,h0,h1,h6,h240,i,hi,h7⟩ IH
 show ¬(yK.run _ tm s').isBad∧jx vx s' pz _ _ tm s' (yK.run _ tm s')
 have hcall:∀ z,(Rq Tryz.prog (zbg g cap pz s') (jx vx s' pz)).call g (iv .i64 z::cap) s'=.ret (.bool (pz z)) s':=fun z=>by
  obtain ⟨v,t,e,q⟩:=zm7 (P:=Tryz.prog) (Q:=zbg g cap pz s') (QC:=jx vx s' pz) ⟨_,_,hg z,fun _ _ z' hz=>⟨by rw [zpX (List.cons.inj hz).1],rfl⟩⟩
  obtain ⟨rfl,rfl⟩:=q rfl rfl z rfl
  exact e
 generalize Rq Tryz.prog _ _=r at IH hcall ⊢
 suffices h:jf (zd5 (fun j=>pz (qi s' vx j)) (zb vx - i) i) s' (yK.run r tm s') from ⟨h.nb,fun j _ hj=>by rw [show j=i by have:=zpX (hj.symm.trans h7);omega];exact h⟩
 by_cases hlt:i<zb vx
 ·have hw:IntKind.i64.wrap ((i:Int)+1)=(i:Int)+1:=z9 (by omega) (by have:=hx.2.1;omega)
  obtain ⟨p,hp,hP⟩:=hx.at_ hlt
  obtain ⟨d,hd⟩:∃ d,zb vx - i=d+1:=⟨zb vx - i - 1,by omega⟩
  have IH':∀ tm',gp 0 tm'=vx→gp 1 tm'=.fn (.func g) [] cap→gp 6 tm'=iv .i64 (zb vx)→gp 240 tm'=.bad→gp 7 tm'=iv .i64 ((i:Int)+1)→jf (zd5 (fun j=>pz (qi s' vx j)) d (i+1)) s' (r.code jv zaP tm' s'):=by
   intro tm' k0 k1 k6 k240 k7
   have k7':gp 7 tm'=iv .i64 ((i+1:Nat):Int):=k7
   rw [show d=zb vx - (i+1) by omega]
   exact IH tm' s' (by rw [k7',h7,zn,zn];omega) ⟨rfl,k0,k1,k6,k240,i+1,by omega,k7'⟩ (i+1) (by omega) k7'
  rw [hd,zd5]
  by_cases g1:pz (qi s' vx i)=true
  ·simp [zb7,zaH,h0,h1,h6,h7,hp,hP,hcall,hlt,g1]
   exact .inr ⟨by omega,_,rfl,by simp [h240],by simp⟩
  ·simp [zb7,zaH,h0,h1,h6,h7,hw,hp,hP,hcall,hlt,g1]
   apply IH'<;>simp [h0,h1,h6,h240]
 ·have e:i=zb vx:=by omega
  subst e
  simp [zb7,zaH,h6,h7,zd5]
  exact .inl ⟨rfl,_,rfl,by simp [h240]⟩
theorem zzf {g:Nat} (hx:zZ s vx) (hg:∀ z,qO Tryz.prog g (iv .i64 z::cap) s (.bool (pz z)) s) :
  qO Tryz.prog 92 [vx,.fn (.func g) [] cap] s (iv .i64 (zd5 (fun j=>pz (qi s vx j)) (zb vx) 0)) s:=by
 refine zbD yH.1 yH.2 (zoK pc0 (zbg g cap pz s) (jx vx s pz)) ?_
 have hL:=zte hx hg
 generalize Rq Tryz.prog _ _=r at hL ⊢
 have hL':∀ tm a,yK.run r tm s=a→gp 0 tm=vx→gp 1 tm=.fn (.func g) [] cap→gp 6 tm=iv .i64 (zb vx)→gp 240 tm=.bad→gp 7 tm=iv .i64 0→jf (zd5 (fun j=>pz (qi s vx j)) (zb vx) 0) s a :=
  fun tm a e k0 k1 k6 k2 k3=>e▸hL tm s ⟨rfl,k0,k1,k6,k2,0,by omega,k3⟩ 0 (by omega) k3
 simp [zaH,hx.1.len]
 generalize hA:yK.run r _ s=a
 rcases hL' _ _ hA (by simp) (by simp) (by simp) (by simp) (by simp) with ⟨hz,tm',rfl,k1⟩ | ⟨hz,tm',rfl,k1,k2⟩
 ·simp [yC,k1,hz,zjz]
 ·simp [k1,k2]
theorem zmW {g:Nat} (hx:zZ s vx) (hg:∀ z,qO Tryz.prog g (iv .i64 z::cap) s (.bool (pz z)) s) :
  qO Tryz.prog 50 [vx,.fn (.func g) [] cap] s (.bool (decide (0≤zd5 (fun j=>pz (qi s vx j)) (zb vx) 0))) s:=by
 have hI:=zzf hx hg
 refine zbD yH.1 yH.2 (zoK pc0 (fun f a t v t'=>f=92→t=s→a=[vx,.fn (.func g) [] cap]→v=iv .i64 (zd5 (fun j=>pz (qi s vx j)) (zb vx) 0)∧t'=s) (fun _ _ _ _ _=>True)) ?_
 obtain ⟨v,t,e,q⟩:=zm7 (P:=Tryz.prog) (Q:=fun f a t v t'=>f=92→t=s→a=[vx,.fn (.func g) [] cap]→v=iv .i64 (zd5 (fun j=>pz (qi s vx j)) (zb vx) 0)∧t'=s) (QC:=fun _ _ _ _ _=>True) ⟨_,_,hI,fun _ _ _=>⟨rfl,rfl⟩⟩
 obtain ⟨rfl,rfl⟩:=q rfl rfl rfl
 generalize Rq Tryz.prog _ _=r at e ⊢
 simp [zmR,e]
def zE2 (s:S) (nd:List Int→Option (K × K)) (rw:List Int→Int):Prop:=∀ w a m,nd w=some (a,m) →
 (∃ id:Int,Tr.get B.none a s.h=.row [.ref 0 m,iv .i64 (rw w),iv .i64 id] 3 70 false 0 0 0)∧∃ es ck,Tr.get B.none m s.h=.map es ck∧zg2 es∧∀ z,zcd es z=(nd (w++[z])).map fun p=>V.ptr p.1 0 0
structure TreeOK (b s:S) (nd:List Int→Option (K × K)) (rw:List Int→Int):Prop where
 node:zE2 s nd rw
 rng:∀ w a m,nd w=some (a,m)→b.nx.toNat≤a.toNat∧a.toNat<s.nx.toNat∧b.nx.toNat≤m.toNat∧m.toNat<s.nx.toNat
 inj:∀ w w' p p',nd w=some p→nd w'=some p'→p.1=p'.1∨p.2=p'.2→w=w'
 root:nd []≠none
 closed:∀ w z,nd (w++[z])≠none→nd w≠none
def ji (F:Nat→List Int) (n:Nat) (nd:List Int→Option (K × K)) (rw:List Int→Int):Prop :=
 (∀ k,k<n→∀ w,w <+: F k→nd w≠none)∧∀ w,nd w≠none→(∀ k:Nat,k<n→F k=w→rw w=k)∧((∀ k,k<n→F k≠w)→rw w=-1)
def zJq (s:S) (nd:List Int→Option (K × K)) (idf:List Int→Nat) (c:Nat):Prop :=
 (∀ w a m,nd w=some (a,m)→1≤idf w∧idf w≤c∧∃ x,Tr.get B.none a s.h=.row [.ref 0 m,x,iv .i64 (idf w:Int)] 3 70 false 0 0 0)∧∀ w w',nd w≠none→nd w'≠none→idf w=idf w'→w=w'
def Pfx (F:Nat→List Int) (n:Nat) (nd:List Int→Option (K × K)):Prop:=∀ w,nd w≠none→∃ k,k<n∧w <+: F k
def qv (F:Nat→List Int):Nat→Nat
 | 0=>0
 | n+1=>qv F n+(F n).length
open Classical in
noncomputable def K:Nat→Ct
 | 20=>⟨fun a s=>∃ x y,a=[x,y]∧zZ s x∧zZ s y,fun a s v s'=>∀ x y,a=[x,y]→s'=s∧∃ z,v=iv .i64 z∧(z=0↔word s x=word s y)⟩
 | 40=>⟨fun a s=>∃ x y,a=[x,y]∧zZ s x∧zZ s y,fun a s v s'=>∀ x y,a=[x,y]→s'=s∧v=.bool (decide (word s x=word s y))⟩
 | 14=>⟨fun a s=>∃ x,a=[x]∧zZ s x,fun a s v s'=>∀ x,a=[x]→s'=s∧v=.bool (decide (zy2 (word s x)))⟩
 | 27=>⟨fun a s=>∃ x z,a=[x,iv .i64 z]∧zZ s x,fun a s v s'=>∀ x z,a=[x,iv .i64 z]→Ext s s'∧v=.bool (decide (jl z (word s x)))⟩
 | 7=>⟨fun a s=>∃ x,a=[x]∧Tab s x,fun a s v s'=>∀ x,a=[x]→s'=s∧v=.bool (decide (30<zb x))⟩
 | 22=>⟨fun a s=>∃ x,a=[x]∧Tab s x,fun a s v s'=>∀ x,a=[x]→Ext s s'∧v=.bool (decide (qx s x))⟩
 | 9=>⟨fun a s=>∃ x,a=[x]∧Tab s x,fun a s v s'=>∀ x,a=[x]→Ext s s'∧v=.bool (decide (qx s x))⟩
 | 8=>⟨fun a _=>a=[],fun _ s v s'=>s'=s∧v=.bool true⟩
 | 21=>⟨fun a s=>∃ x,a=[x]∧zZ s x,fun a s v s'=>∀ x,a=[x]→s'=s∧v=.bool (decide (250<zb x))⟩
 | 156=>⟨fun a s=>∃ x y,a=[x,y]∧zZ s x∧zZ s y,fun a s v s'=>∀ x y,a=[x,y]→s'=s∧v=.bool (decide (word s y <+: word s x))⟩
 | 107=>⟨fun a s=>∃ l x,a=[l,x]∧Tab s l∧zZ s x∧Fx x∧0<zb x,fun a s v s'=>∀ l x,a=[l,x]→s'=s∧∃ (k:Nat) (o:V),v=.ls 1 [iv .i64 k,o]∧zZ s o∧wE (zi s l) (toV s l) (zb l) (word s x) k (word s o)⟩
 | 65=>⟨fun a s=>∃ l x,a=[l,x]∧Tab s l∧qx s l∧zZ s x∧Fx x∧zb x≤200,fun a s v s'=>∀ l x,a=[l,x]→Ext s s'∧zZ s' v∧ResP (zi s l) (toV s l) (zb l) (word s x) (word s' v)⟩
 | 17=>⟨fun a s=>∃ l x,a=[l,x]∧Tab s l∧zZ s x∧Fx x,fun a s v s'=>∀ l x,a=[l,x]→Ext s s'∧∃ y e,v=.ls 1 [y,iv .i64 e]∧zZ s' y∧ApP (zi s l) (toV s l) (zb l) (word s x) (word s' y) e⟩
 | 34=>⟨fun a s=>∃ l,a=[l]∧Tab s l∧qx s l,fun a s v s'=>∀ l,a=[l]→Ext s s'∧∃ nd rw a m,v=.ptr a 0 0∧nd []=some (a,m)∧TreeOK s s' nd rw∧ji (zi s l) (zb l) nd rw∧Pfx (zi s l) (zb l) nd∧∃ c idf,c≤1+qv (zi s l) (zb l)∧zJq s' nd idf c∧idf []=1⟩
 | 66=>⟨fun a s=>∃ kc,∃ c:Int,a=[.ptr kc 0 0]∧Tr.get B.none kc s.h=.row [iv .i64 c] 1 3 false 0 0 0∧kc.toNat<s.nx.toNat,
   fun a s v s'=>∀ kc,∀ c:Int,a=[.ptr kc 0 0]→Tr.get B.none kc s.h=.row [iv .i64 c] 1 3 false 0 0 0→v=.ptr s.nx.succ 0 0 ∧
    s'=zN (zN (qj s kc (.row [iv .i64 (IntKind.i64.wrap (c+1))] 1 3 false 0 0 0)) (.map [] 0)) (.row [.ref 0 s.nx,iv .i64 (-1),iv .i64 (IntKind.i64.wrap (c+1))] 3 70 false 0 0 0)⟩
 | _=>⟨fun _ _=>False,fun _ _ _ _=>True⟩
variable {s':S} {v:V}
theorem zmS {L:Nat→Lt} {f:Nat} {a:List V} (h:(fnC pc0 f).run (Rk Tryz.prog K L) a s=.ret v s'):qO Tryz.prog f a s v s':=zbD yH.1 yH.2 (zKY pc0 K L) h
abbrev noL:Nat→Lt:=fun _=>⟨fun _ _=>True,fun _ _ _=>True⟩
variable {i:Nat}
theorem zlm {n:Nat} (h:i<n) (hn:n≤9223372036854775807):IntKind.i64.wrap ((i:Int)+1)=(i:Int)+1:=z9 (by omega) (by omega)
theorem zwW (x y:Nat→Int):∀ n i,zsC x y n i=0↔∀ j,i≤j→j<i+n→x j=y j
 | 0,i=>by simp [zsC];omega
 | n+1,i=>by
  rw [zsC]
  by_cases h1:x i<y i
  ·rw [if_pos h1];exact ⟨fun h=>by omega,fun h=>by have:=h i (by omega) (by omega);omega⟩
  ·rw [if_neg h1]
   by_cases h2:y i<x i
   ·rw [if_pos h2];exact ⟨fun h=>by omega,fun h=>by have:=h i (by omega) (by omega);omega⟩
   ·rw [if_neg h2,zwW x y n (i+1)]
    constructor
    ·intro h j h3 h4
     rcases Nat.eq_or_lt_of_le h3 with rfl | h5
     ·omega
     ·exact h j (by omega) (by omega)
    ·exact fun h j h3 h4=>h j (by omega) (by omega)
theorem zFB:zL Tryz.prog K 20:=by
 rintro a s ⟨x,y,rfl,hx,hy⟩
 refine ⟨_,_,zF5 hx hy,?_⟩
 intro x' y' e
 cases e
 refine ⟨rfl,_,rfl,?_⟩
 rw [zyZ]
 unfold zMd
 split
 ·rename_i hl
  rw [zwW]
  exact ⟨fun h=>⟨hl,fun j hj=>h j (by omega) (by omega)⟩,fun h j _ hj=>h.2 j (by omega)⟩
 ·rename_i hl
  split<;>exact ⟨fun h=>by omega,fun h=>absurd h.1 hl⟩
def ziE (vx vy:V) (s:S):Lt:=⟨fun tm s'=>s'=s∧gp 0 tm=vx∧gp 1 tm=vy∧gp 7 tm=iv .i64 (zb vx)∧gp 240 tm=.bad∧∃ i:Nat,i≤zb vx∧gp 8 tm=iv .i64 i∧∀ j,j<i→qi s vx j=qi s vy j,
 fun _ _ a=>LP 0 4 (.bool false) (∀ j,j<zb vx→qi s vx j=qi s vy j) (fun _ s'=>s'=s) a⟩
theorem zIL (hx:zZ s vx) (hy:zZ s vy) (hl:zb vx=zb vy):∀ tm s',(ziE vx vy s).pre tm s'→(ziE vx vy s).post tm s' (zcR.run (Rk Tryz.prog K fun _=>ziE vx vy s) tm s'):=by
 refine zeI (L:=fun _=>ziE vx vy s) yH.1 yH.2 zE3 (fun tm _=>zb vx - (toI (gp 8 tm)).toNat) (fun _ _ _ _ (h:LP _ _ _ _ _ _)=>h.nb) ?_
 rintro tm s' ⟨rfl,h0,h1,h7,h240,i,hi,h8,hj⟩ IH
 show LP _ _ _ _ _ (zcR.run _ tm s')
 generalize Rk Tryz.prog _ _=r at IH ⊢
 by_cases hlt:i<zb vx
 ·have hw:=zlm hlt hx.2.1
  obtain ⟨p,hp,hP⟩:=hx.at_ hlt
  obtain ⟨q,hq,hQ⟩:=hy.at_ (hl▸hlt)
  by_cases g:qi s' vx i=qi s' vy i
  ·simp [zgt,zdY,h0,h1,h7,h8,hw,hp,hq,hP,hQ,hlt,g]
   refine IH _ _ (zGw h8 (by simp) hlt) ⟨rfl,?_,?_,?_,?_,i+1,by omega,?_,fun j h=>?_⟩
   ·simp [h0]
   ·simp [h1]
   ·simp [h7]
   ·simp [h240]
   ·simp
   ·rcases kaq j i with h' | h'
    ·exact hj j h'
    ·rw [show j=i by omega];exact g
  ·simp [zgt,zdY,h0,h1,h7,h8,hp,hq,hP,hQ,hlt,g]
   exact .inr ⟨fun h=>g (h i hlt),_,_,rfl,by simp [h240],by simp,rfl⟩
 ·simp [zgt,zdY,h7,h8,hlt]
  exact .inl ⟨fun j h=>hj j (by omega),_,_,rfl,by simp [h240],rfl⟩
open Classical in
theorem zCP:zL Tryz.prog K 40:=by
 rintro a s ⟨x,y,rfl,hx,hy⟩
 suffices h:qO Tryz.prog 40 [x,y] s (.bool (decide (word s x=word s y))) s from ⟨_,_,h,fun x' y' e=>by cases e;exact ⟨rfl,rfl⟩⟩
 refine zmS (L:=fun _=>ziE x y s) ?_
 by_cases hl:zb x=zb y
 ·have hL:=zIL hx hy hl
  generalize Rk Tryz.prog _ _=r at hL ⊢
  simp only [zyZ,hl,true_and]
  simp [zdY,hx.1.len,hy.1.len,hl]
  generalize hA:zcR.run r _ s=a
  have:=hA▸hL _ _ ⟨rfl,by simp,by simp,by simp [hl],by simp,0,by omega,by simp,fun _ h=>by omega⟩
  rw [←hl]
  rcases this with ⟨hg,tm',s',rfl,k1,rfl⟩ | ⟨hg,tm',s',rfl,k1,k2,rfl⟩
  ·rw [decide_eq_true hg];simp [yC,k1]
  ·rw [decide_eq_false hg];simp [k1,k2]
 ·have h2:¬word s x=word s y:=fun h=>hl (zyZ.1 h).1
  have hl':¬(zb x:Int)=zb y:=by omega
  simp only [h2]
  generalize Rk Tryz.prog _ _=r
  simp [zdY,hx.1.len,hy.1.len,hl']
theorem zJi {lim:Int}:jl lim (word s v)↔∀ j,j<zb v→1≤qi s v j∧qi s v j≤lim :=
 ⟨fun h j hj=>h _ (zDa.2 ⟨j,hj,rfl⟩),fun h x hx=>by obtain ⟨j,hj,rfl⟩:=zDa.1 hx;exact h j hj⟩
theorem zKE (s:S) (el:Nat) (x:V) (hx:x≠.bad) (k:V→S→A):zd false 1 (.ptr s.nx 0 0) (zN s (.row [x] 1 el false 0 0 0)) k=k x (zN s (.row [x] 1 el false 0 0 0)) :=
 (zLJ s el 1 [x] rfl).load1 Nat.zero_lt_one hx k
open Classical in
theorem zgI:zL Tryz.prog K 27:=by
 rintro a s ⟨vx,lim,rfl,hx⟩
 suffices h:qO Tryz.prog 27 [vx,iv .i64 lim] s (.bool (decide (jl lim (word s vx)))) (zN s (.row [iv .i64 lim] 1 3 false 0 0 0)) from
  ⟨_,_,h,fun x' z e=>by obtain ⟨e1,e2,_⟩:=(by simpa using e:vx=x'∧iv .i64 lim=iv .i64 z∧True);subst e1;rw [zpX e2];exact ⟨zO _ _,rfl⟩⟩
 have hE:=hx.ext (zO s (.row [iv .i64 lim] 1 3 false 0 0 0))
 generalize hs1:zN s (.row [iv .i64 lim] 1 3 false 0 0 0)=s1 at hE
 have hC:=zmW (g:=51) (cap:=[.ptr s.nx 0 0]) (pz:=fun z=>decide (z<1∨lim<z)) hE.1 (fun z=>by
  subst hs1
  exact zNH (zKE s 3 _ (yN _ _)))
 refine zbD yH.1 yH.2 (zoK pc0 (fun f a t v t'=>f=50→t=s1→a=[vx,.fn (.func 51) [] [.ptr s.nx 0 0]]→v=.bool (decide (0≤zd5 (fun j=>decide (qi s1 vx j<1∨lim<qi s1 vx j)) (zb vx) 0))∧t'=s1) (fun _ _ _ _ _=>True)) ?_
 obtain ⟨v,t,e,q⟩:=zm7 (P:=Tryz.prog) (Q:=fun f a t v t'=>f=50→t=s1→a=[vx,.fn (.func 51) [] [.ptr s.nx 0 0]]→v=.bool (decide (0≤zd5 (fun j=>decide (qi s1 vx j<1∨lim<qi s1 vx j)) (zb vx) 0))∧t'=s1) (QC:=fun _ _ _ _ _=>True) ⟨_,_,hC,fun _ _ _=>⟨rfl,rfl⟩⟩
 obtain ⟨rfl,rfl⟩:=q rfl rfl rfl
 generalize Rq Tryz.prog _ _=r at e ⊢
 have hR:(0≤zd5 (fun j=>decide (qi t vx j<1∨lim<qi t vx j)) (zb vx) 0)↔¬jl lim (word s vx):=by
  rw [zHs,zJi]
  constructor
  ·rintro ⟨j,_,h2,h3⟩ h
   have:=h j (by omega)
   rw [hE.2] at h3
   simp at h3
   omega
  ·intro h
   by_cases hex:∃ j,j<zb vx∧¬(1≤qi s vx j∧qi s vx j≤lim)
   ·obtain ⟨j,h1,h2⟩:=hex
    exact ⟨j,by omega,by omega,by rw [hE.2];simp;omega⟩
   ·exact absurd (fun j hj=>by
     by_cases g:1≤qi s vx j∧qi s vx j≤lim
     ·exact g
     ·exact absurd ⟨j,hj,g⟩ hex) h
 by_cases h2:jl lim (word s vx)
 ·have h3:=mt hR.1 (fun h=>h h2)
  simp only [h3,decide_false] at e
  simp [zqS,zo,hs1,h2,e]
 ·have h3:=hR.2 h2
  simp only [h3,decide_true] at e
  simp [zqS,zo,hs1,h2,e]
open Classical in
theorem zJF:zL Tryz.prog K 7:=by
 rintro a s ⟨x,rfl,hx⟩
 suffices h:qO Tryz.prog 7 [x] s (.bool (decide (30<zb x))) s from ⟨_,_,h,fun x' e=>by cases e;exact ⟨rfl,rfl⟩⟩
 refine zmS (L:=noL) ?_
 generalize Rk Tryz.prog _ _=r
 by_cases h:30<zb x
 ·have h':(30:Int)<zb x:=by omega
  rw [decide_eq_true h]
  simp [zAx,hx.1.len,h']
 ·have h':¬(30:Int)<zb x:=by omega
  rw [decide_eq_false h]
  simp [zAx,hx.1.len,h']
def Cv (s:S) (p x y:V):Prop:=∃ q0 q1,(∀ c,zf 0 p c=c q0)∧(∀ c,zf 1 p c=c q1)∧∀ s2,Ext s s2→(∀ k:V→S→A,zd false 1 q0 s2 k=k x s2)∧∀ k:V→S→A,zd false 1 q1 s2 k=k y s2
theorem Cv.ext {p x y:V} (h:Cv s p x y) (e:Ext s s'):Cv s' p x y:=by
 obtain ⟨q0,q1,h0,h1,h2⟩:=h
 exact ⟨q0,q1,h0,h1,fun s2 e2=>h2 s2 (e.trans e2)⟩
theorem zFE (s:S) (el:Nat) (x y:V) (hx:x≠.bad) (hy:y≠.bad):Cv (zN s (.row [x,y] 2 el false 0 0 0)) (.ptr s.nx 0 0) x y:=by
 have hP:=zLJ s el 2 [x,y] rfl
 refine ⟨.ptr s.nx 0 0,.ptr s.nx 0 1,fun c=>rfl,fun c=>rfl,fun s2 e=>⟨fun k=>?_,fun k=>?_⟩⟩
 ·have:=hP.ext e (fun a v o h=>by cases h;show s.nx.toNat<s.nx.succ.toNat;rw [K.toNat_succ];omega)
  exact this.load1 (by omega) hx k
 ·have:=hP.ext e (fun a v o h=>by cases h;show s.nx.toNat<s.nx.succ.toNat;rw [K.toNat_succ];omega)
  obtain ⟨p',e1,P1⟩:=this.field 1 (by omega)
  have e2:p'=.ptr s.nx 0 1:=by
   have:=e1 (fun v=>.fin v s)
   exact (A.fin.inj this).1.symm
  subst e2
  exact P1.load1 (by omega) hy k
def Sub (s:S) (v u:V) (i:Nat):Prop:=Tab s u∧zb u=i∧∀ j,j<i*2→zt s u j=zt s v j
theorem Sub.ext {u:V} (h:Sub s v u i) (hv:Tab s v) (e:Ext s s'):Sub s' v u i :=
 ⟨(h.1.ext e).1,h.2.1,fun j hj=>by rw [(h.1.ext e).2.1,(hv.ext e).2.1];exact h.2.2 j hj⟩
variable {k:IntKind}
theorem Tab.sub (h:Tab s v) (hi:i≤zb v):∃ u,(∀ c,yg 49 2 v none (some (iv k i)) none s c=c u)∧Sub s v u i:=by
 obtain ⟨u,h1,h2,h3,h4,h5⟩:=h.1.sliceT h.2.1.2 hi
 refine ⟨u,h1,⟨h2,⟨by rw [h3];have:=h.2.1.1;omega,h5⟩,fun j hj=>?_⟩,h3,h4⟩
 rw [h3] at hj
 rw [h4 _ (by omega),h4 _ (by omega)]
 exact h.2.2 j (by omega)
def wr (v:V) (s:S):Nat→Lt
 | 32=>⟨fun tm s'=>∃ i u T,i<zb v∧Ext s s'∧gp 0 tm=v∧gp 8 tm=v∧gp 9 tm=iv .i64 (zb v)∧gp 10 tm=iv .i64 i∧gp 240 tm=.bad∧Cv s' (gp 4 tm) (zt s v (i*2)) T∧gp 13 tm=u∧Sub s' v u i∧gp 14 tm=iv .i64 i ∧
   ∃ k:Nat,k≤i∧gp 15 tm=iv .i64 k∧∀ j,j<k→zi s v i≠zi s v j,
  fun tm _ a=>∀ i:Nat,i<zb v→gp 10 tm=iv .i64 i→LP 2 2 (.bool false) (∀ k,k<i→zi s v i≠zi s v k) (fun tm' s''=>Ext s s''∧gp 0 tm'=v∧gp 8 tm'=v∧gp 9 tm'=iv .i64 (zb v)∧gp 10 tm'=iv .i64 i) a⟩
 | _=>⟨fun tm s'=>Ext s s'∧gp 0 tm=v∧gp 8 tm=v∧gp 9 tm=iv .i64 (zb v)∧gp 240 tm=.bad∧∃ i:Nat,i≤zb v∧gp 10 tm=iv .i64 i∧∀ j,j<i→zoa (zi s v) (toV s v) j,
  fun _ _ a=>LP 0 2 (.bool false) (∀ i,i<zb v→zoa (zi s v) (toV s v) i) (fun _ s''=>Ext s s'') a⟩
theorem zae {a b:Nat} (h:iv k (a:Int)=iv k (b:Int)):a=b:=by have:=zpX h;omega
theorem zFt (hv:Tab s v):∀ tm s',(wr v s 32).pre tm s'→(wr v s 32).post tm s' (zcB.run (Rk Tryz.prog K (wr v s)) tm s'):=by
 refine zeI (L:=wr v s) yH.1 yH.2 zFQ (fun tm _=>(toI (gp 14 tm)).toNat - (toI (gp 15 tm)).toNat) (fun tm s' a h1 h2=>by obtain ⟨i,_,_,hi,_,_,_,_,h10,_⟩:=h1;exact (h2 i hi h10).nb) ?_
 rintro tm s' ⟨i,u,T,hi,hE,h0,h8,h9,h10,h240,hC,h13,hU,h14,k,hk,h15,hj⟩ IH i' hi' h10'
 obtain rfl:i=i':=zae (h10.symm.trans h10')
 show LP _ _ _ _ _ (zcB.run _ tm s')
 have hEq:=zQ (L:=wr v s) zCP
 generalize Rk Tryz.prog _ _=r at IH hEq ⊢
 have hv':=hv.ext hE
 by_cases hlt:k<i
 ·have hw:=zlm hlt (by have:=hv.2.1.1;omega)
  have hlu:k<zb u:=by rw [hU.2.1];exact hlt
  obtain ⟨p,q0,q1,hp,-,-,-,-,hL⟩:=hU.1.fields hlu
  have hx0:=hU.1.2.2 k hlu
  generalize hFk:zt s' u (k*2)=Fk at hL hx0
  generalize hTk:zt s' u (k*2+1)=Tk at hL hx0
  have hFk':zt s v (k*2)=Fk:=by rw [←hFk,hU.2.2 _ (by omega),hv'.2.1]
  have hEn:Ext s' (zN s' (.row [Fk,Tk] 2 49 false 0 0 0)):=zO _ _
  have hst:=qX s' 49 2 [V.nil 1,V.nil 1] [Fk,Tk] rfl rfl
  have hD:=zFE s' 49 Fk Tk hx0.1.ne hx0.2.ne
  generalize hs1:zN s' (.row [Fk,Tk] 2 49 false 0 0 0)=s1 at hEn hst hD
  obtain ⟨c0,c1,hc0,-,hcl⟩:=hC.ext hEn
  obtain ⟨d0,d1,hd0,-,hdl⟩:=hD
  have hcl:=(hcl s1 (Ext.refl _)).1
  have hdl:=(hdl s1 (Ext.refl _)).1
  have hIi:=((hv.2.2 i hi).1.ext (hE.trans hEn)).1
  have hIk:=(hx0.1.ext hEn).1
  obtain ⟨w,t,he,hpost⟩:=hEq [zt s v (i*2),Fk] s1 ⟨_,_,rfl,hIi,hIk⟩
  obtain ⟨rfl,rfl⟩:=hpost _ _ rfl
  have hw1:word t (zt s v (i*2))=zi s v i:=(hv.2.2 i hi).1.word (hE.trans hEn)
  have hw2:word t Fk=zi s v k:=by rw [←hFk'];exact (hv.2.2 k (by omega)).1.word (hE.trans hEn)
  rw [hw1,hw2] at he
  by_cases g:zi s v i=zi s v k
  ·simp [g] at he
   simp [zgC,yP,h13,h14,h15,hp,hL,zo,hst,hc0,hd0,hcl,hdl,he,hlt]
   exact .inr ⟨fun h=>h k hlt g,_,_,rfl,by simp [h240],by simp,hE.trans hEn,by simp [h0],by simp [h8],by simp [h9],by simp [h10]⟩
  ·simp [g] at he
   simp [zgC,yP,h13,h14,h15,hw,hp,hL,zo,hst,hc0,hd0,hcl,hdl,he,hlt]
   refine IH _ _ (zKI h14 h15 (by simp [h14]) (by simp) hlt) ⟨i,u,T,hi,hE.trans hEn,?_,?_,?_,?_,?_,?_,?_,hU.ext hv'.1 hEn,?_,k+1,hlt,?_,fun j hjk=>?_⟩ i hi ?_
   ·simp [h0]
   ·simp [h8]
   ·simp [h9]
   ·simp [h10]
   ·simp [h240]
   ·simp;exact hC.ext hEn
   ·simp [h13]
   ·simp [h14]
   ·simp
   ·rcases kaq j k with h' | h'
    ·exact hj j h'
    ·rw [show j=k by omega];exact g
   ·simp [h10]
 ·simp [zgC,yP,h14,h15,hlt]
  exact .inl ⟨fun j h=>hj j (by omega),_,_,rfl,by simp [h240],hE,by simp [h0],by simp [h8],by simp [h9],by simp [h10]⟩
theorem zFS (hv:Tab s v):∀ tm s',(wr v s 98).pre tm s'→(wr v s 98).post tm s' (zcC.run (Rk Tryz.prog K (wr v s)) tm s'):=by
 refine zeI (L:=wr v s) yH.1 yH.2 zFm (fun tm _=>zb v - (toI (gp 10 tm)).toNat) (fun tm s' a h1 (h2:LP _ _ _ _ _ _)=>h2.nb) ?_
 rintro tm s' ⟨hE,h0,h8,h9,h240,i,hi,h10,hj⟩ IH
 show LP _ _ _ _ _ (zcC.run _ tm s')
 have hSy:=zQ (L:=wr v s) zgI
 have hIn:=zFt hv
 generalize Rk Tryz.prog _ _=r at IH hSy hIn ⊢
 have hv':=hv.ext hE
 by_cases hlt:i<zb v
 ·have hw:=zlm hlt hv.2.1.1
  obtain ⟨p,q0,q1,hp,-,-,-,-,hL⟩:=hv'.1.fields hlt
  have hx:=hv'.1.2.2 i hlt
  have hx0:=hv.2.2 i hlt
  rw [hv'.2.1,hv'.2.1] at hL hx
  have hF:zi s v i=word s (zt s v (i*2)):=rfl
  have hT:toV s v i=word s (zt s v (i*2+1)):=rfl
  generalize hF0:zt s v (i*2)=F at hL hx hx0 hF
  generalize zt s v (i*2+1)=T at hL hx hx0 hT
  have hEn:Ext s' (zN s' (.row [F,T] 2 49 false 0 0 0)):=zO _ _
  have hst:=qX s' 49 2 [V.nil 1,V.nil 1] [F,T] rfl rfl
  have hD:=zFE s' 49 F T hx.1.ne hx.2.ne
  generalize hs1:zN s' (.row [F,T] 2 49 false 0 0 0)=s1 at hEn hst hD
  have hE1:=hE.trans hEn
  have hI1:=(hx0.1.ext hE1).1
  have hI1':=(hx0.2.ext hE1).1
  have hR:zoa (zi s v) (toV s v) i↔1≤zb F∧zb F≤20∧zb T≤20∧jl 500 (word s F)∧jl 500 (word s T)∧∀ k,k<i→zi s v i≠zi s v k:=by
   unfold zoa;rw [hF,hT,zA,zA]
  obtain ⟨c0,c1,hc0,hc1,hcl⟩:=hD
  have hl1:=hcl s1 (Ext.refl _)
  by_cases g1:zb F<1
  ·have g1':(zb F:Int)<1:=by omega
   simp [wb,yP,h8,h9,h10,hp,hL,zo,hst,hc0,hl1.1,hI1.1.len,hlt,g1']
   exact .inr ⟨fun h=>by have:=(hR.1 (h i hlt)).1;omega,_,_,rfl,by simp [h240],by simp,hE1⟩
  have g1':¬(zb F:Int)<1:=by omega
  by_cases g2:20<zb F
  ·have g2':(20:Int)<zb F:=by omega
   simp [wb,yP,h8,h9,h10,hp,hL,zo,hst,hc0,hl1.1,hI1.1.len,hlt,g1',g2']
   exact .inr ⟨fun h=>by have:=(hR.1 (h i hlt)).2.1;omega,_,_,rfl,by simp [h240],by simp,hE1⟩
  have g2':¬(20:Int)<zb F:=by omega
  by_cases g3:20<zb T
  ·have g3':(20:Int)<zb T:=by omega
   simp [wb,yP,h8,h9,h10,hp,hL,zo,hst,hc0,hc1,hl1.1,hl1.2,hI1.1.len,hI1'.1.len,hlt,g1',g2',g3']
   exact .inr ⟨fun h=>by have:=(hR.1 (h i hlt)).2.2.1;omega,_,_,rfl,by simp [h240],by simp,hE1⟩
  have g3':¬(20:Int)<zb T:=by omega
  obtain ⟨w,s2,he1,hpost⟩:=hSy [F,iv .i64 500] s1 ⟨F,500,rfl,hI1⟩
  obtain ⟨hE2,rfl⟩:=hpost _ _ rfl
  rw [hx0.1.word hE1] at he1
  by_cases g4:jl 500 (word s F)
  case neg =>
   simp only [g4,decide_false] at he1
   simp [wb,yP,h8,h9,h10,hp,hL,zo,hst,hc0,hc1,hl1.1,hl1.2,hI1.1.len,hI1'.1.len,hlt,g1',g2',g3',he1]
   exact .inr ⟨fun h=>g4 (hR.1 (h i hlt)).2.2.2.1,_,_,rfl,by simp [h240],by simp,hE1.trans hE2⟩
  simp only [g4,decide_true] at he1
  have hl2:=hcl s2 hE2
  obtain ⟨w,s3,he2,hpost⟩:=hSy [T,iv .i64 500] s2 ⟨T,500,rfl,(hI1'.ext hE2).1⟩
  obtain ⟨hE3,rfl⟩:=hpost _ _ rfl
  rw [hx0.2.word (hE1.trans hE2)] at he2
  have hE3':=(hE1.trans hE2).trans hE3
  by_cases g5:jl 500 (word s T)
  case neg =>
   simp only [g5,decide_false] at he2
   simp [wb,yP,h8,h9,h10,hp,hL,zo,hst,hc0,hc1,hl1.1,hl1.2,hl2.2,hI1.1.len,hI1'.1.len,hlt,g1',g2',g3',he1,he2]
   exact .inr ⟨fun h=>g5 (hR.1 (h i hlt)).2.2.2.2.1,_,_,rfl,by simp [h240],by simp,hE3'⟩
  simp only [g5,decide_true] at he2
  have hv3:=hv.ext hE3'
  obtain ⟨u,hu,hU⟩:=Tab.sub hv3.1 (i:=i) (by omega) (k:=.i64)
  have hul:zb u=i:=hU.2.1
  simp [wb,yP,h0,h8,h9,h10,hp,hL,zo,hst,hc0,hc1,hl1.1,hl1.2,hl2.2,hI1.1.len,hI1'.1.len,hlt,g1',g2',g3',he1,he2,hu,hU.1.1.len,hul]
  generalize hA:zcB.run r _ s3=a
  have:=(hA▸hIn _ _ ⟨i,u,T,hlt,hE3',by simp [h0],by simp [h8],by simp [h9],by simp [h10],by simp [h240],by simp;rw [hF0];exact (Cv.ext ⟨c0,c1,hc0,hc1,hcl⟩ (hE2.trans hE3)),by simp,hU,by simp,0,by omega,by simp,fun _ h=>by omega⟩) i hlt (by simp [h10])
  rcases this with ⟨hg,tm',s4,rfl,k1,k2,k3,k4,k5,k6⟩ | ⟨hg,tm',s4,rfl,k1,kr,k2,k3,k4,k5,k6⟩
  ·simp [yC,k6,hw]
   refine IH _ _ (zGw h10 (by simp) hlt) ⟨k2,?_,?_,?_,?_,i+1,by omega,?_,fun j h=>?_⟩
   ·simp [k3]
   ·simp [k4]
   ·simp [k5]
   ·simp [k1]
   ·simp
   ·rcases kaq j i with h' | h'
    ·exact hj j h'
    ·rw [show j=i by omega];exact hR.2 ⟨by omega,by omega,by omega,g4,g5,hg⟩
  ·simp
   exact .inr ⟨fun h=>hg (hR.1 (h i hlt)).2.2.2.2.2,_,_,rfl,k1,kr,k2⟩
 ·simp [wb,yP,h9,h10,hlt]
  exact .inl ⟨fun j h=>hj j (by omega),_,_,rfl,by simp [h240],hE⟩
open Classical in
theorem zoR:zL Tryz.prog K 22:=by
 rintro a s ⟨v,rfl,hv⟩
 suffices h:∃ s',qO Tryz.prog 22 [v] s (.bool (decide (qx s v))) s'∧Ext s s' by
  obtain ⟨s',h1,h2⟩:=h
  exact ⟨_,s',h1,fun x' e=>by cases e;exact ⟨h2,rfl⟩⟩
 have hL:=zFS hv
 by_cases g1:zb v<1
 ·have g1':(zb v:Int)<1:=by omega
  rw [decide_eq_false (fun h:qx s v=>by have:=h.1;omega)]
  refine ⟨s,zmS (L:=noL) ?_,Ext.refl _⟩
  generalize Rk Tryz.prog _ _=r
  simp [yP,hv.1.len,g1']
 have g1':¬(zb v:Int)<1:=by omega
 by_cases g2:20<zb v
 ·have g2':(20:Int)<zb v:=by omega
  rw [decide_eq_false (fun h:qx s v=>by have:=h.2.1;omega)]
  refine ⟨s,zmS (L:=noL) ?_,Ext.refl _⟩
  generalize Rk Tryz.prog _ _=r
  simp [yP,hv.1.len,g1',g2']
 have g2':¬(20:Int)<zb v:=by omega
 have hrun:∃ s',(fnC pc0 22).run (Rk Tryz.prog K (wr v s)) [v] s=.ret (.bool (decide (qx s v))) s'∧Ext s s':=by
  generalize Rk Tryz.prog _ _=r at hL ⊢
  simp [yP,hv.1.len,g1',g2']
  generalize hA:zcC.run r _ s=a
  have:=hA▸hL _ _ ⟨Ext.refl _,by simp,by simp,by simp,by simp,0,by omega,by simp,fun _ h=>by omega⟩
  rcases this with ⟨hg,tm',s',rfl,k1,k2⟩ | ⟨hg,tm',s',rfl,k1,k2,k3⟩
  ·rw [decide_eq_true (show qx s v from ⟨by omega,by omega,hg⟩)]
   exact ⟨s',by simp [yC,k1],k2⟩
  ·rw [decide_eq_false (fun h:qx s v=>hg h.2.2)]
   exact ⟨s',by simp [k1,k2],k3⟩
 obtain ⟨s',h1,h2⟩:=hrun
 exact ⟨s',zmS h1,h2⟩
open Classical in
theorem zNA:zL Tryz.prog K 21:=by
 rintro a s ⟨x,rfl,hx⟩
 suffices h:qO Tryz.prog 21 [x] s (.bool (decide (250<zb x))) s from ⟨_,_,h,fun x' e=>by cases e;exact ⟨rfl,rfl⟩⟩
 refine zmS (L:=noL) ?_
 generalize Rk Tryz.prog _ _=r
 by_cases h:250<zb x
 ·have h':(250:Int)<zb x:=by omega
  rw [decide_eq_true h]
  simp [zLl,hx.1.len,h']
 ·have h':¬(250:Int)<zb x:=by omega
  rw [decide_eq_false h]
  simp [zLl,hx.1.len,h']
variable {a:Go.Ev.K}
theorem zLS (h:a.toNat<s.nx.toNat):a≠s.nx:=fun e=>by rw [e] at h;omega
theorem zfm (s:S) (b:B) (h:a.toNat<s.nx.toNat):Tr.get B.none a (zN s b).h=Tr.get B.none a s.h:=(zO s b).get a h
def jN (s:S) (kc:Go.Ev.K) (c':Int):S:=zN (zN (qj s kc (.row [iv .i64 c'] 1 3 false 0 0 0)) (.map [] 0)) (.row [.ref 0 s.nx,iv .i64 (-1),iv .i64 c'] 3 70 false 0 0 0)
theorem zEJ (s:S) (kc:Go.Ev.K) (c':Int):(jN s kc c').nx.toNat=s.nx.toNat+2:=by
 show s.nx.succ.succ.toNat=_
 rw [K.toNat_succ,K.toNat_succ]
variable {c':Int}
theorem zaV {kc:Go.Ev.K} (h:a.toNat<s.nx.toNat):Tr.get B.none a (jN s kc c').h=if a=kc then .row [iv .i64 c'] 1 3 false 0 0 0 else Tr.get B.none a s.h:=by
 unfold jN
 rw [zfm _ _ (by show a.toNat<s.nx.succ.toNat;rw [K.toNat_succ];omega),zfm (qj s kc _) _ h,zm]
theorem zx0 (s:S) (kc:Go.Ev.K) (c':Int):Tr.get B.none s.nx (jN s kc c').h=.map [] 0:=by
 unfold jN
 rw [zfm _ _ (by show s.nx.toNat<s.nx.succ.toNat;rw [K.toNat_succ];omega)]
 exact zx (qj s kc _) _
theorem zfi (s:S) (kc:Go.Ev.K) (c':Int):Tr.get B.none s.nx.succ (jN s kc c').h=.row [.ref 0 s.nx,iv .i64 (-1),iv .i64 c'] 3 70 false 0 0 0:=zx (zN (qj s kc _) _) _
theorem zD8:zL Tryz.prog K 66:=by
 rintro a s ⟨kc,c,rfl,hg,hlt⟩
 refine ⟨.ptr s.nx.succ 0 0,jN s kc (IntKind.i64.wrap (c+1)),zmS (L:=noL) ?_,fun kc' c2 e hg2=>by cases e;rw [hg] at hg2;injection hg2 with hg2;injection hg2 with hg2;rw [zpX hg2];exact ⟨rfl,rfl⟩⟩
 generalize Rk Tryz.prog _ _=r
 have hl1:=zw hg 0 rfl (by omega) (by simp [yN])
 simp only [List.getD_cons_zero] at hl1
 have hst:=fun (k:V→S→A)=>zan hg 0 (iv .i64 (IntKind.i64.wrap (c+1))) (zaU _ _) (by omega) k
 simp only [upd,put] at hst
 have hg2:Tr.get B.none kc (zN (qj s kc (.row [iv .i64 (IntKind.i64.wrap (c+1))] 1 3 false 0 0 0)) (.map [] 0)).h=.row [iv .i64 (IntKind.i64.wrap (c+1))] 1 3 false 0 0 0:=by
  rw [zfm (qj s kc _) _ hlt,zm,if_pos rfl]
 have hl2:=zw hg2 0 rfl (by omega) (by simp [yN])
 simp only [List.getD_cons_zero] at hl2
 simp [zLd,hl1,hst,zjz,hl2,qR,upd,put,zo]
 exact ⟨rfl,rfl⟩
structure Bld (N:Nat) (s s':S) (nd:List Int→Option (Go.Ev.K × Go.Ev.K)) (rw:List Int→Int):Prop where
 ext:Ext s s'
 cnt:∃ c:Nat,Tr.get B.none s.nx s'.h=.row [iv .i64 (c:Int)] 1 3 false 0 0 0∧c≤N∧∃ idf,zJq s' nd idf c∧idf []=1
 tree:TreeOK (zN s (.row [iv .i64 0] 1 3 false 0 0 0)) s' nd rw
theorem Bld.later {N:Nat} {s2:S} {nd:List Int→Option (Go.Ev.K × Go.Ev.K)} {rw:List Int→Int} (h:Bld N s s' nd rw) (e:Ext s' s2) (hk:s.nx.toNat<s'.nx.toNat):Bld N s s2 nd rw:=by
 refine ⟨h.ext.trans e,?_,⟨fun w a m hw=>?_,fun w a m hw=>?_,h.tree.inj,h.tree.root,h.tree.closed⟩⟩
 ·obtain ⟨c,hc,hN,idf,hi,hi1⟩:=h.cnt
  refine ⟨c,(e.get _ hk).trans hc,hN,idf,⟨fun w a m hw=>?_,hi.2⟩,hi1⟩
  obtain ⟨i1,i2,x,i3⟩:=hi.1 w a m hw
  exact ⟨i1,i2,x,(e.get a (h.tree.rng w a m hw).2.1).trans i3⟩
 ·obtain ⟨_,g2,_,g4⟩:=h.tree.rng w a m hw
  obtain ⟨⟨id,h1⟩,es,ck,h2,h3⟩:=h.tree.node w a m hw
  exact ⟨⟨id,(e.get a g2).trans h1⟩,es,ck,(e.get m g4).trans h2,h3⟩
 ·obtain ⟨g1,g2,g3,g4⟩:=h.tree.rng w a m hw
  exact ⟨g1,kaf g2 e.nx,g3,kaf g4 e.nx⟩
theorem Bld.lt {N:Nat} {nd:List Int→Option (Go.Ev.K × Go.Ev.K)} {rw:List Int→Int} (h:Bld N s s' nd rw):s.nx.toNat<s'.nx.toNat:=by
 obtain ⟨p,hp⟩:=kaz.1 h.tree.root
 obtain ⟨g1,g2,_⟩:=h.tree.rng [] p.1 p.2 hp
 have:(zN s (.row [iv .i64 0] 1 3 false 0 0 0)).nx.toNat=s.nx.toNat+1:=K.toNat_succ _
 omega
theorem zia (s:S):(zN s (.row [iv .i64 0] 1 3 false 0 0 0)).nx.toNat=s.nx.toNat+1:=K.toNat_succ _
variable {m:Go.Ev.K} {w0:List Int}
theorem Bld.insert {N:Nat} {nd:List Int→Option (Go.Ev.K × Go.Ev.K)} {rw:List Int→Int} (h:Bld N s s' nd rw) (hw:nd w0=some (a,m)) (hn:nd (w0++[z])=none) {c:Nat} (hc:Tr.get B.none s.nx s'.h=.row [iv .i64 (c:Int)] 1 3 false 0 0 0) (hc':c'=(c:Int)+1) :
  ∃ es ck,Tr.get B.none m (jN s' s.nx c').h=.map es ck∧zg2 es∧Tr.get B.none a (jN s' s.nx c').h=Tr.get B.none a s'.h ∧
   ∀ es' ck',zg2 es'→(∀ y,zcd es' y=if y=z then some (.ptr s'.nx.succ 0 0) else zcd es y) →
    Bld (N+1) s (qj (jN s' s.nx c') m (.map es' ck')) (fun w=>if w=w0++[z] then some (s'.nx.succ,s'.nx) else nd w) (fun w=>if w=w0++[z] then -1 else rw w):=by
 have hlt:=h.lt
 have hb:=zia s
 obtain ⟨⟨id,hrow⟩,es,ck,hmap,hkeys,hmapI⟩:=h.tree.node w0 a m hw
 obtain ⟨r1,r2,r3,r4⟩:=h.tree.rng w0 a m hw
 have hmk:m≠s.nx:=fun e=>by rw [e] at r3;omega
 have hak:a≠s.nx:=fun e=>by rw [e] at r1;omega
 refine ⟨es,ck,by rw [zaV r4,if_neg hmk,hmap],hkeys,by rw [zaV r2,if_neg hak],fun es' ck' hk' hm'=>?_⟩
 have old:∀ x:Go.Ev.K,x.toNat<s'.nx.toNat→x≠s.nx→x≠m→Tr.get B.none x (qj (jN s' s.nx c') m (.map es' ck')).h=Tr.get B.none x s'.h:=fun x h1 h2 h3=>by
  rw [zm,if_neg h3,zaV h1,if_neg h2]
 have hgn:=zEJ s' s.nx c'
 have hsn:s'.nx.succ.toNat=s'.nx.toNat+1:=K.toNat_succ _
 refine ⟨⟨by show s.nx.toNat≤(jN s' s.nx c').nx.toNat;omega,fun x hx=>?_⟩,⟨c+1,?_,?_,?_⟩,⟨?_,?_,?_,?_,?_⟩⟩
 ·rw [old x (by omega) (zLS hx) (fun e=>by rw [e] at hx;omega)]
  exact h.ext.get x hx
 ·rw [zm,if_neg (Ne.symm hmk),zaV hlt,if_pos rfl,hc'];rfl
 ·obtain ⟨c2,g1,g2,-⟩:=h.cnt
  rw [hc] at g1
  injection g1 with g1
  injection g1 with g1
  have:=zae g1
  omega
 ·obtain ⟨c2,g1,g2,idf,hi,hi1⟩:=h.cnt
  rw [hc] at g1
  injection g1 with g1
  injection g1 with g1
  obtain rfl:c=c2:=zae g1
  refine ⟨fun w=>if w=w0++[z] then c+1 else idf w,⟨fun w a2 m2 h2=>?_,fun w w' h1 h2 h3=>?_⟩,by simpa using hi1⟩
  ·by_cases e:w=w0++[z]
   ·subst e
    simp only [if_true] at h2
    cases h2
    simp only [if_true]
    refine ⟨by omega,by omega,iv .i64 (-1),?_⟩
    rw [zm,if_neg (fun e=>by rw [←e] at r4;omega),zfi,hc'];rfl
   ·simp only [if_neg e] at h2 ⊢
    obtain ⟨i1,i2,x,i3⟩:=hi.1 w a2 m2 h2
    obtain ⟨q1,q2,q3,q4⟩:=h.tree.rng w a2 m2 h2
    have ha2:a2≠m:=fun e=>by rw [e,hmap] at i3;cases i3
    exact ⟨i1,by omega,x,by rw [old a2 q2 (fun e=>by rw [e] at q1;omega) ha2];exact i3⟩
  ·have lim:∀ w,nd w≠none→idf w≤c:=fun w hw=>by
    obtain ⟨p,hp⟩:=kaz.1 hw
    exact (hi.1 w p.1 p.2 hp).2.1
   by_cases e:w=w0++[z]<;>by_cases e':w'=w0++[z]
   ·rw [e,e']
   ·simp only [if_pos e,if_neg e'] at h2 h3
    have:=lim w' h2
    omega
   ·simp only [if_neg e,if_pos e'] at h1 h3
    have:=lim w h1
    omega
   ·simp only [if_neg e,if_neg e'] at h1 h2 h3
    exact hi.2 w w' h1 h2 h3
 ·intro w a2 m2 h2
  by_cases e:w=w0++[z]
  ·subst e
   simp only [if_true] at h2
   cases h2
   refine ⟨⟨c',?_⟩,[],0,?_,fun e he=>(by cases he),fun y=>?_⟩
   ·rw [zm,if_neg (fun e=>by rw [←e] at r4;omega),zfi];simp
   ·rw [zm,if_neg (fun e=>by rw [←e] at r4;omega),zx0]
   ·have:nd (w0++[z]++[y])=none:=by
     cases hh:nd (w0++[z]++[y]) with
     | none=>rfl
     | some p=>exact absurd hn (h.tree.closed _ _ (by rw [hh];simp))
    show zcd [] y=(if w0++[z]++[y]=w0++[z] then some (s'.nx.succ,s'.nx) else nd (w0++[z]++[y])).map fun p=>V.ptr p.1 0 0
    rw [if_neg (fun e=>by have:=congrArg List.length e;simp at this),this];rfl
  ·simp only [if_neg e] at h2 ⊢
   obtain ⟨⟨id2,hrow2⟩,es2,ck2,hmap2,hkeys2,hmapI2⟩:=h.tree.node w a2 m2 h2
   obtain ⟨q1,q2,q3,q4⟩:=h.tree.rng w a2 m2 h2
   have ha2:a2≠m:=fun e=>by rw [e,hmap] at hrow2;cases hrow2
   refine ⟨⟨id2,by rw [old a2 q2 (fun e=>by rw [e] at q1;omega) ha2];exact hrow2⟩,?_⟩
   by_cases em:m2=m
   ·subst em
    obtain rfl:w=w0:=h.tree.inj _ _ _ _ h2 hw (.inr rfl)
    refine ⟨es',ck',by rw [zm,if_pos rfl],hk',fun y=>?_⟩
    show zcd es' y=(if w++[y]=w++[z] then some (s'.nx.succ,s'.nx) else nd (w++[y])).map fun p=>V.ptr p.1 0 0
    rw [hm' y,hmapI y]
    by_cases ey:y=z
    ·subst ey;rw [if_pos rfl,if_pos rfl];rfl
    ·rw [if_neg ey,if_neg (fun e=>ey (by simpa using e))]
   ·refine ⟨es2,ck2,by rw [old m2 q4 (fun e=>by rw [e] at q3;omega) em];exact hmap2,hkeys2,fun y=>?_⟩
    show zcd es2 y=(if w++[y]=w0++[z] then some (s'.nx.succ,s'.nx) else nd (w++[y])).map fun p=>V.ptr p.1 0 0
    rw [hmapI2 y,if_neg (fun e=>em ?_)]
    have hww:w=w0:=by
     have:=congrArg List.dropLast e
     simpa using this
    rw [hww,hw] at h2
    exact (Prod.mk.inj (Option.some.inj h2)).2.symm
 ·intro w a2 m2 h2
  show _∧a2.toNat<(jN s' s.nx c').nx.toNat∧_∧m2.toNat<(jN s' s.nx c').nx.toNat
  by_cases e:w=w0++[z]
  ·simp only [if_pos e] at h2
   cases h2
   omega
  ·simp only [if_neg e] at h2
   have:=h.tree.rng w a2 m2 h2
   omega
 ·intro w w' p p' h1 h2 h3
  have lts:∀ w p,nd w=some p→p.1.toNat<s'.nx.toNat∧p.2.toNat<s'.nx.toNat:=fun w p hp=>⟨(h.tree.rng w p.1 p.2 hp).2.1,(h.tree.rng w p.1 p.2 hp).2.2.2⟩
  by_cases e:w=w0++[z]
  ·by_cases e':w'=w0++[z]
   ·rw [e,e']
   ·simp only [if_pos e] at h1
    simp only [if_neg e'] at h2
    cases h1
    obtain ⟨l1,l2⟩:=lts _ _ h2
    rcases h3 with h3 | h3
    ·simp at h3;rw [←h3] at l1;omega
    ·simp at h3;rw [←h3] at l2;omega
  ·by_cases e':w'=w0++[z]
   ·simp only [if_neg e] at h1
    simp only [if_pos e'] at h2
    cases h2
    obtain ⟨l1,l2⟩:=lts _ _ h1
    rcases h3 with h3 | h3
    ·simp at h3;rw [h3] at l1;omega
    ·simp at h3;rw [h3] at l2;omega
   ·simp only [if_neg e] at h1
    simp only [if_neg e'] at h2
    exact h.tree.inj _ _ _ _ h1 h2 h3
 ·show (if ([]:List Int)=w0++[z] then some (s'.nx.succ,s'.nx) else nd [])≠none
  rw [if_neg (by simp)];exact h.tree.root
 ·intro w y hy
  show (if w=w0++[z] then some (s'.nx.succ,s'.nx) else nd w)≠none
  by_cases e:w=w0++[z]
  ·rw [if_pos e];simp
  ·rw [if_neg e]
   by_cases e':w++[y]=w0++[z]
   ·have:w=w0:=by have:=congrArg List.dropLast e';simpa using this
    rw [this,hw];simp
   ·simp only [if_neg e'] at hy
    exact h.tree.closed w y hy
theorem Bld.mark {N:Nat} {nd:List Int→Option (Go.Ev.K × Go.Ev.K)} {rw:List Int→Int} (h:Bld N s s' nd rw) (hw:nd w0=some (a,m)) (i:Int) :
  ∃ id:Int,Tr.get B.none a s'.h=.row [.ref 0 m,iv .i64 (rw w0),iv .i64 id] 3 70 false 0 0 0 ∧
   Bld N s (qj s' a (.row [.ref 0 m,iv .i64 i,iv .i64 id] 3 70 false 0 0 0)) nd (fun w=>if w=w0 then i else rw w):=by
 have hlt:=h.lt
 have hb:=zia s
 obtain ⟨⟨id,hrow⟩,es,ck,hmap,hkeys,hmapI⟩:=h.tree.node w0 a m hw
 obtain ⟨r1,r2,r3,r4⟩:=h.tree.rng w0 a m hw
 refine ⟨id,hrow,⟨⟨h.ext.nx,fun x hx=>?_⟩,?_,⟨fun w a2 m2 h2=>?_,h.tree.rng,h.tree.inj,h.tree.root,h.tree.closed⟩⟩⟩
 ·rw [zm,if_neg (fun e=>by rw [e] at hx;omega)];exact h.ext.get x hx
 ·obtain ⟨c,hc,hN,idf,hi,hi1⟩:=h.cnt
  refine ⟨c,by rw [zm,if_neg (fun e=>by rw [←e] at r1;omega)];exact hc,hN,idf,⟨fun w a2 m2 h2=>?_,hi.2⟩,hi1⟩
  obtain ⟨i1,i2,x,i3⟩:=hi.1 w a2 m2 h2
  refine ⟨i1,i2,?_⟩
  by_cases e:a2=a
  ·subst e
   rw [hrow] at i3
   injection i3 with i3
   injection i3 with i3 i4
   injection i4 with i4 i5
   injection i5 with i5
   refine ⟨iv .i64 i,?_⟩
   rw [zm,if_pos rfl,i3,i5]
  ·exact ⟨x,by rw [zm,if_neg e];exact i3⟩
 ·obtain ⟨⟨id2,hrow2⟩,es2,ck2,hmap2,hkeys2,hmapI2⟩:=h.tree.node w a2 m2 h2
  refine ⟨?_,es2,ck2,by rw [zm,if_neg (fun e=>by rw [e,hrow] at hmap2;cases hmap2)];exact hmap2,hkeys2,hmapI2⟩
  by_cases e:w=w0
  ·subst e
   rw [hw] at h2
   cases h2
   exact ⟨id,by rw [zm,if_pos rfl];simp⟩
  ·refine ⟨id2,?_⟩
   rw [zm,if_neg (fun e'=>e (h.tree.inj _ _ _ _ h2 hw (.inl e')))]
   simp only [if_neg e];exact hrow2
variable {w:List Int}
theorem zE2.read {nd:List Int→Option (Go.Ev.K × Go.Ev.K)} {rw:List Int→Int} (h:zE2 s nd rw) (hw:nd w=some (a,m)) :
  (∀ k:V→S→A,zd false 1 (.ptr a 0 0) s k=k (.ref 0 m) s)∧(∀ k:V→S→A,zd false 1 (.ptr a 0 1) s k=k (iv .i64 (rw w)) s) ∧
   (∀ z c,nd (w++[z])=none→z4 ⟨7,[]⟩ (.nil 0) false (.ref 0 m) (iv .i64 z) s c=c (.nil 0)) ∧
   ∀ z c b m',nd (w++[z])=some (b,m')→z4 ⟨7,[]⟩ (.nil 0) false (.ref 0 m) (iv .i64 z) s c=c (.ptr b 0 0):=by
 obtain ⟨⟨id,hrow⟩,es,ck,hmap,hkeys,hmapI⟩:=h w a m hw
 refine ⟨fun k=>?_,fun k=>?_,fun z c hn=>?_,fun z c b m' hn=>?_⟩
 ·have:=zw hrow 0 rfl (by omega) (by simp) k
  simpa using this
 ·have:=zw hrow 1 rfl (by omega) (by simp [yN]) k
  simpa using this
 ·rw [zBQ hmap hkeys,hmapI z,hn];rfl
 ·rw [zBQ hmap hkeys,hmapI z,hn];rfl
theorem ji.insert {F:Nat→List Int} {nd:List Int→Option (Go.Ev.K × Go.Ev.K)} {rw:List Int→Int} (h:ji F i nd rw) {p:Go.Ev.K × Go.Ev.K} (hn:nd w0=none) :
  ji F i (fun w=>if w=w0 then some p else nd w) (fun w=>if w=w0 then -1 else rw w):=by
 refine ⟨fun k hk w hw=>?_,fun w hw=>?_⟩
 ·show (if w=w0 then some p else nd w)≠none
  by_cases e:w=w0
  ·rw [if_pos e];simp
  ·rw [if_neg e];exact h.1 k hk w hw
 ·show (∀ k:Nat,k<i→F k=w→(if w=w0 then (-1:Int) else rw w)=k)∧((∀ k,k<i→F k≠w)→(if w=w0 then (-1:Int) else rw w)=-1)
  by_cases e:w=w0
  ·subst e
   refine ⟨fun k hk e2=>absurd hn (h.1 k hk w (by rw [e2];exact List.prefix_refl w)),fun _=>if_pos rfl⟩
  ·simp only [if_neg e] at hw ⊢
   exact h.2 w hw
theorem ji.mark {F:Nat→List Int} {nd:List Int→Option (Go.Ev.K × Go.Ev.K)} {rw:List Int→Int} (h:ji F i nd rw) (hp:∀ w,w <+: F i→nd w≠none) (hd:∀ k,k<i→F i≠F k) :
  ji F (i+1) nd (fun w=>if w=F i then (i:Int) else rw w):=by
 refine ⟨fun k hk w hw=>?_,fun w hw=>?_⟩
 ·rcases kaq k i with g | g
  ·exact h.1 k g w hw
  ·rw [show k=i by omega] at hw;exact hp w hw
 ·show (∀ k:Nat,k<i+1→F k=w→(if w=F i then (i:Int) else rw w)=k)∧((∀ k,k<i+1→F k≠w)→(if w=F i then (i:Int) else rw w)=-1)
  by_cases e:w=F i
  ·subst e
   refine ⟨fun k hk e2=>?_,fun hh=>absurd rfl (hh i (by omega))⟩
   rw [if_pos rfl]
   rcases kaq k i with g | g
   ·exact absurd e2.symm (hd k g)
   ·omega
  ·rw [if_neg e]
   refine ⟨fun k hk e2=>?_,fun hh=>(h.2 w hw).2 fun k hk=>hh k (by omega)⟩
   rcases kaq k i with g | g
   ·exact (h.2 w hw).1 k g e2
   ·exact absurd (by rw [←e2,show k=i by omega]) e
theorem zaY {j:Nat} {x:Int} (h:w[j]?=some x):w.take (j+1)=w.take j++[x]:=by
 rw [List.take_add_one,h];rfl
theorem zlB {u:List Int} {x:Int} (h:u <+: w++[x]):u <+: w∨u=w++[x]:=by
 obtain ⟨t,ht⟩:=h
 rcases List.eq_nil_or_concat t with rfl | ⟨t',y,rfl⟩
 ·right;simpa using ht
 ·left
  rw [List.concat_eq_append,←kat] at ht
  have:=List.append_inj_left' ht rfl
  exact ⟨t',this⟩
theorem zmY {F:Nat→List Int} {b:Nat}:∀ n,(∀ k,k<n→(F k).length≤b)→qv F n≤n*b
 | 0,_=>by simp [qv]
 | n+1,h=>by
  have:=zmY n fun k hk=>h k (by omega)
  have:=h n (by omega)
  rw [qv,Nat.add_mul];omega
theorem Bld.mono {N N':Nat} {nd:List Int→Option (Go.Ev.K × Go.Ev.K)} {rw:List Int→Int} (h:Bld N s s' nd rw) (hN:N≤N'):Bld N' s s' nd rw:=by
 obtain ⟨c,h1,h2,h3⟩:=h.cnt
 exact ⟨h.ext,⟨c,h1,by omega,h3⟩,h.tree⟩
def TrF (l:V) (s:S) (tm:T) (r0:Go.Ev.K):Prop:=gp 0 tm=l∧gp 4 tm=.fn (.func 66) [] [.ptr s.nx 0 0]∧gp 5 tm=.ptr r0 0 0∧gp 11 tm=l∧gp 12 tm=iv .i64 (zb l)∧gp 240 tm=.bad
def zoO (l:V) (s:S) (i:Nat) (r0:Go.Ev.K) (A0:A):Prop:=∃ tm' s'' nd rw m0 a m,A0=.ext 2 tm' s''∧TrF l s tm' r0∧nd []=some (r0,m0)∧gp 13 tm'=iv .i64 i∧gp 6 tm'=iv .i64 i∧(Bld (1+qv (zi s l) (i+1)) s s'' nd rw∧Pfx (zi s l) (zb l) nd)∧ji (zi s l) i nd rw ∧
 gp 8 tm'=.ptr a 0 0∧nd (zi s l i)=some (a,m)∧∀ w,w <+: zi s l i→nd w≠none
def zfr (l:V) (s:S) (A0:A):Prop:=∃ tm' s'' nd rw r0 m0,A0=.ext 0 tm' s''∧gp 240 tm'=.bad∧gp 5 tm'=.ptr r0 0 0∧nd []=some (r0,m0)∧(Bld (1+qv (zi s l) (zb l)) s s'' nd rw∧Pfx (zi s l) (zb l) nd)∧ji (zi s l) (zb l) nd rw
def zbe (l:V) (s:S):Nat→Lt
 | 47=>⟨fun tm s'=>∃ i nd rw r0 m0 a m,i<zb l∧TrF l s tm r0∧nd []=some (r0,m0)∧gp 13 tm=iv .i64 (i:Nat)∧gp 6 tm=iv .i64 (i:Nat)∧Pfx (zi s l) (zb l) nd∧ji (zi s l) i nd rw∧gp 15 tm=zt s l (i*2)∧gp 16 tm=iv .i64 (zb (zt s l (i*2))) ∧
   ∃ j:Nat,j≤zb (zt s l (i*2))∧Bld (1+qv (zi s l) i+j) s s' nd rw∧gp 17 tm=iv .i64 j∧gp 8 tm=.ptr a 0 0∧nd ((zi s l i).take j)=some (a,m)∧∀ w,w <+: (zi s l i).take j→nd w≠none,
  fun tm _ A0=>∀ (i:Nat) r0,i<zb l→gp 13 tm=iv .i64 i→gp 5 tm=.ptr r0 0 0→zoO l s i r0 A0⟩
 | _=>⟨fun tm s'=>∃ i nd rw r0 m0,i≤zb l∧TrF l s tm r0∧nd []=some (r0,m0)∧gp 13 tm=iv .i64 (i:Nat)∧(Bld (1+qv (zi s l) i) s s' nd rw∧Pfx (zi s l) (zb l) nd)∧ji (zi s l) i nd rw,fun _ _ A0=>zfr l s A0⟩
variable {a:A}
theorem zoO.nb {l:V} {r0:Go.Ev.K} (h:zoO l s i r0 a):¬a.isBad:=by
 obtain ⟨_,_,_,_,_,_,_,rfl,_⟩:=h;exact fun h=>h
theorem zfr.nb {l:V} (h:zfr l s a):¬a.isBad:=by
 obtain ⟨_,_,_,_,_,_,rfl,_⟩:=h;exact fun h=>h
theorem zIA {l:V} (hl:Tab s l) (hok:qx s l):∀ tm s',(zbe l s 47).pre tm s'→(zbe l s 47).post tm s' (zev.run (Rk Tryz.prog K (zbe l s)) tm s'):=by
 refine zeI (L:=zbe l s) yH.1 yH.2 zI7 (fun tm _=>(toI (gp 16 tm)).toNat - (toI (gp 17 tm)).toNat) (fun tm s' a h1 h2=>by obtain ⟨i,_,_,r0,_,_,_,hi,hF,_,h13,_⟩:=h1;exact (h2 i r0 hi h13 hF.2.2.1).nb) ?_
 rintro tm s' ⟨i,nd,rw,r0,m0,a,m,hi,hF,hroot,h13,h6,hP,hR,h15,h16,j,hj,hB,h17,h8,hnode,hpre⟩ IH i' r0' hi' h13' h5'
 obtain rfl:i=i':=zae (h13.symm.trans h13')
 obtain ⟨h0,h4,h5,h11,h12,h240⟩:=hF
 obtain rfl:r0=r0':=by rw [h5] at h5';injection h5'
 show zoO l s i r0 (zev.run _ tm s')
 have hC:=zQ (L:=zbe l s) zD8
 generalize Rk Tryz.prog _ _=r at IH hC ⊢
 have hIx:=(hl.2.2 i hi).1
 have hFe:zi s l i=word s (zt s l (i*2)):=rfl
 generalize hFd:zt s l (i*2)=F at *
 by_cases hlt:j<zb F
 ·have hw:=zlm hlt hIx.2.1
  obtain ⟨p,hp,hPt⟩:=(hIx.ext hB.ext).1.at_ hlt
  rw [(hIx.ext hB.ext).2 j] at hPt
  have hz:(zi s l i)[j]?=some (qi s F j):=by rw [hFe];exact yb hlt
  generalize qi s F j=z at hPt hz
  have htk:=zaY hz
  obtain ⟨d1,d2,d3,d4⟩:=hB.tree.node.read hnode
  have next:∀ tm' s2 nd' rw' b m',gp 0 tm'=l→gp 4 tm'=.fn (.func 66) [] [.ptr s.nx 0 0]→gp 5 tm'=.ptr r0 0 0→gp 11 tm'=l→gp 12 tm'=iv .i64 (zb l)→gp 240 tm'=.bad→gp 13 tm'=iv .i64 i→gp 6 tm'=iv .i64 i→gp 15 tm'=F→gp 16 tm'=iv .i64 (zb F)→gp 17 tm'=iv .i64 ((j:Int)+1)→gp 8 tm'=.ptr b 0 0 →
    nd' []=some (r0,m0)→(Bld (1+qv (zi s l) i+(j+1)) s s2 nd' rw'∧Pfx (zi s l) (zb l) nd')→ji (zi s l) i nd' rw'→nd' ((zi s l i).take j++[z])=some (b,m')→(∀ w,w <+: (zi s l i).take j→nd' w≠none)→zoO l s i r0 (r.code ze4 zh5 tm' s2):=by
   intro tm' s2 nd' rw' b m' a0 a1 a2 a3 a4 a5 a6 a7 a8 a9 a10 a11 b1 b2 b3 b4 b5
   refine IH tm' s2 (zKI h16 h17 a9 a10 hlt) ⟨i,nd',rw',r0,m0,b,m',hi,⟨a0,a1,a2,a3,a4,a5⟩,b1,a6,a7,b2.2,b3,?_,?_,j+1,by rw [hFd];exact hlt,b2.1,a10,a11,by rw [htk];exact b4,fun w hw=>?_⟩ i r0 hi a6 a2
   ·rw [hFd];exact a8
   ·rw [hFd];exact a9
   ·rw [htk] at hw
    rcases zlB hw with hw | rfl
    ·exact b5 w hw
    ·rw [b4];simp
  cases hch:nd ((zi s l i).take j++[z]) with
  | some q =>
   obtain ⟨b,m'⟩:=q
   have e4:=fun c=>d4 z c b m' hch
   simp [zjy,zfb,h8,h15,h16,h17,hw,hp,hPt,d1,e4,jr,hlt]
   refine next _ s' nd rw b m' ?_ ?_ ?_ ?_ ?_ ?_ ?_ ?_ ?_ ?_ ?_ ?_ hroot ⟨hB.mono (by omega),hP⟩ hR hch hpre
   all_goals simp [h0,h4,h5,h11,h12,h13,h6,h15,h16,h240]
  | none =>
   have e3:=fun c=>d3 z c hch
   obtain ⟨c,hc,hcN,-⟩:=hB.cnt
   obtain ⟨v,s1,he,hpost⟩:=hC [.ptr s.nx 0 0] s' ⟨s.nx,c,rfl,hc,hB.lt⟩
   obtain ⟨rfl,rfl⟩:=hpost _ _ rfl hc
   have hcw:IntKind.i64.wrap ((c:Int)+1)=(c:Int)+1:=by
    have h1:=zmY (F:=zi s l) i (fun k hk=>(hok.2.2 k (by omega)).2.1)
    have h2:=hok.2.1
    have h3:=(hok.2.2 i hi).2.1
    have h4:(zi s l i).length=zb F:=by rw [hFe,zA]
    exact z9 (by omega) (by omega)
   generalize hc':IntKind.i64.wrap ((c:Int)+1)=c' at *
   change r.call _ _ _=.ret _ (jN s' s.nx c') at he
   obtain ⟨es,ck,hm1,hk1,hrow1,hins⟩:=hB.insert hnode hch hc hcw
   have hrow0:=(hB.tree.node _ _ _ hnode).1
   obtain ⟨id,hrow0⟩:=hrow0
   have hl1:∀ k:V→S→A,zd false 1 (.ptr a 0 0) (jN s' s.nx c') k=k (.ref 0 m) (jN s' s.nx c'):=fun k=>by
    have:=zw (hrow1.trans hrow0) 0 rfl (by omega) (by simp) k
    simpa using this
   obtain ⟨es',ck',hu1,hu2,hu3⟩:=zKB hm1 hk1 z (.ptr s'.nx.succ 0 0)
   have hB2:=hins es' ck' hu2 hu3
   generalize hs2:qj (jN s' s.nx c') m (.map es' ck')=s2 at hB2 hu1
   have hne:(zi s l i).take j≠(zi s l i).take j++[z]:=fun e=>by have:=congrArg List.length e;simp at this
   obtain ⟨f1,f2,f3,f4⟩:=hB2.tree.node.read (w:=(zi s l i).take j) (a:=a) (m:=m) (by show (if _ then _ else _)=_;rw [if_neg hne];exact hnode)
   have e4:=fun c=>f4 z c s'.nx.succ s'.nx (if_pos rfl)
   simp [zjy,zfb,h4,h8,h15,h16,h17,hw,hp,hPt,d1,e3,zbN,he,hl1,zDR,hu1,f1,e4,hlt]
   refine next _ s2 _ _ s'.nx.succ s'.nx ?_ ?_ ?_ ?_ ?_ ?_ ?_ ?_ ?_ ?_ ?_ ?_ ?_ ⟨hB2,fun w hw=>?_⟩ (hR.insert hch) (if_pos rfl) fun w hw=>?_
   all_goals first | (show (if _ then _ else _)=_;rw [if_neg (by simp)];exact hroot) | skip
   all_goals first | (simp [h0,h4,h5,h11,h12,h13,h6,h15,h16,h240];done) | skip
   ·by_cases e:w=(zi s l i).take j++[z]
    ·rw [e,←htk];exact ⟨i,hi,List.take_prefix _ _⟩
    ·simp only [if_neg e] at hw;exact hP w hw
   show (if w=(zi s l i).take j++[z] then _ else nd w)≠none
   split
   ·simp
   ·exact hpre w hw
 ·obtain rfl:j=zb F:=by omega
  simp [zjy,zfb,h16,h17]
  have hfull:(zi s l i).take (zb F)=zi s l i:=List.take_of_length_le (by rw [hFe,zA];exact kab _)
  rw [hfull] at hnode hpre
  exact ⟨_,_,nd,rw,m0,a,m,rfl,⟨by simp [h0],by simp [h4],by simp [h5],by simp [h11],by simp [h12],by simp [h240]⟩,hroot,by simp [h13],by simp [h6],⟨hB.mono (by show 1+qv _ i+zb F≤1+(qv _ i+(zi s l i).length);rw [hFe,zA];omega),hP⟩,hR,by simp [h8],hnode,hpre⟩
theorem zIs {l:V} (hl:Tab s l) (hok:qx s l):∀ tm s',(zbe l s 86).pre tm s'→(zbe l s 86).post tm s' (zdZ.run (Rk Tryz.prog K (zbe l s)) tm s'):=by
 refine zeI (L:=zbe l s) yH.1 yH.2 zI8 (fun tm _=>zb l - (toI (gp 13 tm)).toNat) (fun tm s' a h1 (h2:zfr _ _ _)=>h2.nb) ?_
 rintro tm s' ⟨i,nd,rw,r0,m0,hi,⟨h0,h4,h5,h11,h12,h240⟩,hroot,h13,⟨hB,hP⟩,hR⟩ IH
 show zfr l s (zdZ.run _ tm s')
 have hIn:=zIA hl hok
 generalize Rk Tryz.prog _ _=r at IH hIn ⊢
 by_cases hlt:i<zb l
 ·have hw:=zlm hlt hl.2.1.1
  have hv':=hl.ext hB.ext
  obtain ⟨p,q0,q1,hp,-,-,-,-,hL⟩:=hv'.1.fields hlt
  have hx:=hv'.1.2.2 i hlt
  have hx0:=hl.2.2 i hlt
  rw [hv'.2.1,hv'.2.1] at hL hx
  generalize hFd:zt s l (i*2)=F at hL hx hx0
  generalize zt s l (i*2+1)=T at hL hx hx0
  have hEn:Ext s' (zN s' (.row [F,T] 2 49 false 0 0 0)):=zO _ _
  have hst:=qX s' 49 2 [V.nil 1,V.nil 1] [F,T] rfl rfl
  have hD:=zFE s' 49 F T hx.1.ne hx.2.ne
  have hB1:=hB.later hEn hB.lt
  generalize hs1:zN s' (.row [F,T] 2 49 false 0 0 0)=s1 at hEn hst hD hB1
  obtain ⟨c0,c1,hc0,hc1,hcl⟩:=hD
  have hl1:=(hcl s1 (Ext.refl _)).1
  have hI1:=(hx0.1.ext hB1.ext).1
  simp [zup,zfb,h5,h11,h12,h13,hp,hL,zo,hst,hc0,hl1,hI1.1.len,hlt]
  generalize hA:zev.run r _ s1=a
  have:=(hA▸hIn _ _ ⟨i,nd,rw,r0,m0,r0,m0,hlt,⟨by simp [h0],by simp [h4],by simp [h5],by simp [h11],by simp [h12],by simp [h240]⟩,hroot,by simp [h13],by simp,hP,hR,by simp;exact hFd.symm,by simp;rw [hFd],0,by omega,hB1,by simp,by simp,hroot,
   fun w hw=>by have:w=[]:=List.eq_nil_of_prefix_nil (by simpa using hw);rw [this,hroot];simp⟩) i r0 hlt (by simp [h13]) (by simp [h5])
  obtain ⟨tm',s2,nd2,rw2,m2,b,mb,rfl,⟨k0,k4,k5,k11,k12,k240⟩,hroot2,k13,k6,⟨hB2,hP2⟩,hR2,k8,hnode,hpre⟩:=this
  obtain ⟨id,hrow,hB3⟩:=hB2.mark hnode (i:Int)
  have hst2:=fun (k:V→S→A)=>zan hrow 1 (iv .i64 (i:Int)) (zaU _ _) (by omega) k
  simp only [upd,put] at hst2
  simp [yC,k8,k6,k13,hst2,hw]
  exact IH _ _ (zGw h13 (by simp) hlt) ⟨i+1,nd2,_,r0,m2,hlt,⟨by simp [k0],by simp [k4],by simp [k5],by simp [k11],by simp [k12],by simp [k240]⟩,hroot2,by simp,⟨hB3,hP2⟩,hR2.mark hpre ((hok.2.2 i hlt).2.2.2.2.2)⟩
 ·obtain rfl:i=zb l:=by omega
  simp [zup,zfb,h12,h13]
  exact ⟨_,_,nd,rw,r0,m0,rfl,by simp [h240],by simp [h5],hroot,⟨hB,hP⟩,hR⟩
theorem zIZ (s:S) (b c:B):qj (zN s b) s.nx c=zN s c:=by
 show (⟨Tr.set B.none c s.nx (Tr.set B.none b s.nx s.h),s.nx.succ⟩:S)=⟨Tr.set B.none c s.nx s.h,s.nx.succ⟩
 rw [zzs]
theorem zGy:zL Tryz.prog K 34:=by
 rintro a s ⟨l,rfl,hl,hok⟩
 have hL:=zIs hl hok
 have hC:=zQ (L:=zbe l s) zD8
 suffices h:∃ s' nd rw a m,(fnC pc0 34).run (Rk Tryz.prog K (zbe l s)) [l] s=.ret (.ptr a 0 0) s'∧nd []=some (a,m)∧(Bld (1+qv (zi s l) (zb l)) s s' nd rw∧Pfx (zi s l) (zb l) nd)∧ji (zi s l) (zb l) nd rw by
  obtain ⟨s',nd,rw,a,m,h1,h2,⟨h3,hP⟩,h4⟩:=h
  obtain ⟨c,-,hcN,idf,hid⟩:=h3.cnt
  refine ⟨_,s',zmS h1,fun l' e=>?_⟩
  cases e
  refine ⟨h3.ext,nd,rw,a,m,rfl,h2,⟨h3.tree.node,fun w a m hw=>?_,h3.tree.inj,h3.tree.root,h3.tree.closed⟩,h4,hP,c,idf,hcN,hid⟩
  have:=h3.tree.rng w a m hw
  have hb:=zia s
  omega
 generalize Rk Tryz.prog _ _=r at hL hC ⊢
 generalize hs1:zN s (.row [iv .i64 0] 1 3 false 0 0 0)=s1
 have hg:Tr.get B.none s.nx s1.h=.row [iv .i64 0] 1 3 false 0 0 0:=hs1▸zx _ _
 have hn1:s1.nx.toNat=s.nx.toNat+1:=hs1▸zia s
 have hE1:Ext s s1:=hs1▸zO _ _
 have hst:=fun (k:V→S→A)=>zan hg 0 (iv .i64 0) (zaU _ _) (by omega) k
 simp only [upd,put] at hst
 have jP:qj s1 s.nx (.row [iv .i64 0] 1 3 false 0 0 0)=s1:=by rw [←hs1,zIZ]
 rw [jP] at hst
 obtain ⟨v,s2,he,hpost⟩:=hC [.ptr s.nx 0 0] s1 ⟨s.nx,0,rfl,hg,by omega⟩
 obtain ⟨rfl,rfl⟩:=hpost _ _ rfl hg
 have hcw:IntKind.i64.wrap ((0:Int)+1)=1:=by rw [z9 (by omega) (by omega)];rfl
 rw [hcw] at he
 obtain ⟨c',hc'⟩:∃ c':Int,c'=1:=⟨_,rfl⟩
 change r.call _ _ _=.ret _ (jN s1 s.nx 1) at he
 rw [←hc'] at he
 have hgn:=zEJ s1 s.nx c'
 have hsn:s1.nx.succ.toNat=s1.nx.toNat+1:=K.toNat_succ _
 have hB:Bld 1 s (jN s1 s.nx c') (fun w=>if w=[] then some (s1.nx.succ,s1.nx) else none) (fun _=>-1):=by
  refine ⟨⟨by omega,fun x hx=>?_⟩,⟨1,?_,by omega,fun _=>1,⟨fun w a m hw=>?_,fun w w' h1 h2 _=>?_⟩,rfl⟩,⟨fun w a m hw=>?_,fun w a m hw=>?_,fun w w' p p' h1 h2 _=>?_,by simp,fun w z hw=>?_⟩⟩
  ·rw [zaV (by omega),if_neg (zLS hx)];exact hE1.get x hx
  ·rw [zaV (by omega),if_pos rfl,hc'];rfl
  ·by_cases e:w=[]
   ·subst e
    simp only [if_true] at hw
    cases hw
    exact ⟨kab 1,kab 1,iv .i64 (-1),by rw [zfi,hc'];rfl⟩
   ·simp only [if_neg e] at hw;cases hw
  ·by_cases e:w=[]
   ·by_cases e':w'=[]
    ·rw [e,e']
    ·simp only [if_neg e'] at h2;exact absurd rfl h2
   ·simp only [if_neg e] at h1;exact absurd rfl h1
  ·by_cases e:w=[]
   ·subst e
    simp only [if_true] at hw
    cases hw
    exact ⟨⟨c',zfi _ _ _⟩,[],0,zx0 _ _ _,fun e he=>(by cases he),fun z=>by simp [zcd]⟩
   ·simp only [if_neg e] at hw;cases hw
  ·by_cases e:w=[]
   ·simp only [if_pos e] at hw
    cases hw
    have hb:=zia s
    omega
   ·simp only [if_neg e] at hw;cases hw
  ·by_cases e:w=[]
   ·by_cases e':w'=[]
    ·rw [e,e']
    ·simp only [if_neg e'] at h2;cases h2
   ·simp only [if_neg e] at h1;cases h1
  ·simp at hw
 have hR:ji (zi s l) 0 (fun w=>if w=[] then some (s1.nx.succ,s1.nx) else none) (fun _=>-1):=⟨fun k hk=>by omega,fun w _=>⟨fun k hk=>by omega,fun _=>rfl⟩⟩
 have hP0:Pfx (zi s l) (zb l) (fun w=>if w=[] then some (s1.nx.succ,s1.nx) else none):=fun w hw=>by
  by_cases e:w=[]
  ·rw [e];exact ⟨0,hok.1,List.nil_prefix⟩
  ·simp only [if_neg e] at hw;exact absurd rfl hw
 generalize jN s1 s.nx c'=s2 at he hB
 simp [zfb,zo,hs1,hst,he,hl.1.len]
 generalize hA:zdZ.run r _ s2=a
 have:=hA▸hL _ _ ⟨0,_,_,s1.nx.succ,s1.nx,by omega,⟨by simp,by simp,by simp,by simp,by simp,by simp⟩,if_pos rfl,by simp,⟨hB,hP0⟩,hR⟩
 obtain ⟨tm',s3,nd,rw,r0,m0,rfl,k1,k2,k3,k4,k5⟩:=(this:zfr _ _ _)
 exact ⟨s3,nd,rw,r0,by simp [yC,k1,k2],⟨m0,k3⟩,k4,k5⟩
theorem TreeOK.later {b:S} {nd:List Int→Option (Go.Ev.K × Go.Ev.K)} {rw:List Int→Int} (h:TreeOK b s nd rw) (e:Ext s s'):zE2 s' nd rw:=fun w a m hw=>by
 obtain ⟨_,g2,_,g4⟩:=h.rng w a m hw
 obtain ⟨⟨id,h1⟩,es,ck,h2,h3⟩:=h.node w a m hw
 exact ⟨⟨id,(e.get a g2).trans h1⟩,es,ck,(e.get m g4).trans h2,h3⟩
def WI (F:Nat→List Int) (n:Nat) (x:List Int) (at_ d:Nat) (row en:Int):Prop :=
 (row=-1∧en=at_+1∧∀ k,k<n→F k <+: x→d<(F k).length)∨∃ j:Nat,j<n∧row=j∧F j <+: x∧(F j).length≤d∧en=((at_+(F j).length:Nat):Int)∧∀ k,k<n→F k <+: x→(F k).length≤d→(F k).length≤(F j).length
def WF (F:Nat→List Int) (n:Nat) (x:List Int) (at_:Nat) (row en:Int):Prop :=
 (row=-1∧en=at_+1∧∀ k,k<n→¬F k <+: x)∨∃ j:Nat,zzh F n x j∧row=j∧en=((at_+(F j).length:Nat):Int)
theorem WI.fin {F:Nat→List Int} {n:Nat} {x:List Int} {at_ d:Nat} {row en:Int} (h:WI F n x at_ d row en) (hd:∀ k,k<n→F k <+: x→(F k).length≤d):WF F n x at_ row en:=by
 rcases h with ⟨h1,h2,h3⟩ | ⟨j,h1,h2,h3,h4,h5,h6⟩
 ·exact .inl ⟨h1,h2,fun k hk hp=>by have:=h3 k hk hp;have:=hd k hk hp;omega⟩
 ·exact .inr ⟨j,⟨h1,h3,fun k hk hp=>h6 k hk hp (hd k hk hp)⟩,h2,h5⟩
def zK5 (l x:V) (r0:Go.Ev.K) (tm:T):Prop:=gp 0 tm=l∧gp 1 tm=x∧gp 6 tm=.ptr r0 0 0∧gp 240 tm=.bad
def zKg (l x:V) (s1:S) (r0:Go.Ev.K) (y:V) (at_:Nat) (s':S) (A0:A):Prop:=∃ tm' row en,A0=.ext 2 tm' s'∧zK5 l x r0 tm'∧gp 4 tm'=y∧gp 7 tm'=iv .i64 at_∧gp 8 tm'=iv .i64 row∧gp 9 tm'=iv .i64 en∧WF (zi s1 l) (zb l) ((word s1 x).drop at_) at_ row en
def zqu (l x:V) (s1:S) (A0:A):Prop:=∃ tm' s'',A0=.ext 0 tm' s''∧gp 240 tm'=.bad∧Ext s1 s''∧Gr s1 s'' (gp 4 tm')∧zb (gp 4 tm')≤4000∧ResP (zi s1 l) (toV s1 l) (zb l) (word s1 x) (word s'' (gp 4 tm'))
def jE (l x:V) (s1:S) (nd:List Int→Option (Go.Ev.K × Go.Ev.K)) (r0:Go.Ev.K):Nat→Lt
 | 55=>⟨fun tm s'=>∃ (at_ d:Nat) (a m:Go.Ev.K) (row en:Int),Ext s1 s'∧at_<zb x∧at_+d≤zb x∧zK5 l x r0 tm∧gp 7 tm=iv .i64 at_∧gp 11 tm=iv .i64 ((at_+d:Nat):Int)∧gp 10 tm=.ptr a 0 0∧nd (((word s1 x).drop at_).take d)=some (a,m) ∧
   gp 8 tm=iv .i64 row∧gp 9 tm=iv .i64 en∧WI (zi s1 l) (zb l) ((word s1 x).drop at_) at_ d row en,
  fun tm s' A0=>∀ at_:Nat,gp 7 tm=iv .i64 at_→zKg l x s1 r0 (gp 4 tm) at_ s' A0⟩
 | _=>⟨fun tm s'=>∃ at_:Nat,at_≤zb x∧Ext s1 s'∧zK5 l x r0 tm∧gp 7 tm=iv .i64 at_∧Gr s1 s' (gp 4 tm)∧zb (gp 4 tm)≤20*at_∧∀ r,ResP (zi s1 l) (toV s1 l) (zb l) ((word s1 x).drop at_) r→ResP (zi s1 l) (toV s1 l) (zb l) (word s1 x) (word s' (gp 4 tm)++r),
  fun _ _ A0=>zqu l x s1 A0⟩
theorem zKg.nb {l x:V} {s1:S} {r0:Go.Ev.K} {y:V} {at_:Nat} (h:zKg l x s1 r0 y at_ s' a):¬a.isBad:=by
 obtain ⟨_,_,_,rfl,_⟩:=h;exact fun h=>h
theorem zqu.nb {l x:V} {s1:S} (h:zqu l x s1 a):¬a.isBad:=by
 obtain ⟨_,_,rfl,_⟩:=h;exact fun h=>h
section
variable {l x:V} {s0 s1:S} {nd:List Int→Option (Go.Ev.K × Go.Ev.K)} {rw:List Int→Int} {r0 m0:Go.Ev.K}
theorem zF4 (_:Tab s1 l) (_:qx s1 l) (hx:zZ s1 x) (hT:TreeOK s0 s1 nd rw) (hR:ji (zi s1 l) (zb l) nd rw) :
  ∀ tm s',(jE l x s1 nd r0 55).pre tm s'→(jE l x s1 nd r0 55).post tm s' (zcf.run (Rk Tryz.prog K (jE l x s1 nd r0)) tm s'):=by
 refine zeI (L:=jE l x s1 nd r0) yH.1 yH.2 zE6 (fun tm _=>zb x - (toI (gp 11 tm)).toNat) (fun tm s' a h1 h2=>by obtain ⟨at_,_,_,_,_,_,_,_,_,_,h7,_⟩:=h1;exact (h2 at_ h7).nb) ?_
 rintro tm s' ⟨at_,d,a,m,row,en,hE,hat,hd,⟨h0,h1,h6,h240⟩,h7,h11,h10,hnode,h8,h9,hW⟩ IH at' h7'
 obtain rfl:at_=at':=zae (h7.symm.trans h7')
 show zKg l x s1 r0 (gp 4 tm) at_ s' (zcf.run _ tm s')
 generalize Rk Tryz.prog _ _=r at IH ⊢
 generalize h4:gp 4 tm=y at *
 have hlen:((word s1 x).drop at_).length=zb x - at_:=by simp
 by_cases hlt:at_+d<zb x
 ·have hw:=zlm hlt hx.2.1
  have hlti:((at_+d:Nat):Int)<zb x:=by omega
  obtain ⟨p,hp,hP⟩:=(hx.ext hE).1.at_ hlt
  rw [(hx.ext hE).2] at hP
  have hz:((word s1 x).drop at_)[d]?=some (qi s1 x (at_+d)):=by rw [List.getElem?_drop];exact yb hlt
  generalize qi s1 x (at_+d)=z at hP hz
  have htk:=zaY hz
  have hxl:=(hx.ext hE).1.1.len
  obtain ⟨d1,d2,d3,d4⟩:=(hT.later hE).read hnode
  cases hch:nd (((word s1 x).drop at_).take d++[z]) with
  | none =>
   have e3:=fun c=>d3 z c hch
   have hfin:WF (zi s1 l) (zb l) ((word s1 x).drop at_) at_ row en:=hW.fin fun k hk hp=>by
    rcases kaq d (zi s1 l k).length with g | g
    ·refine absurd hch (hR.1 k hk _ ?_)
     rw [←htk]
     rw [List.prefix_iff_eq_take.1 hp]
     rw [List.prefix_take_iff]
     exact ⟨List.take_prefix _ _,by rw [List.length_take];omega⟩
    ·exact g
   simp [zdD,jY,h1,h10,h11,hxl,hp,hP,d1,e3,zbN,hlti,-Int.natCast_add]
   exact ⟨_,row,en,rfl,⟨by simp [h0],by simp [h1],by simp [h6],by simp [h240]⟩,by simp [h4],by simp [h7],by simp [h8],by simp [h9],hfin⟩
  | some q =>
   obtain ⟨b,m'⟩:=q
   have e4:=fun c=>d4 z c b m' hch
   obtain ⟨f1,f2,f3,f4⟩:=(hT.later hE).read hch
   have hch':nd (((word s1 x).drop at_).take (d+1))=some (b,m'):=by rw [htk];exact hch
   have hrw:=hR.2 _ (by rw [hch];simp)
   rw [←htk] at hrw f2
   have next:∀ tm' row' en',zK5 l x r0 tm'→gp 4 tm'=y→gp 7 tm'=iv .i64 at_→gp 11 tm'=iv .i64 (((at_+d:Nat):Int)+1)→gp 10 tm'=.ptr b 0 0→gp 8 tm'=iv .i64 row'→gp 9 tm'=iv .i64 en'→WI (zi s1 l) (zb l) ((word s1 x).drop at_) at_ (d+1) row' en'→zKg l x s1 r0 y at_ s' (r.code wG ze6 tm' s'):=by
    intro tm' row' en' a0 a1 a2 a3 a4 a5 a6 a7
    have:=IH tm' s' (zGw h11 a3 hlt) ⟨at_,d+1,b,m',row',en',hE,hat,by omega,a0,a2,a3,a4,hch',a5,a6,a7⟩ at_ a2
    rwa [a1] at this
   by_cases hex:∃ k,k<zb l∧zi s1 l k=((word s1 x).drop at_).take (d+1)
   ·obtain ⟨k,hk,hke⟩:=hex
    have hrk:=hrw.1 k hk hke
    rw [hrk] at f2
    have hkl:(zi s1 l k).length=d+1:=by rw [hke,List.length_take];omega
    have hkp:zi s1 l k <+: (word s1 x).drop at_:=by rw [hke];exact List.take_prefix _ _
    have hge:(0:Int)≤(k:Int):=by omega
    simp [zdD,jY,h1,h10,h11,hxl,hw,hp,hP,d1,e4,f2,jr,hlti,hge,-Int.natCast_add]
    refine next _ k (((at_+d:Nat):Int)+1) ⟨?_,?_,?_,?_⟩ ?_ ?_ ?_ ?_ ?_ ?_ (.inr ⟨k,hk,rfl,hkp,by omega,by rw [hkl];omega,fun k' hk' hp' hl'=>by omega⟩)
    all_goals simp [h0,h1,h4,h6,h7,h240]
   ·have hrk:=hrw.2 fun k hk hke=>hex ⟨k,hk,hke⟩
    rw [hrk] at f2
    simp [zdD,jY,h1,h10,h11,hxl,hw,hp,hP,d1,e4,f2,jr,hlti,-Int.natCast_add]
    have hno:∀ k,k<zb l→zi s1 l k <+: (word s1 x).drop at_→(zi s1 l k).length≠d+1:=fun k hk hp e=>hex ⟨k,hk,by rw [List.prefix_iff_eq_take.1 hp,e]⟩
    refine next _ row en ⟨?_,?_,?_,?_⟩ ?_ ?_ ?_ ?_ ?_ ?_ ?_
    ·simp [h0]
    ·simp [h1]
    ·simp [h6]
    ·simp [h240]
    ·simp [h4]
    ·simp [h7]
    ·simp
    ·simp
    ·simp [h8]
    ·simp [h9]
    ·rcases hW with ⟨w1,w2,w3⟩ | ⟨j,w1,w2,w3,w4,w5,w6⟩
     ·exact .inl ⟨w1,w2,fun k hk hp=>by have:=w3 k hk hp;have:=hno k hk hp;omega⟩
     ·exact .inr ⟨j,w1,w2,w3,by omega,w5,fun k hk hp hl=>w6 k hk hp (by have:=hno k hk hp;omega)⟩
 ·have hlti:¬((at_+d:Nat):Int)<zb x:=by omega
  have hfin:WF (zi s1 l) (zb l) ((word s1 x).drop at_) at_ row en:=hW.fin fun k hk hp=>by have:=hp.length_le;omega
  simp [zdD,jY,h1,h11,(hx.ext hE).1.1.len,hlti,-Int.natCast_add]
  exact ⟨_,row,en,rfl,⟨by simp [h0],by simp [h1],by simp [h6],by simp [h240]⟩,by simp [h4],by simp [h7],by simp [h8],by simp [h9],hfin⟩
end
theorem WF.step {F T:Nat→List Int} {n:Nat} {x:List Int} {at_:Nat} {row en:Int} (h:WF F n x at_ row en):(row=-1∧wE F T n x 1 (x.take 1)∧en=at_+1)∨∃ j:Nat,j<n∧row=j∧wE F T n x (F j).length (T j)∧en=((at_+(F j).length:Nat):Int):=by
 rcases h with ⟨h1,h2,h3⟩ | ⟨j,h1,h2,h3⟩
 ·exact .inl ⟨h1,.inr ⟨h3,rfl,rfl⟩,h2⟩
 ·exact .inr ⟨j,h1.1,h2,.inl ⟨j,h1,rfl,rfl⟩,h3⟩
section
variable {l x:V} {s0 s1:S} {nd:List Int→Option (Go.Ev.K × Go.Ev.K)} {rw:List Int→Int} {r0 m0:Go.Ev.K}
theorem zFe (hl:Tab s1 l) (hok:qx s1 l) (hx:zZ s1 x) (hX:zb x≤200) (hT:TreeOK s0 s1 nd rw) (hR:ji (zi s1 l) (zb l) nd rw) (hroot:nd []=some (r0,m0)) :
  ∀ tm s',(jE l x s1 nd r0 110).pre tm s'→(jE l x s1 nd r0 110).post tm s' (zcN.run (Rk Tryz.prog K (jE l x s1 nd r0)) tm s'):=by
 refine zeI (L:=jE l x s1 nd r0) yH.1 yH.2 zFb (fun tm _=>zb x - (toI (gp 7 tm)).toNat) (fun tm s' a h1 (h2:zqu _ _ _ _)=>h2.nb) ?_
 rintro tm s' ⟨at_,hat,hE,⟨h0,h1,h6,h240⟩,h7,hG,hlen,hres⟩ IH
 show zqu l x s1 (zcN.run _ tm s')
 have hIn:=zF4 hl hok hx hT hR (r0:=r0)
 generalize Rk Tryz.prog _ _=r at IH hIn ⊢
 generalize h4:gp 4 tm=y at *
 have hxl:=(hx.ext hE).1.1.len
 by_cases hlt:at_<zb x
 ·have hlti:(at_:Int)<zb x:=by omega
  have hw:=zlm hlt hx.2.1
  have hne:(word s1 x).drop at_≠[]:=fun h=>by have:=congrArg List.length h;simp at this;omega
  simp [zqx,jY,h1,h6,h7,hxl,hw,zjz,hlt]
  generalize hA:zcf.run r _ s'=a
  have hin:=(hA▸hIn _ s' ⟨at_,0,r0,m0,-1,(at_:Int)+1,hE,hlt,by omega,⟨by simp [h0],by simp [h1],by simp [h6],by simp [h240]⟩,by simp [h7],by simp,by simp,hroot,by simp,by simp,
   .inl ⟨rfl,rfl,fun k hk hp=>by have:=(hok.2.2 k hk).1;omega⟩⟩) at_ (by simp [h7])
  have next:∀ tm' s2 (k:Nat) out,Ext s1 s2→zK5 l x r0 tm'→gp 7 tm'=iv .i64 ((at_+k:Nat):Int)→Gr s1 s2 (gp 4 tm')→wE (zi s1 l) (toV s1 l) (zb l) ((word s1 x).drop at_) k out→word s2 (gp 4 tm')=word s' y++out→zqu l x s1 (r.code wG zfk tm' s2):=by
   intro tm' s2 k out a0 a1 a2 a3 a4 a5
   obtain ⟨k1,k2,k3⟩:=zMc hok hne a4
   simp at k2
   refine IH tm' s2 ?_ ⟨at_+k,by omega,a0,a1,a2,a3,?_,fun z hz=>?_⟩
   ·rw [a2,h7,zn,zn];omega
   ·rw [zcp (s:=s2),a5,kah,zA];omega
   ·rw [a5,kat]
    exact hres _ (.step hne a4 (by rw [List.drop_drop];exact hz))
  obtain ⟨tm',row,en,rfl,⟨k0,k1,k6,k240⟩,k4,k7,k8,k9,hWF⟩:=hin
  simp [h4] at k4
  rcases hWF.step (T:=toV s1 l) with ⟨rfl,hSt,rfl⟩ | ⟨j,hj,rfl,hSt,rfl⟩
  ·obtain ⟨p,hp,hP⟩:=(hx.ext hE).1.at_ hlt
   rw [(hx.ext hE).2] at hP
   have htk:((word s1 x).drop at_).take 1=[qi s1 x at_]:=by
    have:=zaY (w:=(word s1 x).drop at_) (j:=0) (x:=qi s1 x at_) (by rw [List.getElem?_drop];exact yb hlt)
    simpa using this
   rw [htk] at hSt
   generalize qi s1 x at_=z at hP hSt
   have hEb:Ext s' (zN s' (.row [iv .i64 z] 1 3 false 0 0 0)):=zO _ _
   have hbox:zZ (zN s' (.row [iv .i64 z] 1 3 false 0 0 0)) (.sl s'.nx 0 0 1 1)∧word (zN s' (.row [iv .i64 z] 1 3 false 0 0 0)) (.sl s'.nx 0 0 1 1)=[z]:=by
    refine ⟨⟨.inr ⟨s'.nx,0,0,1,.inl ⟨1,rfl,by omega⟩,by show s'.nx.toNat<s'.nx.succ.toNat;rw [K.toNat_succ];omega,_,_,_,_,_,_,_,zx _ _,rfl,qG.2 (.inr ⟨rfl,by omega⟩)⟩,by simp [zb],fun j hj=>?_⟩,?_⟩
    ·have:j=0:=by simpa [zb] using hj
     subst this
     simp [zt,zx,yz,zn]
    ·simp [word,zb,qi,zt,zx,yz,zn]
   generalize hs2:zN s' (.row [iv .i64 z] 1 3 false 0 0 0)=s2 at hEb hbox
   obtain ⟨y',s3,ha,hE3,hG3,hw3,-⟩:=(hG.ext hEb).app (hE.trans hEb) hbox.1 (by simp [zb] at hlen ⊢;omega)
   have hyw:word s2 y=word s' y:=by
    have hyI:zZ s' y:=hG.ints (by omega)
    exact hyI.word hEb
   rw [hyw,hbox.2] at hw3
   simp [yC,k1,k4,k7,k8,k9,hp,hP,rep,upd,put,zo,hs2,ha]
   exact next _ s3 1 [z] hE3 ⟨by simp [k0],by simp [k1],by simp [k6],by simp [k240]⟩ (by simp ) (by simp;exact hG3) hSt (by simp;exact hw3)
  ·have hl':=hl.ext hE
   obtain ⟨p,q0,q1,hp,-,hq1,-,hL1,-⟩:=hl'.1.fields hj
   rw [hl'.2.1] at hL1
   have hTI:=((hl.2.2 j hj).2.ext hE).1
   have hTw:word s' (zt s1 l (j*2+1))=toV s1 l j:=(hl.2.2 j hj).2.word hE
   have hT20:=(hok.2.2 j hj).2.2.1
   have hTl:zb (zt s1 l (j*2+1))≤20:=by rw [zcp (s:=s'),hTw];exact hT20
   obtain ⟨y',s3,ha,hE3,hG3,hw3,-⟩:=hG.app hE hTI (by omega)
   rw [hTw] at hw3
   have hge:(0:Int)≤(j:Int):=by omega
   simp [yC,k0,k4,k8,k9,hge,hp,hq1,hL1,ha,-Int.natCast_add]
   exact next _ s3 _ _ hE3 ⟨by simp [k0],by simp [k1],by simp [k6],by simp [k240]⟩ (by simp ) (by simp;exact hG3) hSt (by simp;exact hw3)
 ·have h00:at_=zb x:=by omega
  have hnil:(word s1 x).drop at_=[]:=List.drop_of_length_le (by simp;omega)
  simp [zqx,jY,h1,h7,hxl,hlt]
  refine ⟨_,_,rfl,by simp [h240],hE,by simp [h4];exact hG,by simp [h4];omega,?_⟩
  have:=hres [] (by rw [hnil];exact .nil)
  simp [h4]
  simpa using this
end
theorem zJG:zL Tryz.prog K 17:=by
 rintro a s ⟨l,x,rfl,hl,hx,hf⟩
 suffices h:∃ y e s',qO Tryz.prog 17 [l,x] s (.ls 1 [y,iv .i64 e]) s'∧Ext s s'∧zZ s' y∧ApP (zi s l) (toV s l) (zb l) (word s x) (word s' y) e by
  obtain ⟨y,e,s',h1,h2,h3,h4⟩:=h
  exact ⟨_,s',h1,fun l' x' e=>by cases e;exact ⟨h2,y,_,rfl,h3,h4⟩⟩
 have hnil:∀ t:S,zZ t (.nil 1):=fun t=>⟨.inl (.inl rfl),by simp [zb],fun j hj=>by cases hj⟩
 have hnw:∀ t:S,word t (.nil 1)=[]:=fun t=>rfl
 have hV:=zQ (L:=noL) zoR
 have hS:=zQ (L:=noL) zgI
 have hTr:=zQ (L:=noL) zGy
 obtain ⟨w,s1,e1,hp⟩:=hV [l] s ⟨l,rfl,hl⟩
 obtain ⟨hE1,rfl⟩:=hp _ rfl
 by_cases g1:qx s l
 case neg =>
  simp only [g1,decide_false] at e1
  refine ⟨.nil 1,1,s1,zmS (L:=noL) ?_,hE1,hnil _,.inl ⟨fun h=>g1 h.1,rfl,hnw _⟩⟩
  generalize Rk Tryz.prog _ _=r at e1 ⊢
  simp [jY,e1]
 simp only [g1,decide_true] at e1
 have hx1:=hx.ext hE1
 by_cases g2:200<zb x
 ·have g2':(200:Int)<zb x:=by omega
  refine ⟨.nil 1,1,s1,zmS (L:=noL) ?_,hE1,hnil _,.inl ⟨fun h=>by have:=h.2.1;rw [zA] at this;omega,rfl,hnw _⟩⟩
  generalize Rk Tryz.prog _ _=r at e1 ⊢
  simp [jY,e1,hx.1.len,g2']
 have g2':¬(200:Int)<zb x:=by omega
 obtain ⟨w,s2,e2,hp⟩:=hS [x,iv .i64 500] s1 ⟨x,500,rfl,hx1.1⟩
 obtain ⟨hE2,rfl⟩:=hp _ _ rfl
 rw [hx.word hE1] at e2
 by_cases g3:jl 500 (word s x)
 case neg =>
  simp only [g3,decide_false] at e2
  refine ⟨.nil 1,1,s2,zmS (L:=noL) ?_,hE1.trans hE2,hnil _,.inl ⟨fun h=>g3 h.2.2,rfl,hnw _⟩⟩
  generalize Rk Tryz.prog _ _=r at e1 e2 ⊢
  simp [jY,e1,e2,hx.1.len,g2']
 simp only [g3,decide_true] at e2
 have hE12:=hE1.trans hE2
 have hl2:=hl.ext hE12
 have g12:qx s2 l:=(ya hl2.2.2.1 hl2.2.2.2).2 g1
 obtain ⟨w,s3,e3,hp⟩:=hTr [l] s2 ⟨l,rfl,hl2.1,g12⟩
 obtain ⟨hE3,nd,rw,r0,m0,rfl,hroot,hT,hR,-⟩:=hp _ rfl
 have hE13:=hE12.trans hE3
 have hl3:=hl.ext hE13
 have hl23:=hl2.1.ext hE3
 have hx3:=hx.ext hE13
 have g13:qx s3 l:=(ya hl3.2.2.1 hl3.2.2.2).2 g1
 have hR3:ji (zi s3 l) (zb l) nd rw:=by
  refine ⟨fun k hk w hw=>hR.1 k hk w (by rwa [hl23.2.2.1 k hk] at hw),fun w hw=>⟨fun k hk e=>(hR.2 w hw).1 k hk (by rwa [hl23.2.2.1 k hk] at e),fun hh=>(hR.2 w hw).2 fun k hk e=>hh k hk (by rw [hl23.2.2.1 k hk];exact e)⟩⟩
 have hL:=zFe hl3.1 g13 hx3.1 (by omega) hT hR3 hroot
 have e1':(Rk Tryz.prog K (jE l x s3 nd r0)).call 22 [l] s=.ret (.bool true) s1:=e1
 have e2':(Rk Tryz.prog K (jE l x s3 nd r0)).call 27 [x,iv .i64 500] s1=.ret (.bool true) s2:=e2
 have e3':(Rk Tryz.prog K (jE l x s3 nd r0)).call 34 [l] s2=.ret (.ptr r0 0 0) s3:=e3
 suffices h:∃ y e s',(fnC pc0 17).run (Rk Tryz.prog K (jE l x s3 nd r0)) [l,x] s=.ret (.ls 1 [y,iv .i64 e]) s'∧Ext s s'∧zZ s' y∧ApP (zi s l) (toV s l) (zb l) (word s x) (word s' y) e by
  obtain ⟨y,e,s',h1,h2⟩:=h
  exact ⟨y,e,s',zmS h1,h2⟩
 generalize Rk Tryz.prog K (jE l x s3 nd r0)=r at hL e1' e2' e3' ⊢
 simp [jY,e1',e2',e3',hx.1.len,g2']
 generalize hA:zcN.run r _ s3=a
 have:=hA▸hL _ s3 ⟨0,by omega,Ext.refl _,⟨by simp,by simp,by simp,by simp⟩,by simp,by simp;exact .inl (.inl rfl),by simp [zb],fun z hz=>by simpa [word,zb] using hz⟩
 obtain ⟨tm',s4,rfl,k1,k2,k3,k4,k5⟩:=(this:zqu _ _ _ _)
 have hres:=zi9 hl3.2.2.1 hl3.2.2.2 k5
 rw [hx.word hE13] at hres
 have hok:qJ (zb l) (zi s l) (toV s l)∧zy2 (word s x):=⟨g1,by rw [zA];omega,g3⟩
 have hyI:zZ s4 (gp 4 tm'):=k3.ints (by omega)
 generalize hy:gp 4 tm'=y at *
 by_cases g4:200<zb y
 ·have g4':(200:Int)<zb y:=by omega
  exact ⟨.nil 1,2,s4,by simp [yC,k1,hy,hyI.1.len,g4'],hE13.trans k2,hnil _,.inr ⟨hok,_,hres,.inr ⟨by rw [zA];omega,rfl,hnw _⟩⟩⟩
 ·have g4':¬(200:Int)<zb y:=by omega
  exact ⟨y,0,s4,by simp [yC,k1,hy,hyI.1.len,g4'],hE13.trans k2,hyI,.inr ⟨hok,_,hres,.inl ⟨by rw [zA];omega,rfl,rfl⟩⟩⟩
section
variable (F T:Nat→List Int) (n:Nat)
def zzL (p:List Int):Prop:=∃ i,i<n∧p <+: F i
def zcz (p:List Int):Prop:=∃ i,i<n∧p=F i
def Tok (A:Int→Prop) (i o:List Int):Prop:=(∃ j,j<n∧i=F j∧o=T j)∨(∃ s,A s∧i=[s]∧o=[s]∧¬zcz F n [s])
abbrev RS:=List Int→Prop
def zoh (R:RS) (w:List Int):Prop:=∀ r,R r→∀ v,v≠[]→v <+: w→¬zcz F n (r++v)
def zxT (R:RS) (w:List Int):RS:=fun p=>(∃ r,R r∧p=r++w∧zzL F n p)∨(p=w∧zzL F n w)
inductive TP (A:Int→Prop):RS→List Int→List Int→RS→Prop
 | nil (R:RS):TP A R [] [] R
 | cons {R R':RS} {i o x y:List Int}:Tok F T n A i o→zoh F n R i→TP A (zxT F n R i) x y R'→TP A R (i++x) (o++y) R'
end
section
variable {F T:Nat→List Int} {n:Nat} {A:Int→Prop}
theorem zcz.node {p q:List Int} (h:zcz F n p) (g:q <+: p):zzL F n q:=by
 obtain ⟨i,hi,rfl⟩:=h
 exact ⟨i,hi,g⟩
theorem zjL {v i x:List Int} (h:v <+: i++x):v <+: i∨∃ w,w≠[]∧v=i++w∧w <+: x:=by
 by_cases g:v.length≤i.length
 ·exact .inl (List.prefix_of_prefix_length_le h (List.prefix_append i x) g)
 ·obtain ⟨w,rfl⟩:=List.prefix_of_prefix_length_le (List.prefix_append i x) h (by omega)
  refine .inr ⟨w,fun e=>g (by rw [e];simp),rfl,?_⟩
  exact (List.prefix_append_right_inj i).1 h
variable {y:List Int} {R':RS}
theorem TP.clear {R:RS} {x:List Int} (h:TP F T n A R x y R'):∀ r,R r→∀ v,v≠[]→v <+: x→¬zcz F n (r++v):=by
 induction h with
 | nil R=>intro r _ v hv hp;exact absurd (List.prefix_nil.1 hp) hv
 | cons ht ha _ ih =>
  intro r hr v hv hp hrow
  rcases zjL hp with h | ⟨w,hw,rfl,hx⟩
  ·exact ha r hr v hv h hrow
  ·refine ih _ (.inl ⟨r,hr,rfl,hrow.node ?_⟩) w hw hx (by rw [kat];exact hrow)
   rw [←kat];exact List.prefix_append _ _
theorem TP.res (hF:∀ i,i<n→F i≠[]) {R:RS} {x:List Int} (h:TP F T n A R x y R'):ResP F T n x y:=by
 induction h with
 | nil R=>exact .nil
 | @cons R R' i o x y ht ha hr ih =>
  have hcl:=hr.clear
  rcases ht with ⟨j,hj,rfl,rfl⟩ | ⟨s,hs,rfl,rfl,hn⟩
  ·have:=ResP.step (F:=F) (T:=T) (n:=n) (x:=F j++x) (y:=y) (out:=T j) (k:=(F j).length) (fun e=>hF j hj (List.append_eq_nil_iff.1 e).1) (.inl ⟨j,⟨hj,List.prefix_append _ _,fun k hk hp=>?_⟩,rfl,rfl⟩) (by rw [List.drop_left];exact ih)
   ·exact this
   ·rcases zjL hp with h | ⟨w,hw,e,hx⟩
    ·exact h.length_le
    ·exact absurd ⟨k,hk,e.symm⟩ (hcl (F j) (.inr ⟨rfl,j,hj,List.prefix_refl _⟩) w hw hx)
  ·refine ResP.step (F:=F) (T:=T) (n:=n) (x:=[s]++x) (y:=y) (out:=[s]) (k:=1) (fun e=>by cases e) (.inr ⟨fun j hj hp=>?_,rfl,rfl⟩) ih
   rcases zjL hp with h | ⟨w,hw,e,hx⟩
   ·have hl:=h.length_le
    have:F j=[s]:=by
     rcases hh:F j with _ | ⟨a,t⟩
     ·exact absurd hh (hF j hj)
     ·rw [hh] at h hl
      have:t=[]:=by cases t with | nil=>rfl | cons b t=>simp at hl
      subst this
      have:=List.prefix_iff_eq_take.1 h
      simpa using this
    exact hn ⟨j,hj,this.symm⟩
   ·exact hcl [s] (.inr ⟨rfl,j,hj,by rw [e];exact List.prefix_append _ _⟩) w hw hx ⟨j,hj,e.symm⟩
theorem zN3 {x:List Int} (h:ResP F T n x y) (hA:∀ s∈x,A s):∀ R:RS,(∀ r,R r→∀ v,v≠[]→v <+: x→¬zcz F n (r++v))→∃ R',TP F T n A R x y R':=by
 induction h with
 | nil=>exact fun R _=>⟨R,.nil R⟩
 | @step x y out k hx hs hr ih =>
  intro R hR
  obtain ⟨i,hi⟩:∃ i,i=x.take k:=⟨_,rfl⟩
  have hix:x=i++x.drop k:=by rw [hi,List.take_append_drop]
  have hpi:i <+: x:=by rw [hi];exact List.take_prefix _ _
  have ht:Tok F T n A i out∧∀ w,w≠[]→w <+: x.drop k→¬zcz F n (i++w):=by
   rcases hs with ⟨j,⟨hj,hp,hb⟩,rfl,rfl⟩ | ⟨hn,rfl,rfl⟩
   ·have hij:i=F j:=by rw [hi];exact (List.prefix_iff_eq_take.1 hp).symm
    refine ⟨.inl ⟨j,hj,hij,rfl⟩,fun w hw hwx hrow=>?_⟩
    obtain ⟨k,hk,e⟩:=hrow
    have h1:F k <+: x:=by
     rw [←e,hix]
     exact (List.prefix_append_right_inj i).2 hwx
    have h2:=hb k hk h1
    rw [←e,hij,kah] at h2
    have:=List.length_pos_iff.2 hw
    omega
   ·rcases x with _ | ⟨s,t⟩
    ·exact absurd rfl hx
    ·have hi':i=[s]:=by rw [hi];rfl
     refine ⟨.inr ⟨s,hA s (by simp),hi',rfl,fun ⟨j,hj,e⟩=>hn j hj (by rw [←e];exact ⟨t,rfl⟩)⟩,fun w hw hwx hrow=>?_⟩
     obtain ⟨j,hj,e⟩:=hrow
     refine hn j hj ?_
     rw [←e,hi']
     exact (List.prefix_append_right_inj [s]).2 hwx
  obtain ⟨R',hR'⟩:=ih (fun s hs=>hA s (List.mem_of_mem_drop hs)) (zxT F n R i) (fun p hp v hv hvx hrow=>by
   rcases hp with ⟨r,hr',rfl,-⟩ | ⟨rfl,-⟩
   ·refine hR r hr' (i++v) (fun e=>hv (List.append_eq_nil_iff.1 e).2) ?_ (by rw [←kat];exact hrow)
    rw [hix]
    exact (List.prefix_append_right_inj i).2 hvx
   ·exact ht.2 v hv hvx hrow)
  refine ⟨R',?_⟩
  rw [hix]
  exact .cons ht.1 (fun r hr' v hv hvi=>hR r hr' v hv (hvi.trans hpi)) hR'
end
abbrev Stp:=List Int × Int × Nat
structure Gph where
 steps:Nat→List Stp
 full:Nat→Bool
 runs:Nat→RS
inductive Path (g:Gph):Nat→List Int→List Int→Nat→Prop
 | nil (q:Nat):Path g q [] [] q
 | cons {q q':Nat} {e:Stp} {x y:List Int}:e∈g.steps q→Path g e.2.2 x y q'→Path g q (e.1++x) (e.2.1::y) q'
inductive Chain (g:Gph):Nat→List Int→Nat→Prop
 | nil {q:Nat}:g.full q=true→Chain g q [] q
 | cons {t t' q:Nat} {s:Int} {w:List Int}:g.full t=false→g.steps t=[([],s,t')]→Chain g t' w q→Chain g t (s::w) q
def zEu (F:Nat→List Int) (n:Nat) (g:Gph) (q:Nat) (e:Stp) (i o:List Int):Prop:=∃ rest q',e.1=i∧o=e.2.1::rest∧Chain g e.2.2 rest q'∧g.runs q'=zxT F n (g.runs q) i
structure GOk (F T:Nat→List Int) (n:Nat) (A:Int→Prop) (g:Gph):Prop where
 start:g.full 0=true∧g.runs 0=fun _=>False
 sound:∀ q,g.full q=true→∀ e∈g.steps q,∃ i o,Tok F T n A i o∧zoh F n (g.runs q) i∧zEu F n g q e i o
 complete:∀ q,g.full q=true→∀ i o,Tok F T n A i o→zoh F n (g.runs q) i→∃ e∈g.steps q,zEu F n g q e i o
section
variable {F T:Nat→List Int} {n:Nat} {A:Int→Prop} {g:Gph}
variable {w:List Int} {q t:Nat}
theorem Chain.full (h:Chain g t w q):g.full q=true:=by
 induction h with
 | nil h=>exact h
 | cons _ _ _ ih=>exact ih
theorem Chain.path (h:Chain g t w q):Path g t [] w q:=by
 induction h with
 | nil h=>exact .nil _
 | @cons t t' q s w _ hs _ ih =>
  have:=Path.cons (g:=g) (q:=t) (e:=([],s,t')) (by rw [hs];simp) ih
  exact this
variable {y:List Int}
theorem Path.append {p r:Nat} {x x' y':List Int} (h:Path g p x y q) (h':Path g q x' y' r):Path g p (x++x') (y++y') r:=by
 induction h with
 | nil _=>exact h'
 | @cons q _ e x y he _ ih =>
  have:=Path.cons he (ih h')
  rw [kat]
  exact this
theorem Chain.follow {q':Nat} {x:List Int} (h:Chain g t w q) (hp:Path g t x y q') (hf:g.full q'=true):∃ y',y=w++y'∧Path g q x y' q':=by
 induction h generalizing x y with
 | nil _=>exact ⟨y,rfl,hp⟩
 | @cons t t' q s w hn hs _ ih =>
  cases hp with
  | nil=>rw [hn] at hf;cases hf
  | @cons _ _ e x y he hp =>
   rw [hs] at he
   rcases kag.1 he with rfl
   obtain ⟨y',rfl,h2⟩:=ih hp
   exact ⟨y',rfl,h2⟩
theorem GOk.pathA (h:GOk F T n A g) (m:Nat):∀ {q q':Nat} {x y:List Int},y.length≤m→g.full q=true→g.full q'=true→Path g q x y q'→TP F T n A (g.runs q) x y (g.runs q'):=by
 induction m with
 | zero =>
  intro q q' x y hm hq hq' hp
  cases hp with
  | nil=>exact .nil _
  | cons he hp=>simp at hm
 | succ m ih =>
  intro q q' x y hm hq hq' hp
  cases hp with
  | nil=>exact .nil _
  | @cons _ _ e x y he hp =>
   obtain ⟨i,o,ht,ha,rest,q1,rfl,rfl,hc,hr⟩:=h.sound q hq e he
   obtain ⟨y',rfl,hp'⟩:=hc.follow hp hq'
   have:=ih (by simp at hm;omega) hc.full hq' hp'
   rw [hr] at this
   exact TP.cons ht ha this
variable {R':RS}
theorem GOk.pathB (h:GOk F T n A g) {R:RS} {x:List Int} (hp:TP F T n A R x y R'):∀ q,g.full q=true→g.runs q=R→∃ q',g.full q'=true∧g.runs q'=R'∧Path g q x y q':=by
 induction hp with
 | nil R=>exact fun q hq hr=>⟨q,hq,hr,.nil q⟩
 | @cons R R' i o x y ht ha _ ih =>
  rintro q hq rfl
  obtain ⟨e,he,rest,q1,rfl,rfl,hc,hr⟩:=h.complete q hq i o ht ha
  obtain ⟨q',h1,h2,h3⟩:=ih q1 hc.full hr
  refine ⟨q',h1,h2,?_⟩
  have:=Path.cons he (hc.path.append h3)
  exact this
def Inj (F T:Nat→List Int) (n:Nat) (A:Int→Prop):Prop:=∀ x x' y,(∀ s∈x,A s)→(∀ s∈x',A s)→ResP F T n x y→ResP F T n x' y→x=x'
def zjE (g:Gph):Prop:=∀ x x' y p p',g.full p=true→g.full p'=true→Path g 0 x y p→Path g 0 x' y p'→x=x'
theorem GOk.inj_of (h:GOk F T n A g) (hi:zjE g):Inj F T n A:=by
 intro x x' y hx hx' hr hr'
 have key:∀ {x:List Int},(∀ s∈x,A s)→ResP F T n x y→∃ p,g.full p=true∧Path g 0 x y p:=fun hx hr=>by
  obtain ⟨R',ht⟩:=zN3 hr hx (g.runs 0) (fun r hr=>by rw [h.start.2] at hr;exact hr.elim)
  obtain ⟨p,h1,-,h2⟩:=h.pathB ht 0 h.start.1 rfl
  exact ⟨p,h1,h2⟩
 obtain ⟨p,h1,h2⟩:=key hx hr
 obtain ⟨p',h1',h2'⟩:=key hx' hr'
 exact hi x x' y p p' h1 h1' h2 h2'
theorem TP.syms {R:RS} {x:List Int} (hF:∀ i,i<n→∀ s∈F i,A s) (h:TP F T n A R x y R'):∀ s∈x,A s:=by
 induction h with
 | nil _=>intro s hs;cases hs
 | cons ht _ _ ih =>
  intro s hs
  rcases kak.1 hs with hs | hs
  ·rcases ht with ⟨j,hj,rfl,-⟩ | ⟨c,hc,rfl,-⟩
   ·exact hF j hj s hs
   ·rw [kag.1 hs];exact hc
  ·exact ih s hs
theorem GOk.inj_iff (h:GOk F T n A g) (hF:∀ i,i<n→F i≠[]) (hFA:∀ i,i<n→∀ s∈F i,A s):zjE g↔Inj F T n A:=by
 refine ⟨h.inj_of,fun hi x x' y p p' hp hp' h1 h2=>?_⟩
 have t1:=h.pathA _ (kab _) h.start.1 hp h1
 have t2:=h.pathA _ (kab _) h.start.1 hp' h2
 exact hi x x' y (t1.syms hFA) (t2.syms hFA) (t1.res hF) (t2.res hF)
abbrev Dl:=List Int × List Int
def qK:List Int→List Int→Dl
 | a::x,b::y=>if a=b then qK x y else (a::x,b::y)
 | x,y=>(x,y)
theorem zeA:∀ x y:List Int,∃ c,x=c++(qK x y).1∧y=c++(qK x y).2∧∀ a x' b y',qK x y=(a::x',b::y')→a≠b
 | [],y=>⟨[],rfl,rfl,fun a x' b y' e=>by cases e⟩
 | a::x,[]=>⟨[],rfl,rfl,fun _ _ _ _ e=>by cases e⟩
 | a::x,b::y=>by
  unfold qK
  by_cases g:a=b
  ·rw [if_pos g]
   obtain ⟨c,h1,h2,h3⟩:=zeA x y
   exact ⟨a::c,congrArg (a::·) h1,by rw [←g];exact congrArg (a::·) h2,h3⟩
  ·rw [if_neg g]
   exact ⟨[],rfl,rfl,fun a' x' b' y' e=>by injection e with e1 e2;injection e1 with e1;injection e2 with e2;rw [←e1,←e2];exact g⟩
def red (d:Dl):Prop:=d.1=[]∨d.2=[]
def Usf (g:Gph) (p q:Nat):Prop:=(∃ x x' y,Path g 0 x y p∧Path g 0 x' y q)∧∃ x x' y p' q',g.full p'=true∧g.full q'=true∧Path g p x y p'∧Path g q x' y q'
structure Lab (g:Gph) (δ:Nat→Nat→Option Dl):Prop where
 zero:δ 0 0=some ([],[])
 fin:∀ p q d,δ p q=some d→g.full p=true→g.full q=true→d=([],[])
 step:∀ p q d,δ p q=some d→∀ e∈g.steps p,∀ e'∈g.steps q,e.2.1=e'.2.1→Usf g e.2.2 e'.2.2→δ e.2.2 e'.2.2=some (qK (d.1++e.1) (d.2++e'.1))
theorem Lab.inj {δ:Nat→Nat→Option Dl} (h:Lab g δ):zjE g:=by
 have key:∀ {y:List Int} {p q p' q':Nat} {x x':List Int} {d:Dl},δ p q=some d→(∃ x x' y,Path g 0 x y p∧Path g 0 x' y q)→g.full p'=true→g.full q'=true→Path g p x y p'→Path g q x' y q'→d.1++x=d.2++x':=by
  intro y
  induction y with
  | nil =>
   intro p q p' q' x x' d hd _ hp hq h1 h2
   cases h1
   cases h2
   rw [h.fin p q d hd hp hq]
  | cons s y ih =>
   intro p q p' q' x x' d hd hr hp hq h1 h2
   generalize hy:s::y=y0 at h2
   cases h1 with
   | @cons _ _ e x _ he h1 =>
    cases h2 with
    | nil=>cases hy
    | @cons _ _ e' x' y1 he' h2 =>
     injection hy with hs hy
     subst hy
     obtain ⟨x0,x0',y0,r1,r2⟩:=hr
     have hr':∃ x x' y,Path g 0 x y e.2.2∧Path g 0 x' y e'.2.2:=by
      have a1:=r1.append (Path.cons he (Path.nil e.2.2))
      have a2:=r2.append (Path.cons he' (Path.nil e'.2.2))
      rw [←hs] at a2
      exact ⟨_,_,_,a1,a2⟩
     have hd':=h.step p q d hd e he e' he' hs ⟨hr',_,_,_,_,_,hp,hq,h1,h2⟩
     have:=ih hd' hr' hp hq h1 h2
     obtain ⟨c,c1,c2,-⟩:=zeA (d.1++e.1) (d.2++e'.1)
     generalize qK (d.1++e.1) (d.2++e'.1)=D at this c1 c2
     rw [←kat,←kat,c1,c2,kat,this,←kat]
 intro x x' y p p' hp hp' h1 h2
 exact key h.zero ⟨[],[],[],.nil 0,.nil 0⟩ hp hp' h1 h2
def Kn (g:Gph) (p q:Nat) (d:Dl):Prop:=red d∧∃ x x' y c,Path g 0 x y p∧Path g 0 x' y q∧x=c++d.1∧x'=c++d.2
theorem Kn.zero:Kn g 0 0 ([],[]):=⟨.inl rfl,[],[],[],[],.nil 0,.nil 0,rfl,rfl⟩
variable {d:Dl} {e e':Stp}
theorem Kn.steps {p:Nat} (h:Kn g p q d) (he:e∈g.steps p) (he':e'∈g.steps q) (hs:e.2.1=e'.2.1):∃ x x' y c,Path g 0 x y e.2.2∧Path g 0 x' y e'.2.2∧x=c++(qK (d.1++e.1) (d.2++e'.1)).1∧x'=c++(qK (d.1++e.1) (d.2++e'.1)).2:=by
 obtain ⟨-,x,x',y,c,h1,h2,rfl,rfl⟩:=h
 obtain ⟨c',c1,c2,-⟩:=zeA (d.1++e.1) (d.2++e'.1)
 have a1:=h1.append (Path.cons he (Path.nil e.2.2))
 have a2:=h2.append (Path.cons he' (Path.nil e'.2.2))
 rw [←hs] at a2
 generalize qK (d.1++e.1) (d.2++e'.1)=D at c1 c2 ⊢
 refine ⟨_,_,_,c++c',a1,a2,?_,?_⟩
 ·rw [List.append_nil,kat,c1,←kat]
 ·rw [List.append_nil,kat,c2,←kat]
theorem Kn.fin {p:Nat} (h:Kn g p q d) (hp:g.full p=true) (hq:g.full q=true) (hd:d≠([],[])):¬zjE g:=by
 intro hi
 obtain ⟨hr,x,x',y,c,h1,h2,rfl,rfl⟩:=h
 have:=List.append_cancel_left (hi _ _ _ _ _ hp hq h1 h2)
 rcases d with ⟨d1,d2⟩
 rcases hr with h | h
 ·exact hd (by simp only at h this;rw [←this,h])
 ·exact hd (by simp only at h this;rw [this,h])
theorem Kn.broken {p:Nat} (h:Kn g p q d) (he:e∈g.steps p) (he':e'∈g.steps q) (hs:e.2.1=e'.2.1) (hu:Usf g e.2.2 e'.2.2) (hb:¬red (qK (d.1++e.1) (d.2++e'.1))):¬zjE g:=by
 intro hi
 obtain ⟨x,x',y,c,h1,h2,rfl,rfl⟩:=h.steps he he' hs
 obtain ⟨-,z,z',w,p',q',g1,g2,g3,g4⟩:=hu
 have:=hi _ _ _ _ _ g1 g2 (h1.append g3) (h2.append g4)
 rw [kat,kat] at this
 have:=List.append_cancel_left this
 obtain ⟨-,-,-,hne⟩:=zeA (d.1++e.1) (d.2++e'.1)
 generalize qK (d.1++e.1) (d.2++e'.1)=d' at *
 rcases d' with ⟨d1,d2⟩
 rcases d1 with _ | ⟨a,d1⟩
 ·exact hb (.inl rfl)
 rcases d2 with _ | ⟨b,d2⟩
 ·exact hb (.inr rfl)
 injection this with this
 exact hne _ _ _ _ rfl this
theorem Kn.clash {p:Nat} {d':Dl} (h:Kn g p q d) (h':Kn g p q d') (hu:Usf g p q) (hd:d≠d'):¬zjE g:=by
 intro hi
 obtain ⟨hr,x,x',y,c,h1,h2,rfl,rfl⟩:=h
 obtain ⟨hr',v,v',w,c',h1',h2',rfl,rfl⟩:=h'
 obtain ⟨-,z,z',u,p',q',g1,g2,g3,g4⟩:=hu
 have e1:=hi _ _ _ _ _ g1 g2 (h1.append g3) (h2.append g4)
 have e2:=hi _ _ _ _ _ g1 g2 (h1'.append g3) (h2'.append g4)
 rw [kat,kat] at e1 e2
 have e1:=List.append_cancel_left e1
 have e2:=List.append_cancel_left e2
 rcases d with ⟨a,b⟩
 rcases d' with ⟨a',b'⟩
 simp only at e1 e2
 have l1:=congrArg List.length e1
 have l2:=congrArg List.length e2
 simp only [kah] at l1 l2
 rcases hr with rfl | rfl<;>rcases hr' with rfl | rfl
 ·simp only [List.nil_append] at e1 e2
  rw [e1] at e2
  exact hd (by rw [List.append_cancel_right e2])
 ·simp only [List.length_nil] at l1 l2
  have:b=[]:=kaw.1 (by omega)
  have:a'=[]:=kaw.1 (by omega)
  subst_vars
  exact hd rfl
 ·simp only [List.length_nil] at l1 l2
  have:a=[]:=kaw.1 (by omega)
  have:b'=[]:=kaw.1 (by omega)
  subst_vars
  exact hd rfl
 ·simp only [List.nil_append] at e1 e2
  rw [←e1] at e2
  exact hd (by rw [List.append_cancel_right e2])
end
theorem zG:PcOk Tryz.prog zj∧zj.hooks=[]:=by
 unfold zj pcN
 exact zzr (by kernel_rfl) (by kernel_rfl) (by kernel_rfl) (by kernel_rfl) (by kernel_rfl)
abbrev Nd:=List Int→Option (Go.Ev.K × Go.Ev.K)
def ndV (nd:Nd) (w:List Int):V:=match nd w with | some p=>.ptr p.1 0 0 | none=>.bad
structure PS where
 st:List Stp
 fl:Bool
 rn:List (List Int)
structure SD where
 sv:V
 st:List (V × Stp)
 fl:Bool
 rv:V
 rn:List (List Int)
def SD.p (d:SD):PS:=⟨d.st.map (·.2),d.fl,d.rn⟩
def zwr (e:V × Stp):List V:=[e.1,iv .i64 e.2.2.1,iv .i64 (e.2.2.2:Int)]
def zoC (v:V):Option Go.Ev.K:=match v with | .so a _ _ _ _=>some a | .sl a _ _ _ _=>some a | _=>none
def wq (b s:S) (gk nm:Go.Ev.K) (v:V) (w:List Int):Prop:=zZ s v∧word s v=w∧∀ c,zoC v=some c→c.toNat<s.nx.toNat∧(c.toNat<b.nx.toNat∨(c≠gk∧c≠nm∧∃ l n el mn f1 f2,Tr.get B.none c s.h=.row l n el false mn f1 f2))
structure GD (b s:S) (nd:Nd) (gk nm:Go.Ev.K) (D:List SD) (nl:LG (List Nat)) (nc:Nat) (vS vF vR:V) (el:Nat):Prop where
 ext:Ext b s
 row:Tr.get B.none gk s.h=.row [vS,vF,vR,.ref 0 nm] 4 el false 0 0 0
 zS:Gz 178 1 b s vS (D.map fun d=>[d.sv])
 zF:Gz 4 1 b s vF (D.map fun d=>[.bool d.fl])
 zR:Gz 171 1 b s vR (D.map fun d=>[d.rv])
 gk_:b.nx.toNat≤gk.toNat∧gk.toNat<s.nx.toNat
 nm_:b.nx.toNat≤nm.toNat∧nm.toNat<s.nx.toNat
 names:yj V.str s nm nl nc
 steps:∀ d∈D,Gz 180 3 b s d.sv (d.st.map zwr)
 inj:D.Pairwise fun d d'=>∀ k,zC d.sv=some k→zC d'.sv≠some k
 runs:∀ d∈D,Gz 66 1 b s d.rv (d.rn.map fun w=>[ndV nd w])
 ins:∀ d∈D,∀ e∈d.st,wq b s gk nm e.1 e.2.1
def zKs (D:List SD) (c:Go.Ev.K):Prop:=∃ d∈D,zC d.rv=some c
def Grw (s:S) (c:Go.Ev.K):Prop:=∃ l n el mn f1 f2,Tr.get B.none c s.h=.row l n el true mn f1 f2
variable {gk nm:Go.Ev.K} {w:List Int} {b s s':S} {v:V}
theorem wq.keep (h:wq b s gk nm v w) (hn:s.nx.toNat≤s'.nx.toNat) (hk:∀ c,c.toNat<s.nx.toNat→(c.toNat<b.nx.toNat∨(c≠gk∧c≠nm∧¬Grw s c))→Tr.get B.none c s'.h=Tr.get B.none c s.h):wq b s' gk nm v w:=by
 obtain ⟨h1,h2,h3⟩:=h
 have key:∀ c,zoC v=some c→Tr.get B.none c s'.h=Tr.get B.none c s.h:=fun c hc=>by
  obtain ⟨g1,g2⟩:=h3 c hc
  refine hk c g1 ?_
  rcases g2 with g2 | ⟨g2,g3,l,n,el,mn,f1,f2,g4⟩
  ·exact .inl g2
  ·refine .inr ⟨g2,g3,fun ⟨_,_,_,_,_,_,g5⟩=>?_⟩
   rw [g4] at g5
   injection g5 with _ _ _ g5
   cases g5
 have hcell:∀ j,zt s' v j=zt s v j:=fun j=>by
  unfold zt
  split
  ·rename_i a _ o _ _;rw [key a rfl]
  ·rename_i a _ o _ _;rw [key a rfl]
  ·rfl
 refine ⟨⟨?_,h1.2.1,fun j hj=>by rw [hcell];exact h1.2.2 j hj⟩,?_,fun c hc=>?_⟩
 ·rcases h1.1 with h | ⟨a,w,o,len,hv,hlt,l,n,el,gr,mn,f1,f2,g1,g2⟩
  ·exact .inl h
  ·refine .inr ⟨a,w,o,len,hv,kaf hlt hn,l,n,el,gr,mn,f1,f2,(key a ?_).trans g1,g2⟩
   rcases hv with ⟨cap,rfl,_⟩ | ⟨e,rfl⟩<;>rfl
 ·rw [←h2]
  unfold Go.Ev.word
  exact kaO fun j _=>by unfold qi;rw [hcell]
 ·obtain ⟨g1,g2⟩:=h3 c hc
  refine ⟨kaf g1 hn,?_⟩
  rw [key c hc]
  exact g2
theorem wq.ext (h:wq b s gk nm v w) (e:Ext s s'):wq b s' gk nm v w:=h.keep e.nx fun c hc _=>e.get c hc
theorem wq.frm {x:Go.Ev.K→Prop} (h:wq b s gk nm v w) (hF:Frm 66 b gk nm x s s') (hx:∀ c,x c→Grw s c):wq b s' gk nm v w :=
 h.keep hF.nx fun c hc hk=>hF.keep c hc (hk.imp_right fun ⟨k1,k2,k3⟩=>⟨k1,k2,fun ⟨l,n,el,mn,f1,f2,g,_⟩=>k3 ⟨l,n,el,mn,f1,f2,g⟩,fun g=>k3 (hx c g)⟩)
variable {W:Go.Ev.K→Prop} {nl:LG (List Nat)} {D:List SD} {el nc:Nat} {vF vR vS:V}
theorem GD.keepW {nd:Nd} (h:GD b s nd gk nm D nl nc vS vF vR el) (hn:s.nx.toNat≤s'.nx.toNat) (hk:∀ c,c.toNat<s.nx.toNat→¬W c→Tr.get B.none c s'.h=Tr.get B.none c s.h)
  (hW:∀ c,W c→b.nx.toNat≤c.toNat∧(∃ l n mn f1 f2,Tr.get B.none c s.h=.row l n 66 true mn f1 f2)∧¬zKs D c):GD b s' nd gk nm D nl nc vS vF vR el:=by
 have hG:∀ {e z v l},e≠66→Gz e z b s v l→Gz e z b s' v l:=fun hne hz=>hz.keep hn fun c hc=>hk c (hz.blk hc).2 fun hw=>by
  obtain ⟨-,⟨l,n,mn,f1,f2,g⟩,-⟩:=hW c hw
  obtain ⟨_,_,_,_,_,g'⟩:=hz.own hc
  rw [g] at g'
  injection g' with _ _ g' _
  exact hne g'.symm
 have nw:∀ {c l n e mn f1 f2},Tr.get B.none c s.h=.row l n e false mn f1 f2→¬W c:=fun g hw=>by
  obtain ⟨-,⟨_,_,_,_,_,g'⟩,-⟩:=hW _ hw
  rw [g] at g'
  injection g' with _ _ _ g'
  cases g'
 refine ⟨⟨kar h.ext.nx hn,fun c hc=>?_⟩,(hk _ h.gk_.2 (nw h.row)).trans h.row,hG (by decide) h.zS,hG (by decide) h.zF,hG (by decide) h.zR,⟨h.gk_.1,kaf h.gk_.2 hn⟩,⟨h.nm_.1,kaf h.nm_.2 hn⟩,?_,fun d hd=>hG (by decide) (h.steps d hd),h.inj,fun d hd=>?_,fun d hd e he=>?_⟩
 ·exact (hk c (kaf hc h.ext.nx) fun hw=>by have:=(hW c hw).1;omega).trans (h.ext.get c hc)
 ·unfold yj
  rw [hk _ h.nm_.2 fun hw=>by
   obtain ⟨-,⟨_,_,_,_,_,g'⟩,-⟩:=hW _ hw
   have:=h.names
   unfold yj at this
   rw [this] at g'
   cases g']
  exact h.names
 ·exact (h.runs d hd).keep hn fun c hc=>hk c ((h.runs d hd).blk hc).2 fun hw=>(hW c hw).2.2 ⟨d,hd,hc⟩
 ·refine (h.ins d hd e he).keep hn fun c hc hk'=>hk c hc fun hw=>?_
  obtain ⟨g1,⟨l,n,mn,f1,f2,g⟩,-⟩:=hW c hw
  rcases hk' with hk' | ⟨-,-,hk'⟩
  ·omega
  ·exact hk' ⟨_,_,_,_,_,_,g⟩
theorem GD.later {nd:Nd} (h:GD b s nd gk nm D nl nc vS vF vR el) (e:Ext s s'):GD b s' nd gk nm D nl nc vS vF vR el :=
 h.keepW (W:=fun _=>False) e.nx (fun c hc _=>e.get c hc) (fun _ hc=>hc.elim)
def GR (b s:S) (nd:Nd) (gk nm:Go.Ev.K) (G:List PS) (nl:LG (List Nat)) (nc:Nat) (rb:Go.Ev.K→Prop):Prop:=∃ D vS vF vR el,GD b s nd gk nm D nl nc vS vF vR el∧D.map SD.p=G∧∀ c,zKs D c→rb c
variable {rb:Go.Ev.K→Prop} {G:List PS}
theorem GR.later {nd:Nd} (h:GR b s nd gk nm G nl nc rb) (e:Ext s s'):GR b s' nd gk nm G nl nc rb:=by
 obtain ⟨D,vS,vF,vR,el,h1,h2⟩:=h
 exact ⟨D,vS,vF,vR,el,h1.later e,h2⟩
theorem GR.keepW {nd:Nd} (h:GR b s nd gk nm G nl nc rb) (hn:s.nx.toNat≤s'.nx.toNat) (hk:∀ c,c.toNat<s.nx.toNat→¬W c→Tr.get B.none c s'.h=Tr.get B.none c s.h)
  (hW:∀ c,W c→b.nx.toNat≤c.toNat∧(∃ l n mn f1 f2,Tr.get B.none c s.h=.row l n 66 true mn f1 f2)∧¬rb c):GR b s' nd gk nm G nl nc rb:=by
 obtain ⟨D,vS,vF,vR,el,h1,h2,h3⟩:=h
 exact ⟨D,vS,vF,vR,el,h1.keepW hn hk fun c hc=>⟨(hW c hc).1,(hW c hc).2.1,fun g=>(hW c hc).2.2 (h3 c g)⟩,h2,h3⟩
theorem wq.old {s0:S} (h:zZ s0 v) (h1:Ext s0 b) (h2:Ext b s):wq b s gk nm v (word s0 v):=by
 refine ⟨(h.ext (h1.trans h2)).1,h.word (h1.trans h2),fun c hc=>?_⟩
 have:c.toNat<s0.nx.toNat:=by
  rcases h.1 with (rfl | ⟨c0,rfl⟩) | ⟨a,w,o,len,⟨cap,rfl,_⟩ | ⟨e,rfl⟩,hlt,_⟩
  ·cases hc
  ·cases hc
  ·cases hc;exact hlt
  ·cases hc;exact hlt
 have:=h1.nx
 have:=h2.nx
 exact ⟨by omega,.inl (by omega)⟩
theorem zrX (s:S) (z:Int):zZ (zN s (.row [iv .i64 z] 1 3 false 0 0 0)) (.sl s.nx 0 0 1 1)∧word (zN s (.row [iv .i64 z] 1 3 false 0 0 0)) (.sl s.nx 0 0 1 1)=[z]:=by
 refine ⟨⟨.inr ⟨s.nx,0,0,1,.inl ⟨1,rfl,by omega⟩,by show s.nx.toNat<s.nx.succ.toNat;rw [K.toNat_succ];omega,_,_,_,_,_,_,_,zx _ _,rfl,qG.2 (.inr ⟨rfl,by omega⟩)⟩,by simp [zb],fun j hj=>?_⟩,?_⟩
 ·have:j=0:=by simpa [zb] using hj
  subst this
  simp [zt,zx,yz,zn]
 ·simp [word,zb,qi,zt,zx,yz,zn]
theorem wq.box (z:Int) (h1:gk.toNat<s.nx.toNat) (h2:nm.toNat<s.nx.toNat):wq b (zN s (.row [iv .i64 z] 1 3 false 0 0 0)) gk nm (.sl s.nx 0 0 1 1) [z]:=by
 obtain ⟨g1,g2⟩:=zrX s z
 refine ⟨g1,g2,fun c hc=>?_⟩
 cases hc
 refine ⟨by show s.nx.toNat<s.nx.succ.toNat;rw [K.toNat_succ];omega,.inr ⟨fun e=>by rw [←e] at h1;omega,fun e=>by rw [←e] at h2;omega,_,_,_,_,_,_,zx _ _⟩⟩
theorem GD.keepI {nd:Nd} (h:GD b s nd gk nm D nl nc vS vF vR el) {k:Go.Ev.K} (hn:s.nx.toNat≤s'.nx.toNat) (hb:b.nx.toNat≤k.toNat) (hr:∀ l n el gr mn f1 f2,Tr.get B.none k s.h≠.row l n el gr mn f1 f2) (hm:∀ es ck,Tr.get B.none k s.h≠.map es ck)
  (hk:∀ c,c.toNat<s.nx.toNat→c≠k→Tr.get B.none c s'.h=Tr.get B.none c s.h):GD b s' nd gk nm D nl nc vS vF vR el:=by
 have hz:∀ {e z b v l},Gz e z b s v l→Gz e z b s' v l:=fun hz=>hz.keep hn fun c hc=>hk c (hz.blk hc).2 fun e=>by
  rw [e] at hc
  obtain ⟨_,_,_,_,_,g⟩:=hz.own hc
  exact hr _ _ _ _ _ _ _ g
 refine ⟨⟨kar h.ext.nx hn,fun c hc=>(hk c (kaf hc h.ext.nx) fun e=>by rw [e] at hc;omega).trans (h.ext.get c hc)⟩,(hk _ h.gk_.2 fun e=>hr _ _ _ _ _ _ _ (by rw [←e];exact h.row)).trans h.row,hz h.zS,hz h.zF,hz h.zR,⟨h.gk_.1,kaf h.gk_.2 hn⟩,⟨h.nm_.1,kaf h.nm_.2 hn⟩,?_,fun d hd=>hz (h.steps d hd),h.inj,fun d hd=>hz (h.runs d hd),fun d hd e he=>?_⟩
 ·have hnm:=h.names
  unfold yj at hnm ⊢
  rw [hk _ h.nm_.2 fun e=>hm _ _ (by rw [←e];exact hnm)];exact hnm
 ·obtain ⟨g1,g2,g3⟩:=h.ins d hd e he
  have key:∀ c,zoC e.1=some c→Tr.get B.none c s'.h=Tr.get B.none c s.h:=fun c hc=>by
   obtain ⟨k1,k2⟩:=g3 c hc
   refine hk c k1 fun e2=>?_
   rcases k2 with k2 | ⟨_,_,_,_,_,_,_,_,k2⟩
   ·rw [e2] at k2;omega
   ·exact hr _ _ _ _ _ _ _ (by rw [←e2];exact k2)
  have hcell:∀ j,zt s' e.1 j=zt s e.1 j:=fun j=>by
   unfold zt
   split
   ·rename_i a _ o _ _ heq;rw [key a (by rw [heq];rfl)]
   ·rename_i a _ o _ _ heq;rw [key a (by rw [heq];rfl)]
   ·rfl
  refine ⟨⟨?_,g1.2.1,fun j hj=>by rw [hcell];exact g1.2.2 j hj⟩,?_,fun c hc=>?_⟩
  ·rcases g1.1 with h | ⟨a,w,o,len,hv,hlt,l,n,el,gr,mn,f1,f2,q1,q2⟩
   ·exact .inl h
   ·refine .inr ⟨a,w,o,len,hv,kaf hlt hn,l,n,el,gr,mn,f1,f2,(key a ?_).trans q1,q2⟩
    rcases hv with ⟨cap,hv,_⟩ | ⟨e,hv⟩<;>rw [hv]<;>rfl
  ·rw [←g2]
   unfold Go.Ev.word
   exact kaO fun j _=>by unfold qi;rw [hcell]
  ·obtain ⟨k1,k2⟩:=g3 c hc
   refine ⟨kaf k1 hn,?_⟩
   rw [key c hc]
   exact k2
theorem zjo {l:List V} {e i:Nat} {x:V} {L:List (List V)} (hg:Tr.get B.none gk s.h=.row l 4 el false 0 0 0) (hi:i<4) (hgk:gk.toNat<s.nx.toNat) (hb:b.nx.toNat≤s.nx.toNat) (hz:Gz e 1 b s v L) (hx:x≠.bad) (hlim:L.length+1≤68719476736) :
  ∃ v' s2,(∀ k:V→S→Go.Ev.A,zP e 1 v (.sl s.nx 0 0 1 1) (zN s (.row [x] 1 e false 0 0 0)) (fun v6 s=>zJ 1 (.ptr gk 0 i) v6 s k)=k Go.Ev.undef s2)∧Tr.get B.none gk s2.h=.row (upd [v'] i l) 4 el false 0 0 0∧Gz e 1 b s2 v' (L++[[x]])∧s.nx.toNat≤s2.nx.toNat ∧
   (∀ c,c.toNat<s.nx.toNat→c≠gk→zC v≠some c→Tr.get B.none c s2.h=Tr.get B.none c s.h):=by
 obtain ⟨v',s1,h1,h2,h3,h4,h5⟩:=hz.app1 hb Nat.one_pos (x:=[x]) (fun y hy=>by rcases kag.1 hy with rfl;exact hx) rfl hlim
 have hne:zC v≠some gk:=hz.ne_row hg
 have hg1:Tr.get B.none gk s1.h=.row l 4 el false 0 0 0:=(h4 gk hgk hne).trans hg
 refine ⟨v',qj s1 gk (.row (upd [v'] i l) 4 el false 0 0 0),fun k=>?_,by rw [zm,if_pos rfl],?_,h3,fun c hc hcg hcv=>by rw [zm,if_neg hcg];exact h4 c hc hcv⟩
 ·rw [h1]
  exact zan hg1 i v' h2.cell1 hi k
 ·refine h2.keep (kab _) fun c hc=>?_
  rw [zm,if_neg]
  rintro rfl
  exact h2.ne_row hg1 hc
theorem Gz.later {sz:Nat} {l:List (List V)} (h:Gz el sz b s v l) (hn:s.nx.toNat≤s'.nx.toNat) (hk:∀ c,c.toNat<s.nx.toNat→¬W c→Tr.get B.none c s'.h=Tr.get B.none c s.h) (hW:∀ c,zC v=some c→¬W c):Gz el sz b s' v l :=
 h.keep hn fun c hc=>hk c (h.blk hc).2 (hW c hc)
theorem GD.add {nd:Nd} (h:GD b s nd gk nm D nl nc vS vF vR el) {fl:Bool} {rv:V} {rn:List (List Int)} (hr:Gz 66 1 b s rv (rn.map fun w=>[ndV nd w])) (hlim:D.length+1≤68719476736) :
  ∃ vS' vF' vR' s1 s2 s3,
   (∀ k:V→S→Go.Ev.A,zd false 1 (.ptr gk 0 0) s k=k vS s) ∧
   (∀ k:V→S→Go.Ev.A,zP 178 1 vS (.sl s.nx 0 0 1 1) (zN s (.row [.nil 1] 1 178 false 0 0 0)) (fun v6 s=>zJ 1 (.ptr gk 0 0) v6 s k)=k Go.Ev.undef s1) ∧
   (∀ k:V→S→Go.Ev.A,zd false 1 (.ptr gk 0 1) s1 k=k vF s1) ∧
   (∀ k:V→S→Go.Ev.A,zP 4 1 vF (.sl s1.nx 0 0 1 1) (zN s1 (.row [.bool fl] 1 4 false 0 0 0)) (fun v6 s=>zJ 1 (.ptr gk 0 1) v6 s k)=k Go.Ev.undef s2) ∧
   (∀ k:V→S→Go.Ev.A,zd false 1 (.ptr gk 0 2) s2 k=k vR s2) ∧
   (∀ k:V→S→Go.Ev.A,zP 171 1 vR (.sl s2.nx 0 0 1 1) (zN s2 (.row [rv] 1 171 false 0 0 0)) (fun v6 s=>zJ 1 (.ptr gk 0 2) v6 s k)=k Go.Ev.undef s3) ∧
   (∀ k:V→S→Go.Ev.A,zd false 1 (.ptr gk 0 1) s3 k=k vF' s3)∧(∀ c:V→Go.Ev.A,zz vF' c=c (iv .i64 ((D.length+1:Nat):Int))) ∧
   GD b s3 nd gk nm (D++[⟨.nil 1,[],fl,rv,rn⟩]) nl nc vS' vF' vR' el∧Frm 66 b gk nm (fun _=>False) s s3:=by
 have hbs:=h.ext.nx
 obtain ⟨vS',s1,a1,a2,a3,a4,a5⟩:=zjo (i:=0) h.row (by omega) h.gk_.2 hbs h.zS (x:=.nil 1) (by intro e;cases e) (by simpa using hlim)
 have zF1:=h.zF.keep a4 fun c hc=>a5 c (h.zF.blk hc).2 (fun e=>h.zF.ne_row h.row (by rw [←e];exact hc)) (h.zF.diff h.zS (by decide) hc)
 have zR1:=h.zR.keep a4 fun c hc=>a5 c (h.zR.blk hc).2 (fun e=>h.zR.ne_row h.row (by rw [←e];exact hc)) (h.zR.diff h.zS (by decide) hc)
 obtain ⟨vF',s2,b1,b2,b3,b4,b5⟩:=zjo (i:=1) a2 (by omega) (kaf h.gk_.2 a4) (kar hbs a4) zF1 (x:=.bool fl) (by intro e;cases e) (by simpa using hlim)
 have zS2:=a3.keep b4 fun c hc=>b5 c (a3.blk hc).2 (fun e=>a3.ne_row a2 (by rw [←e];exact hc)) (a3.diff zF1 (by decide) hc)
 have zR2:=zR1.keep b4 fun c hc=>b5 c (zR1.blk hc).2 (fun e=>zR1.ne_row a2 (by rw [←e];exact hc)) (zR1.diff zF1 (by decide) hc)
 obtain ⟨vR',s3,c1,c2,c3,c4,c5⟩:=zjo (i:=2) b2 (by omega) (kaf h.gk_.2 (kar a4 b4)) (kar hbs (kar a4 b4)) zR2 (x:=rv) hr.nbad (by simpa using hlim)
 have zS3:=zS2.keep c4 fun c hc=>c5 c (zS2.blk hc).2 (fun e=>zS2.ne_row b2 (by rw [←e];exact hc)) (zS2.diff zR2 (by decide) hc)
 have zF3:=b3.keep c4 fun c hc=>c5 c (b3.blk hc).2 (fun e=>b3.ne_row b2 (by rw [←e];exact hc)) (b3.diff zR2 (by decide) hc)
 have n13:s1.nx.toNat≤s3.nx.toNat:=kar b4 c4
 have n03:s.nx.toNat≤s3.nx.toNat:=kar a4 n13
 obtain ⟨W,hW⟩:∃ W:Go.Ev.K→Prop,W=fun c=>c=gk∨zC vS=some c∨zC vF=some c∨zC vR=some c:=⟨_,rfl⟩
 have hk:∀ c,c.toNat<s.nx.toNat→¬W c→Tr.get B.none c s3.h=Tr.get B.none c s.h:=fun c hc hw=>by
  rw [hW] at hw
  simp only [not_or] at hw
  rw [c5 c (by omega) hw.1 hw.2.2.2,b5 c (by omega) hw.1 hw.2.2.1,a5 c hc hw.1 hw.2.1]
 have wge:∀ c,W c→b.nx.toNat≤c.toNat:=fun c hw=>by
  rw [hW] at hw
  rcases hw with rfl | hw | hw | hw
  ·exact h.gk_.1
  ·exact (h.zS.blk hw).1
  ·exact (h.zF.blk hw).1
  ·exact (h.zR.blk hw).1
 have wgw:∀ c,W c→c=gk∨∃ l n el mn f1 f2,Tr.get B.none c s.h=.row l n el true mn f1 f2∧(el=178∨el=4∨el=171):=fun c hw=>by
  rw [hW] at hw
  rcases hw with rfl | hw | hw | hw
  ·exact .inl rfl
  ·obtain ⟨l,n,mn,f1,f2,g⟩:=h.zS.own hw;exact .inr ⟨_,_,_,_,_,_,g,.inl rfl⟩
  ·obtain ⟨l,n,mn,f1,f2,g⟩:=h.zF.own hw;exact .inr ⟨_,_,_,_,_,_,g,.inr (.inl rfl)⟩
  ·obtain ⟨l,n,mn,f1,f2,g⟩:=h.zR.own hw;exact .inr ⟨_,_,_,_,_,_,g,.inr (.inr rfl)⟩
 have hz:∀ {e z v l},(e≠178∧e≠4∧e≠171)→Gz e z b s v l→Gz e z b s3 v l:=fun hne hz=>Gz.later hz n03 hk fun c hc hw=>by
  rcases wgw c hw with rfl | ⟨l,n,el,mn,f1,f2,g,g2⟩
  ·exact hz.ne_row h.row hc
  ·obtain ⟨_,_,_,_,_,g'⟩:=hz.own hc
   rw [g] at g'
   injection g' with _ _ g' _
   omega
 have hng:gk≠nm:=by
  rintro rfl
  have:=h.names
  unfold yj at this
  rw [h.row] at this
  cases this
 refine ⟨vS',vF',vR',s1,s2,s3,fun k=>?_,a1,fun k=>?_,b1,fun k=>?_,c1,fun k=>?_,fun c=>?_,?_,⟨n03,fun c hc hk'=>hk c hc fun hw=>?_⟩⟩
 ·exact zw h.row 0 rfl (by omega) (by simpa using h.zS.nbad) k
 ·exact zw a2 1 rfl (by omega) (by simpa [upd,put] using h.zF.nbad) k
 ·exact zw b2 2 rfl (by omega) (by simpa [upd,put] using h.zR.nbad) k
 ·exact zw c2 1 rfl (by omega) (by simpa [upd,put] using b3.nbad) k
 ·rw [b3.len];simp
 ·refine ⟨⟨kar hbs n03,fun c hc=>?_⟩,c2,by simpa using zS3,by simpa using zF3,by simpa using c3,⟨h.gk_.1,kaf h.gk_.2 n03⟩,⟨h.nm_.1,kaf h.nm_.2 n03⟩,?_,fun d hd=>?_,?_,fun d hd=>?_,fun d hd e he=>?_⟩
  ·exact (hk c (kaf hc hbs) fun hw=>by have:=wge c hw;omega).trans (h.ext.get c hc)
  ·unfold yj
   rw [hk nm h.nm_.2 fun hw=>?_]
   ·exact h.names
   ·have hn:=h.names
    unfold yj at hn
    rcases wgw nm hw with e | ⟨l,n,el,mn,f1,f2,g,g2⟩
    ·exact hng e.symm
    ·rw [hn] at g;cases g
  ·rcases kak.1 hd with hd | hd
   ·exact hz (by decide) (h.steps d hd)
   ·rcases kag.1 hd with rfl
    exact .inl ⟨rfl,rfl⟩
  ·rw [List.pairwise_append]
   refine ⟨h.inj,List.pairwise_singleton _ _,fun d _ d' hd' k _ hk=>?_⟩
   rcases kag.1 hd' with rfl
   cases hk
  ·rcases kak.1 hd with hd | hd
   ·exact hz (by decide) (h.runs d hd)
   ·rcases kag.1 hd with rfl
    exact hz (by decide) hr
  ·rcases kak.1 hd with hd | hd
   ·refine (h.ins d hd e he).keep n03 fun c hc hk'=>hk c hc fun hw=>?_
    rcases hk' with hk' | ⟨k1,-,k3⟩
    ·have:=wge c hw;omega
    ·rcases wgw c hw with e | ⟨l,n,el,mn,f1,f2,g,-⟩
     ·exact k1 e
     ·exact k3 ⟨_,_,_,_,_,_,g⟩
   ·rcases kag.1 hd with rfl
    cases he
 ·rcases hk' with hk' | ⟨k1,-,k3,-⟩
  ·have:=wge c hw;omega
  ·rcases wgw c hw with e | ⟨l,n,el,mn,f1,f2,g,g2⟩
   ·exact k1 e
   ·exact k3 ⟨_,_,_,_,_,_,g,by omega⟩
structure TreeF (b:S) (nd:Nd) (rw:List Int→Int) (idf:List Int→Nat) (c:Nat):Prop where
 node:zE2 b nd rw
 rng:∀ w a m,nd w=some (a,m)→a.toNat<b.nx.toNat∧m.toNat<b.nx.toNat
 ids:zJq b nd idf c
 inj:∀ w w' p p',nd w=some p→nd w'=some p'→p.1=p'.1∨p.2=p'.2→w=w'
 closed:∀ w z,nd (w++[z])≠none→nd w≠none
 lim:c<100
def wL (n:Nat):List Nat:=if n<10 then [48+n] else [48+n / 10,48+n % 10]
def qZ (l:List Nat):List Nat:=l.flatMap fun n=>wL n++[32]
structure NamesOK (nd:Nd) (idf:List Int→Nat) (G:List PS) (nl:LG (List Nat)):Prop where
 to:∀ q x,G[q]?=some x→x.fl=true→qh nl (qZ (x.rn.map idf))=some (iv .i64 (q:Nat))
 back:∀ k v,qh nl k=some v→∃ (q:Nat) (x:PS),G[q]?=some x∧x.fl=true∧k=qZ (x.rn.map idf)∧v=iv .i64 (q:Nat)
 sorted:∀ x∈G,x.fl=true→x.rn.Pairwise fun u w=>idf u<idf w
 nodes:∀ x∈G,∀ w∈x.rn,nd w≠none
structure GX where
 b:S
 nd:Nd
 gk:Go.Ev.K
 nm:Go.Ev.K
 G:List PS
 nl:LG (List Nat)
 nc:Nat
abbrev GX.R (x:GX) (s:S) (rb:Go.Ev.K→Prop):Prop:=GR x.b s x.nd x.gk x.nm x.G x.nl x.nc rb
abbrev y8 (nd:Nd) (L:List (List Int)):List (List V):=L.map fun w=>[ndV nd w]
def addSt (G:List PS) (q:Nat) (e:Stp):List PS:=G.modify q fun p=>⟨p.st++[e],p.fl,p.rn⟩
def qN:List PS→Nat→List Int→List Int→Nat→List PS
 | G,_,_,[],_=>G
 | G,q,i,[x],to=>addSt G q (i,x,to)
 | G,q,i,x::y::o,to=>qN (addSt (G++[⟨[],false,[]⟩]) q (i,x,G.length)) G.length [] (y::o) to
def ziB (nd:Nd) (rw:List Int→Int) (rn:List (List Int)) (i:List Int):Prop:=∃ r∈rn,∃ v,v≠[]∧v <+: i∧nd (r++v)≠none∧0≤rw (r++v)
def zEB (nd:Nd) (rn:List (List Int)) (i w:List Int):Prop:=(∃ r∈rn,w=r++i∧nd w≠none)∨(w=i∧nd i≠none)
def zNZ (nd:Nd) (rw:List Int→Int) (G:List PS) (rn:List (List Int)) (q:Nat) (i o:List Int) (G':List PS):Prop :=
 (ziB nd rw rn i∧G'=G)∨(¬ziB nd rw rn i∧∃ G1 to y,(G1=G∨G1=G++[⟨[],true,y.rn⟩])∧G1[to]?=some y∧y.fl=true∧(∀ w,w∈y.rn↔zEB nd rn i w)∧G'=qN G1 q i o to)
def zFU (G:List PS):Prop:=∀ x∈G,(∀ u∈x.rn,∀ w∈x.rn,u.length=w.length→u=w)∧∀ u∈x.rn,u≠[]
def zJu (nd:Nd) (rw:List Int→Int):Prop:=∀ w,nd w≠none→rw w<0→w.length≤12
noncomputable def KB:Nat→Ct
 | 95=>ctI (X:=Go.Ev.K × Go.Ev.K × V × V × V × V × Nat × Nat) (fun ⟨k,k',x,y,x',y',n,n'⟩ a s=>a=[.ptr k 0 0,.ptr k' 0 0]∧Tr.get B.none k s.h=.row [x,y,iv .i64 (n:Int)] 3 70 false 0 0 0∧Tr.get B.none k' s.h=.row [x',y',iv .i64 (n':Int)] 3 70 false 0 0 0∧n<100∧n'<100)
   (fun ⟨_,_,_,_,_,_,n,n'⟩ s v s'=>s'=s∧v=iv .i64 ((n:Int) - n'))
 | 186=>ctI (X:=S × Nd × (List Int→Int) × (List Int→Nat) × Nat × V × List (List Int)) (fun ⟨b,nd,rw,idf,c,v,L⟩ a s=>a=[v,iv .i64 0,iv .i64 (L.length:Int),.fn (.func 95) [] []]∧Ext b s∧TreeF b nd rw idf c∧Gz 66 1 b s v (y8 nd L)∧L.length≤12∧∀ w∈L,nd w≠none)
   (fun ⟨b,nd,_,idf,_,v,L⟩ s _ s'=>∃ L':List (List Int),L'.Perm L∧(L'.Pairwise fun u w=>idf u≤idf w)∧Gz 66 1 b s' v (y8 nd L')∧s'.nx=s.nx∧∀ c,zC v≠some c→Tr.get B.none c s'.h=Tr.get B.none c s.h)
 | 149=>ctI (X:=S × Nd × (List Int→Int) × (List Int→Nat) × Nat × V × List (List Int) × V) (fun ⟨b,nd,rw,idf,c,v,L,z⟩ a s=>a=[v,iv .i64 0,iv .i64 (L.length:Int),z,.fn (.func 95) [] []]∧Ext b s∧TreeF b nd rw idf c∧Gz 66 1 b s v (y8 nd L)∧L.length≤12∧∀ w∈L,nd w≠none)
   (fun ⟨b,nd,_,idf,_,v,L,_⟩ s _ s'=>∃ L':List (List Int),L'.Perm L∧(L'.Pairwise fun u w=>idf u≤idf w)∧Gz 66 1 b s' v (y8 nd L')∧s'.nx=s.nx∧∀ c,zC v≠some c→Tr.get B.none c s'.h=Tr.get B.none c s.h)
 | 94=>ctI (X:=S × Nd × (List Int→Int) × (List Int→Nat) × Nat × V × List (List Int)) (fun ⟨b,nd,rw,idf,c,v,L⟩ a s=>a=[v,.fn (.func 95) [] []]∧Ext b s∧TreeF b nd rw idf c∧Gz 66 1 b s v (y8 nd L)∧L.length≤12∧∀ w∈L,nd w≠none)
   (fun ⟨b,nd,_,idf,_,v,L⟩ s _ s'=>∃ L':List (List Int),L'.Perm L∧(L'.Pairwise fun u w=>idf u≤idf w)∧Gz 66 1 b s' v (y8 nd L')∧s'.nx=s.nx∧∀ c,zC v≠some c→Tr.get B.none c s'.h=Tr.get B.none c s.h)
 | 148=>ctI (X:=Nat) (fun n a _=>a=[iv .u64 (n:Int)]∧n<100) (fun _ s v s'=>s'=s∧∃ z,v=iv .i64 z)
 | 90=>ctI (X:=Nat) (fun n a _=>a=[iv .u64 (n:Int)]∧n<100) (fun _ s v s'=>s'=s∧∃ z,v=iv .i64 z)
 | 96=>ctI (X:=S × Nd × (List Int→Int) × (List Int→Nat) × Nat × V × List (List Int)) (fun ⟨b,nd,rw,idf,c,v,L⟩ a s=>a=[v]∧Ext b s∧TreeF b nd rw idf c∧Gz 66 1 b s v (y8 nd L)∧(∀ w∈L,nd w≠none)∧L.length≤12∧L.Nodup) (fun ⟨_,_,_,_,_,v,_⟩ s v' s'=>s'=s∧v'=v)
 | 99=>ctI (X:=S × V × List V) (fun ⟨b,v,L⟩ a s=>a=[v]∧Gz 66 1 b s v (L.map fun x=>[x])∧(∀ x∈L,x≠.bad)∧L.length≤68719476736) (fun ⟨_,_,L⟩ s v' s'=>Ext s s'∧(Gz 66 1 s s' v' (L.map fun x=>[x])∨(L=[]∧∃ a,v'=.sl a 0 0 0 0)))
 | 253=>ctI (X:=Nat) (fun n a _=>a=[iv .i64 (n:Int)]∧n<100) (fun n s v s'=>s'=s∧v=.str (wL n))
 | 194=>ctI (X:=Nat) (fun n a _=>a=[iv .i64 (n:Int),iv .i64 10]∧n<100) (fun n s v s'=>s'=s∧v=.str (wL n))
 | 150=>ctI (X:=Nat) (fun n a _=>a=[iv .i64 (n:Int)]∧n<100) (fun n s v s'=>s'=s∧v=.str (wL n))
 | 97=>ctI (X:=Nat) (fun n a _=>a=[iv .i64 (n:Int)]∧n<100) (fun n s v s'=>s'=s∧v=.str (wL n))
 | 98=>ctI (X:=GX × Bool × V × List (List Int) × (Go.Ev.K→Prop)) (fun ⟨x,fl,rv,rn,rb⟩ a s=>a=[.ptr x.gk 0 0,.bool fl,rv]∧x.R s rb∧Gz 66 1 x.b s rv (y8 x.nd rn)∧x.G.length+1≤68719476736)
   (fun ⟨x,fl,rv,rn,rb⟩ s v s'=>v=iv .i64 (x.G.length:Int)∧GR x.b s' x.nd x.gk x.nm (x.G++[⟨[],fl,rn⟩]) x.nl x.nc (fun c=>rb c∨zC rv=some c)∧Frm 66 x.b x.gk x.nm (fun _=>False) s s')
 | 53=>ctI (X:=GX × (List Int→Int) × (List Int→Nat) × Nat × V × List (List Int) × (Go.Ev.K→Prop))
   (fun ⟨x,rw,idf,c,rv,rn,rb⟩ a s=>a=[.ptr x.gk 0 0,rv]∧x.R s rb∧TreeF x.b x.nd rw idf c∧NamesOK x.nd idf x.G x.nl∧Gz 66 1 x.b s rv (y8 x.nd rn)∧(∀ w∈rn,x.nd w≠none)∧rn.Nodup∧rn.length≤12∧x.G.length+1≤68719476736∧∀ c,zC rv=some c→¬rb c)
   (fun ⟨x,_,idf,_,rv,rn,rb⟩ s v s'=>∃ (q:Nat) (G':List PS) (nl':LG (List Nat)) (nc':Nat) (y:PS),v=iv .i64 (q:Int)∧GR x.b s' x.nd x.gk x.nm G' nl' nc' (fun c=>rb c∨zC rv=some c)∧NamesOK x.nd idf G' nl'∧Frm 66 x.b x.gk x.nm (fun c=>zC rv=some c) s s'∧(G'=x.G∨G'=x.G++[⟨[],true,y.rn⟩])∧G'[q]?=some y∧y.fl=true∧∀ w,w∈y.rn↔w∈rn)
 | 54=>ctI (X:=GX × (List Int→Int) × (List Int→Nat) × Nat × Nat × PS × V × List Int × V × List Int × V)
   (fun ⟨x,rw,idf,c,q,p,inV,i,outV,o,nV⟩ a s=>a=[.ptr x.gk 0 0,iv .i64 (q:Int),inV,outV,nV]∧x.R s (fun _=>True)∧TreeF x.b x.nd rw idf c∧NamesOK x.nd idf x.G x.nl∧zFU x.G∧zJu x.nd rw∧x.G[q]?=some p∧p.fl=true∧wq x.b s x.gk x.nm inV i∧wq x.b s x.gk x.nm outV o∧i≠[]∧o≠[] ∧
    ((nV=.nil 0∧x.nd i=none)∨(x.nd i≠none∧nV=ndV x.nd i))∧x.G.length+o.length+1≤68719476736∧p.st.length+1≤68719476736)
   (fun ⟨x,rw,idf,_,q,p,_,i,_,o,_⟩ s _ s'=>∃ (G':List PS) (nl':LG (List Nat)) (nc':Nat),GR x.b s' x.nd x.gk x.nm G' nl' nc' (fun _=>True)∧NamesOK x.nd idf G' nl'∧Frm 66 x.b x.gk x.nm (fun _=>False) s s'∧zNZ x.nd rw x.G p.rn q i o G')
 | f=>K f
theorem zgs {L:Nat→Lt} {f:Nat} {X:Type} {pre:X→List V→S→Prop} {post:X→S→V→S→Prop} (hK:KB f=ctI pre post) (h:∀ x a s,pre x a s→∃ v s',(fnC zj f).run (Rk Tryz.prog KB L) a s=.ret v s'∧post x s v s'):zL Tryz.prog KB f:=zaj zG.1 zG.2 hK h
variable {idf:List Int→Nat} {c:Nat}
theorem TreeF.at_ {nd:Nd} {rw:List Int→Int} (h:TreeF b nd rw idf c) (e:Ext b s) {a m:Go.Ev.K} (hw:nd w=some (a,m)) :
  Tr.get B.none a s.h=.row [.ref 0 m,iv .i64 (rw w),iv .i64 (idf w:Int)] 3 70 false 0 0 0∧1≤idf w∧idf w<100:=by
 obtain ⟨⟨id,h1⟩,-⟩:=h.node w a m hw
 obtain ⟨i1,i2,x,h2⟩:=h.ids.1 w a m hw
 have:=h.lim
 refine ⟨(e.get a (h.rng w a m hw).1).trans ?_,i1,by omega⟩
 rw [h1] at h2 ⊢
 injection h2 with h2
 injection h2 with _ h2
 injection h2 with _ h2
 injection h2 with h2
 rw [h2]
theorem TreeF.later {nd:Nd} {rw:List Int→Int} (h:TreeF b nd rw idf c) (e:Ext b s):zE2 s nd rw:=fun w a m hw=>by
 obtain ⟨⟨id,h1⟩,es,ck,h2,h3⟩:=h.node w a m hw
 exact ⟨⟨id,(e.get a (h.rng w a m hw).1).trans h1⟩,es,ck,(e.get m (h.rng w a m hw).2).trans h2,h3⟩
theorem zII:zL Tryz.prog KB 95:=by
 refine zgs (L:=noL) (X:=Go.Ev.K × Go.Ev.K × V × V × V × V × Nat × Nat) rfl ?_
 rintro ⟨k,k',x,y,x',y',n,n'⟩ a s ⟨rfl,h1,h2,h3,h4⟩
 refine ⟨_,s,?_,rfl,rfl⟩
 generalize Rk Tryz.prog _ _=r
 have l1:∀ f:V→S→Go.Ev.A,zd false 1 (.ptr k 0 2) s f=f (iv .i64 (n:Int)) s:=fun f=>zw h1 2 rfl (by omega) (by simp [yN]) f
 have l2:∀ f:V→S→Go.Ev.A,zd false 1 (.ptr k' 0 2) s f=f (iv .i64 (n':Int)) s:=fun f=>zw h2 2 rfl (by omega) (by simp [yN]) f
 have hw:IntKind.i64.wrap ((n:Int) - n')=(n:Int) - n':=z9 (by omega) (by omega)
 simp -implicitDefEqProofs [zIN,l1,l2,hw]
theorem zLy:zL Tryz.prog KB 148:=by
 refine zgs (L:=noL) (X:=Nat) rfl ?_
 rintro n a s ⟨rfl,hn⟩
 generalize Rk Tryz.prog _ _=r
 have g1:¬(4294967296:Int)≤n:=by omega
 have g2:¬(65536:Int)≤n:=by omega
 have g3:¬(256:Int)≤n:=by omega
 have cv:∀ c:V→Go.Ev.A,yL .u8 (iv .u64 (n:Int)) c=c (iv .u8 (n:Int)):=fun c=>zqz .u8 .u64 (by show n<256;omega) c
 obtain ⟨T,hT⟩:∃ T:List Nat,T=[0,1,2,2,3,3,3,3,4,4,4,4,4,4,4,4,5,5,5,5,5,5,5,5,5,5,5,5,5,5,5,5,6,6,6,6,6,6,6,6,6,6,6,6,6,6,6,6,6,6,6,6,6,6,6,6,6,6,6,6,6,6,6,6,7,7,7,7,7,7,7,7,7,7,7,7,7,7,7,7,7,7,7,7,7,7,7,7,7,7,7,7,7,7,7,7,7,7,7,7,7,7,7,7,7,7,7,7,7,7,7,7,7,7,7,7,7,7,7,7,7,7,7,7,7,7,7,7,8,8,8,8,8,8,8,8,8,8,8,8,8,8,8,8,8,8,8,8,8,8,8,8,8,8,8,8,8,8,8,8,8,8,8,8,8,8,8,8,8,8,8,8,8,8,8,8,8,8,8,8,8,8,8,8,8,8,8,8,8,8,8,8,8,8,8,8,8,8,8,8,8,8,8,8,8,8,8,8,8,8,8,8,8,8,8,8,8,8,8,8,8,8,8,8,8,8,8,8,8,8,8,8,8,8,8,8,8,8,8,8,8,8,8,8,8,8,8,8,8,8,8,8,8,8,8,8]:=⟨_,rfl⟩
 have hlen:T.length=256:=by rw [hT];rfl
 have ix:∀ c:V→Go.Ev.A,zhQ (.str T) (iv .u8 (n:Int)) c=c (iv .u8 (T.getD n 0:Nat)):=fun c=>zND T .u8 (by omega) c
 have h8:T.getD n 0<256:=by
  have:∀ x∈T,x<256:=by rw [hT];decide
  rw [kan,kac (by omega)]
  exact this _ (kaI _)
 have cv2:∀ c:V→Go.Ev.A,yL .i64 (iv .u8 (T.getD n 0:Nat)) c=c (iv .i64 (T.getD n 0:Nat)):=fun c=>zqz .i64 .u8 (by show _<9223372036854775808;omega) c
 rw [hT] at ix
 refine ⟨iv .i64 (IntKind.i64.wrap (0+(T.getD n 0:Nat))),s,?_,rfl,_,rfl⟩
 simp -implicitDefEqProofs [zJ4,g1,g2,g3,cv]
 rw [ix]
 rw [←hT,cv2,zNu]
 simp -implicitDefEqProofs
theorem zN9:zL Tryz.prog KB 90:=by
 refine zgs (L:=noL) (X:=Nat) rfl ?_
 rintro n a s ⟨rfl,hn⟩
 have hC:=qV (zQ (L:=noL) zLy) (X:=Nat) rfl
 generalize Rk Tryz.prog _ _=r at hC ⊢
 obtain ⟨v,s1,h1,rfl,z,rfl⟩:=hC n [iv .u64 (n:Int)] s ⟨rfl,hn⟩
 exact ⟨_,s1,by simp -implicitDefEqProofs [zNx,h1],rfl,z,rfl⟩
theorem zID {α:Type} {l:List α} {j:Nat} {x y:α} (hx:l[j]?=some x) (hy:l[j+1]?=some y):((l.set (j+1) x).set j y).Perm l:=by
 have hl:j+1<l.length:=(kad.1 hy).1
 have e1:l=l.take j++x::y::l.drop (j+2):=by
  apply kaG
  intro k
  rcases Nat.lt_trichotomy k j with g | g | g
  ·rw [kam (by simp;omega),List.getElem?_take_of_lt g]
  ·subst g
   rw [kax (by simp;omega),hx]
   simp [show k - min k l.length=0 by omega]
  ·rw [kax (by simp;omega)]
   rw [List.length_take,Nat.min_eq_left (by omega)]
   rcases kaq k (j+2) with g2 | g2
   ·have:k=j+1:=by omega
    subst this
    rw [show j+1 - j=1 by omega,hy];rfl
   ·obtain ⟨d,rfl⟩:∃ d,k=j+2+d:=⟨k - (j+2),by omega⟩
    rw [show j+2+d - j=d+2 by omega]
    simp
 have e2:(l.set (j+1) x).set j y=l.take j++y::x::l.drop (j+2):=by
  apply kaG
  intro k
  rcases Nat.lt_trichotomy k j with g | g | g
  ·rw [List.getElem?_set_ne (by omega),List.getElem?_set_ne (by omega),kam (by simp;omega),List.getElem?_take_of_lt g]
  ·subst g
   rw [List.getElem?_set_self (by simp;omega),kax (by simp;omega)]
   simp [show k - min k l.length=0 by omega]
  ·rw [List.getElem?_set_ne (by omega),kax (by simp;omega)]
   rw [List.length_take,Nat.min_eq_left (by omega)]
   rcases kaq k (j+2) with g2 | g2
   ·have:k=j+1:=by omega
    subst this
    rw [List.getElem?_set_self (by omega),show j+1 - j=1 by omega];rfl
   ·obtain ⟨d,rfl⟩:∃ d,k=j+2+d:=⟨k - (j+2),by omega⟩
    rw [List.getElem?_set_ne (by omega),show j+2+d - j=d+2 by omega]
    simp
 rw [e2]
 conv=>rhs;rw [e1]
 exact List.Perm.append_left _ (List.Perm.swap _ _ _)
structure InsX where
 b:S
 nd:Nd
 rw:List Int→Int
 idf:List Int→Nat
 c:Nat
 v:V
 L:List (List Int)
 s0:S
 M:List (List Int)
 i:Nat
 j:Nat
def zgd (idf:List Int→Nat) (M:List (List Int)) (p:Nat):Nat:=idf (M.getD p [])
def zeP (idf:List Int→Nat) (M:List (List Int)) (k:Nat):Prop:=∀ p q,p<q→q≤k→zgd idf M p≤zgd idf M q
def InsX.ok (x:InsX) (s:S):Prop:=Ext x.b s∧TreeF x.b x.nd x.rw x.idf x.c∧Gz 66 1 x.b s x.v (y8 x.nd x.M)∧x.L.length≤12∧(∀ w∈x.L,x.nd w≠none)∧x.M.Perm x.L∧s.nx=x.s0.nx∧∀ c,zC x.v≠some c→Tr.get B.none c s.h=Tr.get B.none c x.s0.h
def InsX.fr (x:InsX) (tm:T):Prop:=gp 0 tm=x.v∧gp 1 tm=iv .i64 0∧gp 2 tm=iv .i64 (x.L.length:Int)∧gp 3 tm=.fn (.func 95) [] []∧gp 8 tm=iv .i64 (x.i:Int)∧gp 240 tm=.bad
def InsX.in_ (x:InsX) (a:Go.Ev.A):Prop:=∃ tm s M,a=.ext 2 tm s∧x.fr tm∧InsX.ok { x with M:=M } s∧zeP x.idf M x.i
def InsX.out (x:InsX) (a:Go.Ev.A):Prop:=∃ tm s M,a=.ext 0 tm s∧gp 240 tm=.bad∧InsX.ok { x with M:=M } s∧zeP x.idf M (x.L.length - 1)
def InsX.pre1 (x:InsX) (tm:T) (s:S):Prop:=x.fr tm∧x.ok s∧x.i<x.L.length∧gp 9 tm=iv .i64 (x.j:Int)∧x.j≤x.i∧(∀ p q,p<q→q≤x.i→p≠x.j→q≠x.j→zgd x.idf x.M p≤zgd x.idf x.M q)∧∀ q,x.j<q→q≤x.i→zgd x.idf x.M x.j≤zgd x.idf x.M q
def InsX.pre0 (x:InsX) (tm:T) (s:S):Prop:=x.fr tm∧x.ok s∧1≤x.i∧(x.i≤x.L.length∨x.i=1)∧zeP x.idf x.M (x.i - 1)
noncomputable def zyB:Nat→Lt
 | 49=>ltI InsX.pre1 InsX.in_
 | _=>ltI InsX.pre0 InsX.out
variable {M:List (List Int)}
theorem zcu {p:Nat} (h:M[p]?=some w):zgd idf M p=idf w:=by
 unfold zgd
 rw [kan,h];rfl
theorem InsX.nodes {x:InsX} (h:x.ok s) {p:Nat} (hp:p<x.L.length):∃ w a m,x.M[p]?=some w∧(y8 x.nd x.M)[p]?=some [.ptr a 0 0]∧ndV x.nd w=.ptr a 0 0∧Tr.get B.none a s.h=.row [.ref 0 m,iv .i64 (x.rw w),iv .i64 (x.idf w:Int)] 3 70 false 0 0 0∧x.idf w<100:=by
 obtain ⟨h1,h2,h3,h4,h5,h6,h7,h8⟩:=h
 have hl:p<x.M.length:=by rw [h6.length_eq];exact hp
 have hm:x.M[p]∈x.L:=h6.mem_iff.1 (kaI hl)
 obtain ⟨⟨a,m⟩,hw⟩:=kaz.1 (h5 _ hm)
 obtain ⟨g1,g2,g3⟩:=h2.at_ h1 hw
 have hv:ndV x.nd x.M[p]=.ptr a 0 0:=by unfold ndV;rw [hw]
 exact ⟨x.M[p],a,m,kac hl,by rw [kal,kac hl];simp [hv],hv,g1,g3⟩
theorem zJy:∀ (x:InsX) tm s,x.pre1 tm s→x.in_ (zem.run (Rk Tryz.prog KB zyB) tm s):=by
 refine y9 (L:=zyB) zG.1 zG.2 zIk (X:=InsX) rfl (fun tm _=>(toI (gp 9 tm)).toNat) (fun x a ⟨_,_,_,h,_⟩=>by rw [h];exact fun h=>h) ?_
 rintro ⟨b,nd,rw_,idf,c,v,L,s0,M,i,j⟩ tm s ⟨hfr,hok,hi,h9,hj,hs1,hs2⟩ IH
 show InsX.in_ _ (zem.run _ tm s)
 have hC:=qV (zQ (L:=zyB) zII) (X:=Go.Ev.K × Go.Ev.K × V × V × V × V × Nat × Nat) rfl
 generalize Rk Tryz.prog _ _=r at IH hC ⊢
 obtain ⟨h0,h1,h2,h3,h8,h240⟩:=hfr
 simp only at h0 h1 h2 h3 h8 h9 hi hj hs1 hs2
 by_cases hj0:0<j
 ·obtain ⟨k,rfl⟩:∃ k,j=k+1:=⟨j - 1,by omega⟩
  obtain ⟨u,au,mu,u1,u2,u3,u4,u5⟩:=InsX.nodes (x:=⟨b,nd,rw_,idf,c,v,L,s0,M,i,k+1⟩) hok (p:=k+1) (by simp only;omega)
  obtain ⟨w,aw,mw,w1,w2,w3,w4,w5⟩:=InsX.nodes (x:=⟨b,nd,rw_,idf,c,v,L,s0,M,i,k+1⟩) hok (p:=k) (by simp only;omega)
  simp only at u1 u2 u3 u4 u5 w1 w2 w3 w4 w5
  have hz:=hok.2.2.1
  simp only at hz
  have hlen:(y8 nd M).length=L.length:=by rw [kai];exact hok.2.2.2.2.2.1.length_eq
  have hL12:L.length≤12:=hok.2.2.2.1
  have hwr:IntKind.i64.wrap (((k+1:Nat):Int) - 1)=(k:Int):=by rw [z9 (by omega) (by omega)];omega
  have ix1:∀ kk (f:V→Go.Ev.A),zg 1 v (iv kk ((k+1:Nat):Int)) f=f (jy v (k+1)):=fun kk f=>by rw [hz.idx (by omega),kaK]
  have ix0:∀ kk (f:V→Go.Ev.A),zg 1 v (iv kk (k:Int)) f=f (jy v k):=fun kk f=>by rw [hz.idx (by omega),kaK]
  have ld1:∀ f:V→S→Go.Ev.A,zd false 1 (jy v (k+1)) s f=f (.ptr au 0 0) s:=fun f=>hz.load1 u2 (by intro e;cases e) f
  have ld0:∀ f:V→S→Go.Ev.A,zd false 1 (jy v k) s f=f (.ptr aw 0 0) s:=fun f=>hz.load1 w2 (by intro e;cases e) f
  obtain ⟨vv,s1,hc,rfl,rfl⟩:=hC (au,aw,_,_,_,_,idf u,idf w) [.ptr au 0 0,.ptr aw 0 0] s ⟨rfl,u4,w4,u5,w5⟩
  have hgt:(0:Int)<((k+1:Nat):Int):=by omega
  have hpos:((0:Int)<((k+1:Nat):Int))=True:=eq_true hgt
  by_cases hlt:idf u<idf w
  ·have hlt':((idf u:Int) - idf w<0)=True:=eq_true (by omega)
   obtain ⟨s2,st1,hz2,hn2,hk2⟩:=hz.store1 (i:=k+1) (by omega) (y:=.ptr aw 0 0) (zc7 aw 0 0)
   obtain ⟨s3,st2,hz3,hn3,hk3⟩:=hz2.store1 (i:=k) (by rw [List.length_set];omega) (y:=.ptr au 0 0) (zc7 au 0 0)
   have hcont:((y8 nd M).set (k+1) [.ptr aw 0 0]).set k [.ptr au 0 0]=y8 nd ((M.set (k+1) w).set k u):=by
    simp only [y8,List.map_set,u3,w3]
   rw [hcont] at hz3
   have hperm:((M.set (k+1) w).set k u).Perm M:=zID w1 u1
   simp -implicitDefEqProofs [zjj,ze7,h0,h1,h3,h9,hwr,hlt',ix1,ix0,ld1,ld0,hc,st1,st2,-Int.natCast_add]
   refine IH ⟨b,nd,rw_,idf,c,v,L,s0,(M.set (k+1) w).set k u,i,k⟩ _ s3 ?_ ⟨⟨?_,?_,?_,?_,?_,?_⟩,⟨?_,hok.2.1,hz3,hok.2.2.2.1,hok.2.2.2.2.1,hperm.trans hok.2.2.2.2.2.1,?_,?_⟩,hi,?_,by simp only;omega,?_,?_⟩
   ·rw [h9,zn];simp [zn,-Int.natCast_add]
   ·simp [h0]
   ·simp [h1]
   ·simp [h2]
   ·simp [h3]
   ·simp [h8]
   ·simp [h240]
   ·obtain ⟨e1,e2⟩:=hok.1
    simp only at e1 e2 ⊢
    refine ⟨by rw [hn3,hn2];exact e1,fun a ha=>?_⟩
    have hb:zC v≠some a:=fun hh=>by have:=(hz.blk hh).1;omega
    rw [hk3 a hb,hk2 a hb];exact e2 a ha
   ·rw [hn3,hn2];exact hok.2.2.2.2.2.2.1
   ·intro a ha
    simp only at ha ⊢
    rw [hk3 a ha,hk2 a ha];exact hok.2.2.2.2.2.2.2 a ha
   ·simp
   all_goals
    have zY:∀ p,zgd idf ((M.set (k+1) w).set k u) p=if p=k then idf u else if p=k+1 then idf w else zgd idf M p:=fun p=>by
     unfold zgd
     have hk1:k+1<M.length:=(kad.1 u1).1
     rw [kan,List.getElem?_set,List.getElem?_set]
     by_cases g1:p=k
     ·subst g1
      rw [if_pos rfl,if_pos (by rw [List.length_set];omega),if_pos rfl];rfl
     ·rw [if_neg (fun e=>g1 e.symm),if_neg g1]
      by_cases g2:p=k+1
      ·subst g2
       rw [if_pos rfl,if_pos hk1,if_pos rfl];rfl
      ·rw [if_neg (fun e=>g2 e.symm),if_neg g2,←kan]
    have iu:zgd idf M (k+1)=idf u:=zcu u1
    have iw:zgd idf M k=idf w:=zcu w1
    simp only
   ·intro p q hpq hqi hpk hqk
    rw [zY,zY,if_neg hpk,if_neg hqk]
    by_cases g1:p=k+1
    ·rw [if_pos g1,if_neg (by omega),←iw]
     exact hs1 k q (by omega) hqi (by omega) (by omega)
    ·rw [if_neg g1]
     by_cases g2:q=k+1
     ·rw [if_pos g2,←iw]
      exact hs1 p k (by omega) (by omega) (by omega) (by omega)
     ·rw [if_neg g2]
      exact hs1 p q hpq hqi g1 g2
   ·intro q hq hqi
    rw [zY,zY,if_pos rfl,if_neg (by omega)]
    by_cases g2:q=k+1
    ·rw [if_pos g2];omega
    ·rw [if_neg g2,←iu]
     exact hs2 q (by omega) hqi
  ·have hlt':((idf u:Int) - idf w<0)=False:=eq_false (by omega)
   simp -implicitDefEqProofs [zjj,ze7,h0,h1,h3,h9,hwr,hlt',ix1,ix0,ld1,ld0,hc,-Int.natCast_add]
   refine ⟨_,_,M,rfl,⟨?_,?_,?_,?_,?_,?_⟩,hok,?_⟩
   ·simp [h0]
   ·simp [h1]
   ·simp [h2]
   ·simp [h3]
   ·simp [h8]
   ·simp [h240]
   ·simp only
    have iu:zgd idf M (k+1)=idf u:=zcu u1
    have iw:zgd idf M k=idf w:=zcu w1
    intro p q hpq hqi
    by_cases g1:p=k+1
    ·rw [g1];exact hs2 q (by omega) hqi
    ·by_cases g2:q=k+1
     ·rw [g2]
      by_cases g3:p=k
      ·rw [g3];omega
      ·have:=hs1 p k (by omega) (by omega) g1 (by omega)
       omega
     ·exact hs1 p q hpq hqi g1 g2
 ·obtain rfl:j=0:=by omega
  have hpos:((0:Int)<((0:Nat):Int))=False:=eq_false (by omega)
  simp -implicitDefEqProofs [zjj,ze7,h1,h9]
  refine ⟨_,s,M,rfl,⟨?_,?_,?_,?_,?_,?_⟩,hok,?_⟩
  ·simp [h0]
  ·simp [h1]
  ·simp [h2]
  ·simp [h3]
  ·simp [h8]
  ·simp [h240]
  ·intro p q hpq hqi
   by_cases g1:p=0
   ·rw [g1];exact hs2 q (by omega) hqi
   ·exact hs1 p q hpq hqi g1 (by omega)
theorem zK4:∀ (x:InsX) tm s,x.pre0 tm s→x.out (zhR.run (Rk Tryz.prog KB zyB) tm s):=by
 refine y9 (L:=zyB) zG.1 zG.2 zLB (X:=InsX) rfl (fun tm _=>13 - (toI (gp 8 tm)).toNat) (fun x a ⟨_,_,_,h,_⟩=>by rw [h];exact fun h=>h) ?_
 rintro ⟨b,nd,rw_,idf,c,v,L,s0,M,i,j⟩ tm s ⟨hfr,hok,hi1,hi,hs⟩ IH
 show InsX.out _ (zhR.run _ tm s)
 have hIn:=zJy
 generalize Rk Tryz.prog _ _=r at IH hIn ⊢
 obtain ⟨h0,h1,h2,h3,h8,h240⟩:=hfr
 simp only at h0 h1 h2 h3 h8 hi1 hi hs
 have hL12:L.length≤12:=hok.2.2.2.1
 by_cases hlt:i<L.length
 ·have hlt':((i:Int)<(L.length:Int))=True:=eq_true (by omega)
  have hw:IntKind.i64.wrap ((i:Int)+1)=((i+1:Nat):Int):=by rw [z9 (by omega) (by omega)];omega
  simp -implicitDefEqProofs [zBO,ze7,h2,h8,hlt',-Int.natCast_add]
  generalize hA:zem.run r _ s=A1
  have:=hA▸hIn ⟨b,nd,rw_,idf,c,v,L,s0,M,i,i⟩ _ s ⟨⟨by simp [h0],by simp [h1],by simp [h2],by simp [h3],by simp [h8],by simp [h240]⟩,hok,hlt,by simp,kab _,fun p q hpq hqi hp hq=>hs p q hpq (by simp only at hqi hq;omega),fun q h1 h2=>by simp only at h1 h2;omega⟩
  obtain ⟨tm',s',M',rfl,⟨k0,k1,k2,k3,k8,k240⟩,hok',hs'⟩:=this
  simp only at k0 k1 k2 k3 k8 hs'
  simp -implicitDefEqProofs [k8,hw,-Int.natCast_add]
  refine IH ⟨b,nd,rw_,idf,c,v,L,s0,M',i+1,0⟩ _ s' ?_ ⟨⟨?_,?_,?_,?_,?_,?_⟩,hok',by simp only;omega,.inl (by simp only;omega),by simpa using hs'⟩
  ·rw [h8,zn];simp [zn,-Int.natCast_add];omega
  ·simp [k0]
  ·simp [k1]
  ·simp [k2]
  ·simp [k3]
  ·simp
  ·simp [k240]
 ·have hlt':((i:Int)<(L.length:Int))=False:=eq_false (by omega)
  simp -implicitDefEqProofs [zBO,ze7,h2,h8,hlt']
  refine ⟨_,_,M,rfl,by simp [h240],hok,fun p q hpq hq=>hs p q hpq ?_⟩
  simp only at hq
  omega
theorem zBc (h:zeP idf M (M.length - 1)):M.Pairwise fun u w=>idf u≤idf w:=by
 rw [List.pairwise_iff_getElem]
 intro i j hi hj hij
 have:=h i j hij (by omega)
 rwa [zcu (kac hi),zcu (kac hj)] at this
theorem zMA:zL Tryz.prog KB 186:=by
 refine zgs (L:=zyB) (X:=S × Nd × (List Int→Int) × (List Int→Nat) × Nat × V × List (List Int)) rfl ?_
 rintro ⟨b,nd,rw_,idf,c,v,L⟩ a s ⟨rfl,hE,hT,hz,hl,hn⟩
 have hO:=zK4
 generalize Rk Tryz.prog _ _=r at hO ⊢
 suffices h:∃ v' s',(fnC zj 186).run r [v,iv .i64 0,iv .i64 (L.length:Int),.fn (.func 95) [] []] s=.ret v' s'∧∃ M,InsX.ok ⟨b,nd,rw_,idf,c,v,L,s,M,0,0⟩ s'∧zeP idf M (L.length - 1) by
  obtain ⟨v',s',h1,M,h2,h3⟩:=h
  obtain ⟨-,-,g1,-,-,g2,g3,g4⟩:=h2
  simp only at g1 g2 g3 g4
  rw [←g2.length_eq] at h3
  exact ⟨v',s',h1,M,g2,zBc h3,g1,g3,g4⟩
 have hw:IntKind.i64.wrap (1:Int)=1:=z9 (by omega) (by omega)
 simp -implicitDefEqProofs [ze7,hw]
 generalize hA:zhR.run r _ s=A1
 have:=hA▸hO ⟨b,nd,rw_,idf,c,v,L,s,L,1,0⟩ _ s ⟨⟨by simp,by simp,by simp,by simp,by simp,by simp⟩,⟨hE,hT,hz,hl,hn,List.Perm.refl _,rfl,fun _ _=>rfl⟩,kab _,.inr rfl,fun p q h1 h2=>by simp only at h2;omega⟩
 obtain ⟨tm',s',M',rfl,k240,hok',hs'⟩:=this
 exact ⟨_,s',by simp [k240];rfl,M',hok',hs'⟩
theorem zMv:zL Tryz.prog KB 149:=by
 refine zgs (L:=noL) (X:=S × Nd × (List Int→Int) × (List Int→Nat) × Nat × V × List (List Int) × V) rfl ?_
 rintro ⟨b,nd,rw_,idf,c,v,L,z⟩ a s ⟨rfl,hE,hT,hz,hl,hn⟩
 have hC:=qV (zQ (L:=noL) zMA) (X:=S × Nd × (List Int→Int) × (List Int→Nat) × Nat × V × List (List Int)) rfl
 generalize Rk Tryz.prog _ _=r at hC ⊢
 obtain ⟨w,s1,h1,h2⟩:=hC (b,nd,rw_,idf,c,v,L) _ s ⟨rfl,hE,hT,hz,hl,hn⟩
 have hw:IntKind.i64.wrap (L.length:Int)=(L.length:Int):=z9 (by omega) (by omega)
 have h12:((L.length:Int)≤12)=True:=eq_true (by omega)
 exact ⟨Go.Ev.undef,s1,by simp -implicitDefEqProofs [zMx,zLb,hw,h12,h1],h2⟩
theorem zJo:zL Tryz.prog KB 94:=by
 refine zgs (L:=noL) (X:=S × Nd × (List Int→Int) × (List Int→Nat) × Nat × V × List (List Int)) rfl ?_
 rintro ⟨b,nd,rw_,idf,c,v,L⟩ a s ⟨rfl,hE,hT,hz,hl,hn⟩
 have hC:=qV (zQ (L:=noL) zMv) (X:=S × Nd × (List Int→Int) × (List Int→Nat) × Nat × V × List (List Int) × V) rfl
 have hB:=qV (zQ (L:=noL) zN9) (X:=Nat) rfl
 generalize Rk Tryz.prog _ _=r at hC hB ⊢
 have hlen:∀ f:V→Go.Ev.A,zz v f=f (iv .i64 (L.length:Int)):=fun f=>by rw [hz.len,kai]
 have cv:∀ f:V→Go.Ev.A,yL .u64 (iv .i64 (L.length:Int)) f=f (iv .u64 (L.length:Int)):=fun f=>zqz .u64 .i64 (by show L.length<18446744073709551616;omega) f
 obtain ⟨z,s1,h1,rfl,z',rfl⟩:=hB L.length [iv .u64 (L.length:Int)] s ⟨rfl,by omega⟩
 obtain ⟨w,s2,h3,h4⟩:=hC (b,nd,rw_,idf,c,v,L,iv .i64 z') _ s1 ⟨rfl,hE,hT,hz,hl,hn⟩
 exact ⟨Go.Ev.undef,s2,by simp -implicitDefEqProofs [zKv,hlen,cv,h1,h3],h4⟩
end Go.Proofs.YtlklljjppambpaaGreatDoor.oev
