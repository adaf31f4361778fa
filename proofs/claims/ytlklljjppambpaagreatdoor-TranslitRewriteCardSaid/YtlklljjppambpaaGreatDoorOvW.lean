/- The contracts of the functions that the statements reach, for all arguments. No statement of the seat stands here. Conditions: the arguments are as their types say. By an AI agent. -/
import Derived.Test.YtlklljjppambpaaGreatDoorOvU1
namespace Go.Proofs.YtlklljjppambpaaGreatDoor.oev
open Go.Ev Go.RowKit
set_option maxRecDepth 100000
def okSym (lim:Int) (w:List Int):Prop:=∀ x,x∈w→1≤x∧x≤lim
def jq (w:List Int):Prop:=w.length≤200∧okSym 500 w
def okRow (F T:Nat→List Int) (i:Nat):Prop:=1≤(F i).length∧(F i).length≤20∧(T i).length≤20∧okSym 500 (F i)∧okSym 500 (T i)∧∀ k,k<i→F i≠F k
def wx (n:Nat) (F T:Nat→List Int):Prop:=1≤n∧n≤20∧∀ i,i<n→okRow F T i
def okTab (s:S) (v:V):Prop:=wx (lenV v) (fromV s v) (toV s v)
theorem wI {n:Nat} {F T F' T':Nat→List Int} (hF:∀ i,i<n→F' i=F i) (hT:∀ i,i<n→T' i=T i):wx n F' T'↔wx n F T:=by
 unfold wx
 refine and_congr_right fun _=>and_congr_right fun _=>forall_congr' fun i=>imp_congr_right fun hi=>?_
 unfold okRow
 rw [hF i hi,hT i hi]
 refine and_congr_right fun _=>and_congr_right fun _=>and_congr_right fun _=>and_congr_right fun _=>and_congr_right fun _=>forall_congr' fun k=>imp_congr_right fun hk=>?_
 rw [hF k (by omega)]
def zDp (F:Nat→List Int) (n:Nat) (x:List Int) (j:Nat):Prop:=j<n∧F j <+: x∧∀ k,k<n→F k <+: x→(F k).length≤(F j).length
def StepP (F T:Nat→List Int) (n:Nat) (x:List Int) (k:Nat) (out:List Int):Prop:=(∃ j,zDp F n x j∧k=(F j).length∧out=T j)∨((∀ j,j<n→¬F j <+: x)∧k=1∧out=x.take 1)
inductive ResP (F T:Nat→List Int) (n:Nat):List Int→List Int→Prop
 | nil:ResP F T n [] []
 | step {x y out:List Int} {k:Nat}:x≠[]→StepP F T n x k out→ResP F T n (x.drop k) y→ResP F T n x (out++y)
def ApP (F T:Nat→List Int) (n:Nat) (x y:List Int) (e:Int):Prop :=
 (¬(wx n F T∧jq x)∧e=1∧y=[])∨((wx n F T∧jq x)∧∃ z,ResP F T n x z∧((z.length≤200∧e=0∧y=z)∨(200<z.length∧e=2∧y=[])))
section
variable {F T:Nat→List Int} {n:Nat}
theorem zGx (h:wx n F T) {i j:Nat} (hi:i<n) (hj:j<n) (e:F i=F j):i=j:=by
 rcases Nat.lt_trichotomy i j with g | g | g
 ·exact absurd e.symm ((h.2.2 j hj).2.2.2.2.2 i g)
 ·exact g
 ·exact absurd e ((h.2.2 i hi).2.2.2.2.2 j g)
theorem zOl {u v x:List Int} (hu:u <+: x) (hv:v <+: x) (e:u.length=v.length):u=v:=by
 rw [List.prefix_iff_eq_take.1 hu,List.prefix_iff_eq_take.1 hv,e]
theorem zKd (h:wx n F T) {x:List Int} {i j:Nat} (hi:zDp F n x i) (hj:zDp F n x j):i=j :=
 zGx h hi.1 hj.1 (zOl hi.2.1 hj.2.1 (Nat.le_antisymm (hj.2.2 i hi.1 hi.2.1) (hi.2.2 j hj.1 hj.2.1)))
theorem zKi (h:wx n F T) {x out out':List Int} {k k':Nat} (h1:StepP F T n x k out) (h2:StepP F T n x k' out'):k=k'∧out=out':=by
 rcases h1 with ⟨j,hj,rfl,rfl⟩ | ⟨hn,rfl,rfl⟩
 ·rcases h2 with ⟨j',hj',rfl,rfl⟩ | ⟨hn,rfl,rfl⟩
  ·obtain rfl:=zKd h hj hj';exact ⟨rfl,rfl⟩
  ·exact absurd hj.2.1 (hn j hj.1)
 ·rcases h2 with ⟨j',hj',rfl,rfl⟩ | ⟨hn,rfl,rfl⟩
  ·exact absurd hj'.2.1 (hn j' hj'.1)
  ·exact ⟨rfl,rfl⟩
theorem zMl (h:wx n F T) {x y y':List Int} (h1:ResP F T n x y) (h2:ResP F T n x y'):y=y':=by
 induction h1 generalizing y' with
 | nil=>cases h2 with
  | nil=>rfl
  | step hx=>exact absurd rfl hx
 | step hx hs _ ih=>cases h2 with
  | nil=>exact absurd rfl hx
  | step _ hs' hr =>
   obtain ⟨rfl,rfl⟩:=zKi h hs hs'
   rw [ih hr]
theorem zMV (h:wx n F T) {x out:List Int} {k:Nat} (hx:x≠[]) (h1:StepP F T n x k out):1≤k∧k≤x.length∧out.length≤20:=by
 have:1≤x.length:=by cases x with | nil=>exact absurd rfl hx | cons=>simp
 rcases h1 with ⟨j,hj,rfl,rfl⟩ | ⟨_,rfl,rfl⟩
 ·exact ⟨(h.2.2 j hj.1).1,hj.2.1.length_le,(h.2.2 j hj.1).2.2.1⟩
 ·exact ⟨Nat.le_refl _,this,by simp;omega⟩
theorem zHd {F' T':Nat→List Int} (hF:∀ i,i<n→F' i=F i) (hT:∀ i,i<n→T' i=T i) {x out:List Int} {k:Nat} (h:StepP F' T' n x k out):StepP F T n x k out:=by
 rcases h with ⟨j,⟨b1,b2,b3⟩,b4,b5⟩ | ⟨b1,b2⟩
 ·exact .inl ⟨j,⟨b1,hF j b1▸b2,fun k hk hp=>by
   have:=b3 k hk (by rw [hF k hk];exact hp)
   rwa [hF k hk,hF j b1] at this⟩,by rw [b4,hF j b1],by rw [b5,hT j b1]⟩
 ·exact .inr ⟨fun j hj hp=>b1 j hj (by rw [hF j hj];exact hp),b2⟩
theorem zAC {F' T':Nat→List Int} (hF:∀ i,i<n→F' i=F i) (hT:∀ i,i<n→T' i=T i) {x y:List Int} (h:ResP F' T' n x y):ResP F T n x y:=by
 induction h with
 | nil=>exact .nil
 | step h1 h2 _ ih=>exact .step h1 (zHd hF hT h2) ih
end
theorem pcOk0:PcOk Tryz.prog pc0∧pc0.hooks=[]:=by
 unfold pc0 pc
 exact zIK (by kernel_rfl) (by kernel_rfl) (by kernel_rfl) (by kernel_rfl) (by kernel_rfl)
def cmpR (x y:Nat→Int):Nat→Nat→Int
 | 0,_=>0
 | n+1,i=>if x i<y i then -1 else if y i<x i then 1 else cmpR x y n (i+1)
def cmpW (x y:Nat→Int) (n m:Nat):Int:=if n=m then cmpR x y n 0 else if n<m then -1 else 1
def jm (z:Int) (s:S) (a:A):Prop:=(z=0∧∃ tm',a=.ext 0 tm' s∧gp 240 tm'=.bad)∨(z≠0∧∃ tm',a=.ret tm' s∧gp 240 tm'=.bad∧gp 4 tm'=iv .i64 z)
theorem jm.nb {z:Int} {s:S} {a:A} (h:jm z s a):¬a.isBad:=by
 rcases h with ⟨_,tm,rfl,_⟩ | ⟨_,tm,rfl,_⟩<;>exact fun h=>h
def zbJ (vx vy:V) (s:S):FI→Code→T→S→A→Prop:=fun _ _ tm _ a=>∀ i:Nat,i≤lenV vx→gp 5 tm=iv .i64 i→jm (cmpR (intV s vx) (intV s vy) (lenV vx - i) i) s a
theorem zF3 {vx vy:V} {s:S} (hx:Ints s vx) (hy:Ints s vy) (hl:lenV vx=lenV vy) (tm:T) (s':S) (h:s'=s∧gp 0 tm=vx∧gp 1 tm=vy∧gp 240 tm=.bad∧∃ i:Nat,i≤lenV vx∧gp 5 tm=iv .i64 i) :
  zbJ vx vy s jT za4 tm s' (qV.run (Rq Tryz.prog (fun _ _ _ _ _=>True) (zbJ vx vy s)) tm s'):=by
 refine (zrI pcOk0.1 pcOk0.2 (fun _ _ _ _ _=>True) (zbJ vx vy s) (fun tm s'=>s'=s∧gp 0 tm=vx∧gp 1 tm=vy∧gp 240 tm=.bad∧∃ i:Nat,i≤lenV vx∧gp 5 tm=iv .i64 i) (fun tm _=>lenV vx - (toI (gp 5 tm)).toNat) ?_ tm s' h).2
 clear h tm s'
 rintro tm s' ⟨rfl,h0,h1,h240,i,hi,h5⟩ IH
 show ¬(qV.run _ tm s').isBad∧zbJ vx vy s' _ _ tm s' (qV.run _ tm s')
 generalize hr:Rq Tryz.prog _ _=r at IH ⊢
 suffices h:jm (cmpR (intV s' vx) (intV s' vy) (lenV vx - i) i) s' (qV.run r tm s') from ⟨h.nb,fun j _ hj=>by
  have:=congrArg toI (hj.symm.trans h5)
  rw [zp,zp] at this
  rw [show j=i by omega];exact h⟩
 have hw:i<lenV vx→IntKind.i64.wrap ((i:Int)+1)=(i:Int)+1:=fun h=>zD (by omega) (by have:=hx.2.1;omega)
 by_cases hlt:i<lenV vx
 ·obtain ⟨p,hp,hP⟩:=hx.at_ hlt
  obtain ⟨q,hq,hQ⟩:=hy.at_ (hl▸hlt)
  obtain ⟨d,hd⟩:∃ d,lenV vx - i=d+1:=⟨lenV vx - i - 1,by omega⟩
  have IH':∀ tm',gp 0 tm'=vx→gp 1 tm'=vy→gp 240 tm'=.bad→gp 5 tm'=iv .i64 ((i:Int)+1)→jm (cmpR (intV s' vx) (intV s' vy) d (i+1)) s' (r.code jT za4 tm' s'):=by
   intro tm' k0 k1 k240 k5
   have k5':gp 5 tm'=iv .i64 ((i+1:Nat):Int):=k5
   rw [show d=lenV vx - (i+1) by omega]
   exact IH tm' s' (by rw [k5',h5,zp,zp];omega) ⟨rfl,k0,k1,k240,i+1,by omega,k5'⟩ (i+1) (by omega) k5'
  rw [hd,cmpR]
  by_cases g1:intV s' vx i<intV s' vy i
  ·simp [wF,jh,gp_sp,h0,h1,h5,hx.1.len,ze,hp,hq,hP,hQ,zd,zhE,hlt,g1]
   exact .inr ⟨by omega,_,rfl,by simp [gp_sp,h240],by simp [gp_sp]⟩
  ·by_cases g2:intV s' vy i<intV s' vx i
   ·simp [wF,jh,gp_sp,h0,h1,h5,hx.1.len,ze,zw,hp,hq,hP,hQ,zd,zhE,hlt,g1,g2]
    exact .inr ⟨by omega,_,rfl,by simp [gp_sp,h240],by simp [gp_sp]⟩
   ·simp [wF,jh,gp_sp,h0,h1,h5,hx.1.len,ze,zw,zo,hw hlt,hp,hq,hP,hQ,zd,hlt,g1,g2]
    apply IH'<;>simp [gp_sp,h0,h1,h240]
 ·have e:i=lenV vx:=by omega
  subst e
  simp [wF,jh,gp_sp,h0,h5,hx.1.len,ze,zd,cmpR]
  exact .inl ⟨rfl,_,rfl,by simp [gp_sp,h240]⟩
theorem zHZ {vx vy:V} {s:S} (hx:Ints s vx) (hy:Ints s vy):CallX Tryz.prog 20 [vx,vy] s (iv .i64 (cmpW (intV s vx) (intV s vy) (lenV vx) (lenV vy))) s:=by
 refine jW pcOk0.1 pcOk0.2 (Rq_ok pc0 (fun _ _ _ _ _=>True) (zbJ vx vy s)) ?_
 by_cases hl:lenV vx=lenV vy
 ·have hL:=zF3 hx hy hl
  generalize Rq Tryz.prog _ _=r at hL ⊢
  have hL':∀ tm a,qV.run r tm s=a→gp 0 tm=vx→gp 1 tm=vy→gp 240 tm=.bad→gp 5 tm=iv .i64 0→jm (cmpR (intV s vx) (intV s vy) (lenV vx) 0) s a:=fun tm a e k0 k1 k2 k3=>e▸hL tm s ⟨rfl,k0,k1,k2,0,by omega,k3⟩ 0 (by omega) k3
  rw [cmpW,if_pos hl]
  simp [jh,gp_sp,hx.1.len,hy.1.len,yZ,zd,hl.symm]
  generalize hA:qV.run r _ s=a
  rcases hL' _ _ hA (by simp [gp_sp]) (by simp [gp_sp]) (by simp [gp_sp]) (by simp [gp_sp]) with ⟨hz,tm',rfl,k1⟩ | ⟨hz,tm',rfl,k1,k2⟩
  ·simp [zf,gp_sp,k1,hz]
  ·simp [k1,k2]
 ·generalize Rq Tryz.prog _ _=r
  rw [cmpW,if_neg hl]
  have hl':((lenV vx:Int)=lenV vy)=False:=by simp;omega
  by_cases g:lenV vx<lenV vy
  ·simp [jh,gp_sp,hx.1.len,hy.1.len,yZ,ze,zd,zhE,hl',g]
  ·simp [jh,gp_sp,hx.1.len,hy.1.len,yZ,ze,zd,hl',g]
theorem zNL {s:S} {z lim:Int} {p:V} (hp:∀ k:V→S→A,xLoad false 1 p s k=k (iv .i64 lim) s):CallX Tryz.prog 51 [iv .i64 z,p] s (.bool (decide (z<1∨lim<z))) s:=by
 refine jW pcOk0.1 pcOk0.2 (Rq_ok pc0 (fun _ _ _ _ _=>True) (fun _ _ _ _ _=>True)) ?_
 generalize Rq Tryz.prog _ _=r
 by_cases h:z<1
 ·simp [znP,gp_sp,zd,ze,h]
 ·simp [znP,gp_sp,zd,ze,zw,h,hp]
def idxR (p:Nat→Bool):Nat→Nat→Int
 | 0,_=>-1
 | n+1,i=>if p i then i else idxR p n (i+1)
theorem zJl (p : Nat → Bool) : ∀ n i, 0 ≤ idxR p n i ↔ ∃ j, i ≤ j ∧ j < i + n ∧ p j = true
  | 0, i => by simp [idxR]; omega
  | n + 1, i => by
    rw [idxR]
    by_cases h : p i = true
    · rw [if_pos h]
      exact ⟨fun _ => ⟨i, by omega, by omega, h⟩, fun _ => by omega⟩
    · rw [if_neg h, zJl p n (i + 1)]
      constructor
      · rintro ⟨j, h1, h2, h3⟩; exact ⟨j, by omega, by omega, h3⟩
      · rintro ⟨j, h1, h2, h3⟩
        exact ⟨j, by rcases Nat.lt_or_ge i j with g | g
                     · omega
                     · have : j = i := by omega
                       subst this; exact absurd h3 h, by omega, h3⟩
def yg (z:Int) (s:S) (a:A):Prop:=(z=-1∧∃ tm',a=.ext 0 tm' s∧gp 240 tm'=.bad)∨(z≠-1∧∃ tm',a=.ret tm' s∧gp 240 tm'=.bad∧gp 4 tm'=iv .i64 z)
theorem yg.nb {z:Int} {s:S} {a:A} (h:yg z s a):¬a.isBad:=by
 rcases h with ⟨_,tm,rfl,_⟩ | ⟨_,tm,rfl,_⟩<;>exact fun h=>h
def zaI (g:Nat) (cap:List V) (pz:Int→Bool) (s:S):Nat→List V→S→V→S→Prop:=fun f a t v t'=>f=g→t=s→∀ z,a=iv .i64 z::cap→v=.bool (pz z)∧t'=s
def yJ (vx:V) (s:S) (pz:Int→Bool):FI→Code→T→S→A→Prop:=fun _ _ tm _ a=>∀ i:Nat,i≤lenV vx→gp 7 tm=iv .i64 i→yg (idxR (fun j=>pz (intV s vx j)) (lenV vx - i) i) s a
theorem zxO {vx:V} {g:Nat} {cap:List V} {pz:Int→Bool} {s:S} (hx:Ints s vx) (hg:∀ z,CallX Tryz.prog g (iv .i64 z::cap) s (.bool (pz z)) s) (tm:T) (s':S)
  (h:s'=s∧gp 0 tm=vx∧gp 1 tm=.fn (.func g) [] cap∧gp 6 tm=iv .i64 (lenV vx)∧gp 240 tm=.bad∧∃ i:Nat,i≤lenV vx∧gp 7 tm=iv .i64 i) :
  yJ vx s pz yH wH tm s' (qI.run (Rq Tryz.prog (zaI g cap pz s) (yJ vx s pz)) tm s'):=by
 refine (zrI pcOk0.1 pcOk0.2 (zaI g cap pz s) (yJ vx s pz) (fun tm s'=>s'=s∧gp 0 tm=vx∧gp 1 tm=.fn (.func g) [] cap∧gp 6 tm=iv .i64 (lenV vx)∧gp 240 tm=.bad∧∃ i:Nat,i≤lenV vx∧gp 7 tm=iv .i64 i) (fun tm _=>lenV vx - (toI (gp 7 tm)).toNat) ?_ tm s' h).2
 clear h tm s'
 rintro tm s' ⟨rfl,h0,h1,h6,h240,i,hi,h7⟩ IH
 show ¬(qI.run _ tm s').isBad∧yJ vx s' pz _ _ tm s' (qI.run _ tm s')
 have hcall:∀ z,(Rq Tryz.prog (zaI g cap pz s') (yJ vx s' pz)).call g (iv .i64 z::cap) s'=.ret (.bool (pz z)) s':=fun z=>by
  obtain ⟨v,t,e,q⟩:=zjp (P:=Tryz.prog) (Q:=zaI g cap pz s') (QC:=yJ vx s' pz) ⟨_,_,hg z,fun _ _ z' hz=>⟨by rw [ww (List.cons.inj hz).1],rfl⟩⟩
  obtain ⟨rfl,rfl⟩:=q rfl rfl z rfl
  exact e
 generalize Rq Tryz.prog _ _=r at IH hcall ⊢
 suffices h:yg (idxR (fun j=>pz (intV s' vx j)) (lenV vx - i) i) s' (qI.run r tm s') from ⟨h.nb,fun j _ hj=>by rw [show j=i by have:=ww (hj.symm.trans h7);omega];exact h⟩
 by_cases hlt:i<lenV vx
 ·have hw:IntKind.i64.wrap ((i:Int)+1)=(i:Int)+1:=zD (by omega) (by have:=hx.2.1;omega)
  obtain ⟨p,hp,hP⟩:=hx.at_ hlt
  obtain ⟨d,hd⟩:∃ d,lenV vx - i=d+1:=⟨lenV vx - i - 1,by omega⟩
  have IH':∀ tm',gp 0 tm'=vx→gp 1 tm'=.fn (.func g) [] cap→gp 6 tm'=iv .i64 (lenV vx)→gp 240 tm'=.bad→gp 7 tm'=iv .i64 ((i:Int)+1)→yg (idxR (fun j=>pz (intV s' vx j)) d (i+1)) s' (r.code yH wH tm' s'):=by
   intro tm' k0 k1 k6 k240 k7
   have k7':gp 7 tm'=iv .i64 ((i+1:Nat):Int):=k7
   rw [show d=lenV vx - (i+1) by omega]
   exact IH tm' s' (by rw [k7',h7,zp,zp];omega) ⟨rfl,k0,k1,k6,k240,i+1,by omega,k7'⟩ (i+1) (by omega) k7'
  rw [hd,idxR]
  by_cases g1:pz (intV s' vx i)=true
  ·simp [zbb,wN,gp_sp,h0,h1,h6,h7,ze,hp,hP,zie,hcall,zd,hlt,g1]
   exact .inr ⟨by omega,_,rfl,by simp [gp_sp,h240],by simp [gp_sp]⟩
  ·simp [zbb,wN,gp_sp,h0,h1,h6,h7,ze,zo,hw,hp,hP,zie,hcall,zd,hlt,g1]
   apply IH'<;>simp [gp_sp,h0,h1,h6,h240]
 ·have e:i=lenV vx:=by omega
  subst e
  simp [zbb,wN,gp_sp,h6,h7,ze,zd,idxR]
  exact .inl ⟨rfl,_,rfl,by simp [gp_sp,h240]⟩
theorem zC6 {vx:V} {g:Nat} {cap:List V} {pz:Int→Bool} {s:S} (hx:Ints s vx) (hg:∀ z,CallX Tryz.prog g (iv .i64 z::cap) s (.bool (pz z)) s) :
  CallX Tryz.prog 92 [vx,.fn (.func g) [] cap] s (iv .i64 (idxR (fun j=>pz (intV s vx j)) (lenV vx) 0)) s:=by
 refine jW pcOk0.1 pcOk0.2 (Rq_ok pc0 (zaI g cap pz s) (yJ vx s pz)) ?_
 have hL:=zxO hx hg
 generalize Rq Tryz.prog _ _=r at hL ⊢
 have hL':∀ tm a,qI.run r tm s=a→gp 0 tm=vx→gp 1 tm=.fn (.func g) [] cap→gp 6 tm=iv .i64 (lenV vx)→gp 240 tm=.bad→gp 7 tm=iv .i64 0→yg (idxR (fun j=>pz (intV s vx j)) (lenV vx) 0) s a :=
  fun tm a e k0 k1 k6 k2 k3=>e▸hL tm s ⟨rfl,k0,k1,k6,k2,0,by omega,k3⟩ 0 (by omega) k3
 simp [wN,gp_sp,hx.1.len,zd]
 generalize hA:qI.run r _ s=a
 rcases hL' _ _ hA (by simp [gp_sp]) (by simp [gp_sp]) (by simp [gp_sp]) (by simp [gp_sp]) (by simp [gp_sp]) with ⟨hz,tm',rfl,k1⟩ | ⟨hz,tm',rfl,k1,k2⟩
 ·simp [zf,gp_sp,k1,hz,zhE]
 ·simp [k1,k2]
theorem zqT {vx:V} {g:Nat} {cap:List V} {pz:Int→Bool} {s:S} (hx:Ints s vx) (hg:∀ z,CallX Tryz.prog g (iv .i64 z::cap) s (.bool (pz z)) s) :
  CallX Tryz.prog 50 [vx,.fn (.func g) [] cap] s (.bool (decide (0≤idxR (fun j=>pz (intV s vx j)) (lenV vx) 0))) s:=by
 have hI:=zC6 hx hg
 refine jW pcOk0.1 pcOk0.2 (Rq_ok pc0 (fun f a t v t'=>f=92→t=s→a=[vx,.fn (.func g) [] cap]→v=iv .i64 (idxR (fun j=>pz (intV s vx j)) (lenV vx) 0)∧t'=s) (fun _ _ _ _ _=>True)) ?_
 obtain ⟨v,t,e,q⟩:=zjp (P:=Tryz.prog) (Q:=fun f a t v t'=>f=92→t=s→a=[vx,.fn (.func g) [] cap]→v=iv .i64 (idxR (fun j=>pz (intV s vx j)) (lenV vx) 0)∧t'=s) (QC:=fun _ _ _ _ _=>True) ⟨_,_,hI,fun _ _ _=>⟨rfl,rfl⟩⟩
 obtain ⟨rfl,rfl⟩:=q rfl rfl rfl
 generalize Rq Tryz.prog _ _=r at e ⊢
 simp [zqW,gp_sp,e,zdN,zd]
def Node (s:S) (nd:List Int→Option (K × K)) (rw:List Int→Int):Prop:=∀ w a m,nd w=some (a,m) →
 (∃ id:Int,Tr.get B.none a s.h=.row [.ref 0 m,iv .i64 (rw w),iv .i64 id] 3 70 false 0 0 0)∧∃ es ck,Tr.get B.none m s.h=.map es ck∧keysI es∧∀ z,mapI es z=(nd (w++[z])).map fun p=>V.ptr p.1 0 0
structure TreeOK (b s:S) (nd:List Int→Option (K × K)) (rw:List Int→Int):Prop where
 node:Node s nd rw
 rng:∀ w a m,nd w=some (a,m)→b.nx.toNat≤a.toNat∧a.toNat<s.nx.toNat∧b.nx.toNat≤m.toNat∧m.toNat<s.nx.toNat
 inj:∀ w w' p p',nd w=some p→nd w'=some p'→p.1=p'.1∨p.2=p'.2→w=w'
 root:nd []≠none
 closed:∀ w z,nd (w++[z])≠none→nd w≠none
def yE (F:Nat→List Int) (n:Nat) (nd:List Int→Option (K × K)) (rw:List Int→Int):Prop :=
 (∀ k,k<n→∀ w,w <+: F k→nd w≠none)∧∀ w,nd w≠none→(∀ k:Nat,k<n→F k=w→rw w=k)∧((∀ k,k<n→F k≠w)→rw w=-1)
open Classical in
noncomputable def K:Nat→Ct
 | 20=>⟨fun a s=>∃ x y,a=[x,y]∧Ints s x∧Ints s y,fun a s v s'=>∀ x y,a=[x,y]→s'=s∧∃ z,v=iv .i64 z∧(z=0↔word s x=word s y)⟩
 | 40=>⟨fun a s=>∃ x y,a=[x,y]∧Ints s x∧Ints s y,fun a s v s'=>∀ x y,a=[x,y]→s'=s∧v=.bool (decide (word s x=word s y))⟩
 | 14=>⟨fun a s=>∃ x,a=[x]∧Ints s x,fun a s v s'=>∀ x,a=[x]→s'=s∧v=.bool (decide (jq (word s x)))⟩
 | 27=>⟨fun a s=>∃ x z,a=[x,iv .i64 z]∧Ints s x,fun a s v s'=>∀ x z,a=[x,iv .i64 z]→Ext s s'∧v=.bool (decide (okSym z (word s x)))⟩
 | 7=>⟨fun a s=>∃ x,a=[x]∧Tab s x,fun a s v s'=>∀ x,a=[x]→s'=s∧v=.bool (decide (30<lenV x))⟩
 | 22=>⟨fun a s=>∃ x,a=[x]∧Tab s x,fun a s v s'=>∀ x,a=[x]→Ext s s'∧v=.bool (decide (okTab s x))⟩
 | 9=>⟨fun a s=>∃ x,a=[x]∧Tab s x,fun a s v s'=>∀ x,a=[x]→Ext s s'∧v=.bool (decide (okTab s x))⟩
 | 8=>⟨fun a _=>a=[],fun _ s v s'=>s'=s∧v=.bool true⟩
 | 21=>⟨fun a s=>∃ x,a=[x]∧Ints s x,fun a s v s'=>∀ x,a=[x]→s'=s∧v=.bool (decide (250<lenV x))⟩
 | 156=>⟨fun a s=>∃ x y,a=[x,y]∧Ints s x∧Ints s y,fun a s v s'=>∀ x y,a=[x,y]→s'=s∧v=.bool (decide (word s y <+: word s x))⟩
 | 107=>⟨fun a s=>∃ l x,a=[l,x]∧Tab s l∧Ints s x∧Fx x∧0<lenV x,fun a s v s'=>∀ l x,a=[l,x]→s'=s∧∃ (k:Nat) (o:V),v=.ls 1 [iv .i64 k,o]∧Ints s o∧StepP (fromV s l) (toV s l) (lenV l) (word s x) k (word s o)⟩
 | 65=>⟨fun a s=>∃ l x,a=[l,x]∧Tab s l∧okTab s l∧Ints s x∧Fx x∧lenV x≤200,fun a s v s'=>∀ l x,a=[l,x]→Ext s s'∧Ints s' v∧ResP (fromV s l) (toV s l) (lenV l) (word s x) (word s' v)⟩
 | 17=>⟨fun a s=>∃ l x,a=[l,x]∧Tab s l∧Ints s x∧Fx x,fun a s v s'=>∀ l x,a=[l,x]→Ext s s'∧∃ y e,v=.ls 1 [y,iv .i64 e]∧Ints s' y∧ApP (fromV s l) (toV s l) (lenV l) (word s x) (word s' y) e⟩
 | 34=>⟨fun a s=>∃ l,a=[l]∧Tab s l∧okTab s l,fun a s v s'=>∀ l,a=[l]→Ext s s'∧∃ nd rw a m,v=.ptr a 0 0∧nd []=some (a,m)∧TreeOK s s' nd rw∧yE (fromV s l) (lenV l) nd rw⟩
 | 66=>⟨fun a s=>∃ kc,∃ c:Int,a=[.ptr kc 0 0]∧Tr.get B.none kc s.h=.row [iv .i64 c] 1 3 false 0 0 0∧kc.toNat<s.nx.toNat,
   fun a s v s'=>∀ kc,∀ c:Int,a=[.ptr kc 0 0]→Tr.get B.none kc s.h=.row [iv .i64 c] 1 3 false 0 0 0→v=.ptr s.nx.succ 0 0 ∧
    ∃ c':Int,s'=addB (addB (setB s kc (.row [iv .i64 c'] 1 3 false 0 0 0)) (.map [] 0)) (.row [.ref 0 s.nx,iv .i64 (-1),iv .i64 c'] 3 70 false 0 0 0)⟩
 | _=>⟨fun _ _=>False,fun _ _ _ _=>True⟩
theorem fn_k {L:Nat→Lt} {f:Nat} {a:List V} {s s':S} {v:V} (h:(fnC pc0 f).run (Rk Tryz.prog K L) a s=.ret v s'):CallX Tryz.prog f a s v s':=jW pcOk0.1 pcOk0.2 (Rk_ok pc0 K L) h
abbrev noL:Nat→Lt:=fun _=>⟨fun _ _=>True,fun _ _ _=>True⟩
theorem wrap1 {i n:Nat} (h:i<n) (hn:n≤9223372036854775807):IntKind.i64.wrap ((i:Int)+1)=(i:Int)+1:=zD (by omega) (by omega)
theorem zBE (x y:Nat→Int):∀ n i,cmpR x y n i=0↔∀ j,i≤j→j<i+n→x j=y j
 | 0,i=>by simp [cmpR];omega
 | n+1,i=>by
  rw [cmpR]
  by_cases h1:x i<y i
  ·rw [if_pos h1];exact ⟨fun h=>by omega,fun h=>by have:=h i (by omega) (by omega);omega⟩
  ·rw [if_neg h1]
   by_cases h2:y i<x i
   ·rw [if_pos h2];exact ⟨fun h=>by omega,fun h=>by have:=h i (by omega) (by omega);omega⟩
   ·rw [if_neg h2,zBE x y n (i+1)]
    constructor
    ·intro h j h3 h4
     rcases Nat.eq_or_lt_of_le h3 with rfl | h5
     ·omega
     ·exact h j (by omega) (by omega)
    ·exact fun h j h3 h4=>h j (by omega) (by omega)
theorem ztT:Holds Tryz.prog K 20:=by
 rintro a s ⟨x,y,rfl,hx,hy⟩
 refine ⟨_,_,zHZ hx hy,?_⟩
 intro x' y' e
 cases e
 refine ⟨rfl,_,rfl,?_⟩
 rw [zDk]
 unfold cmpW
 split
 ·rename_i hl
  rw [zBE]
  exact ⟨fun h=>⟨hl,fun j hj=>h j (by omega) (by omega)⟩,fun h j _ hj=>h.2 j (by omega)⟩
 ·rename_i hl
  split<;>exact ⟨fun h=>by omega,fun h=>absurd h.1 hl⟩
def zky (vx vy:V) (s:S):Lt:=⟨fun tm s'=>s'=s∧gp 0 tm=vx∧gp 1 tm=vy∧gp 7 tm=iv .i64 (lenV vx)∧gp 240 tm=.bad∧∃ i:Nat,i≤lenV vx∧gp 8 tm=iv .i64 i∧∀ j,j<i→intV s vx j=intV s vy j,
 fun _ _ a=>LP 0 4 (.bool false) (∀ j,j<lenV vx→intV s vx j=intV s vy j) (fun _ s'=>s'=s) a⟩
theorem zKe {vx vy:V} {s:S} (hx:Ints s vx) (hy:Ints s vy) (hl:lenV vx=lenV vy):∀ tm s',(zky vx vy s).pre tm s'→(zky vx vy s).post tm s' (zb5.run (Rk Tryz.prog K fun _=>zky vx vy s) tm s'):=by
 refine zC (L:=fun _=>zky vx vy s) pcOk0.1 pcOk0.2 zH6 (fun tm _=>lenV vx - (toI (gp 8 tm)).toNat) (fun _ _ _ _ (h:LP _ _ _ _ _ _)=>h.nb) ?_
 rintro tm s' ⟨rfl,h0,h1,h7,h240,i,hi,h8,hj⟩ IH
 show LP _ _ _ _ _ (zb5.run _ tm s')
 generalize Rk Tryz.prog _ _=r at IH ⊢
 by_cases hlt:i<lenV vx
 ·have hw:=wrap1 hlt hx.2.1
  obtain ⟨p,hp,hP⟩:=hx.at_ hlt
  obtain ⟨q,hq,hQ⟩:=hy.at_ (hl▸hlt)
  by_cases g:intV s' vx i=intV s' vy i
  ·simp [zhN,ze5,gp_sp,h0,h1,h7,h8,ze,yZ,zo,hw,hp,hq,hP,hQ,zd,hlt,g]
   refine IH _ _ (mu_lt h8 (by simp [gp_sp]) hlt) ⟨rfl,?_,?_,?_,?_,i+1,by omega,?_,fun j h=>?_⟩
   ·simp [gp_sp,h0]
   ·simp [gp_sp,h1]
   ·simp [gp_sp,h7]
   ·simp [gp_sp,h240]
   ·simp [gp_sp]
   ·rcases Nat.lt_or_ge j i with h' | h'
    ·exact hj j h'
    ·rw [show j=i by omega];exact g
  ·simp [zhN,ze5,gp_sp,h0,h1,h7,h8,ze,yZ,hp,hq,hP,hQ,zd,hlt,g]
   exact .inr ⟨fun h=>g (h i hlt),_,_,rfl,by simp [gp_sp,h240],by simp [gp_sp],rfl⟩
 ·simp [zhN,ze5,gp_sp,h7,h8,ze,zd,hlt]
  exact .inl ⟨fun j h=>hj j (by omega),_,_,rfl,by simp [gp_sp,h240],rfl⟩
open Classical in
theorem zKW:Holds Tryz.prog K 40:=by
 rintro a s ⟨x,y,rfl,hx,hy⟩
 suffices h:CallX Tryz.prog 40 [x,y] s (.bool (decide (word s x=word s y))) s from ⟨_,_,h,fun x' y' e=>by cases e;exact ⟨rfl,rfl⟩⟩
 refine fn_k (L:=fun _=>zky x y s) ?_
 by_cases hl:lenV x=lenV y
 ·have hL:=zKe hx hy hl
  generalize Rk Tryz.prog _ _=r at hL ⊢
  simp only [zDk,hl,true_and]
  simp [ze5,gp_sp,hx.1.len,hy.1.len,yZ,zd,hl]
  generalize hA:zb5.run r _ s=a
  have:=hA▸hL _ _ ⟨rfl,by simp [gp_sp],by simp [gp_sp],by simp [gp_sp,hl],by simp [gp_sp],0,by omega,by simp [gp_sp],fun _ h=>by omega⟩
  rw [←hl]
  rcases this with ⟨hg,tm',s',rfl,k1,rfl⟩ | ⟨hg,tm',s',rfl,k1,k2,rfl⟩
  ·rw [decide_eq_true hg];simp [zf,gp_sp,k1]
  ·rw [decide_eq_false hg];simp [k1,k2]
 ·have h2:¬word s x=word s y:=fun h=>hl (zDk.1 h).1
  have hl':¬(lenV x:Int)=lenV y:=by omega
  simp only [h2]
  generalize Rk Tryz.prog _ _=r
  simp [ze5,gp_sp,hx.1.len,hy.1.len,yZ,zd,hl']
theorem zAP {s:S} {v:V} {lim:Int}:okSym lim (word s v)↔∀ j,j<lenV v→1≤intV s v j∧intV s v j≤lim :=
 ⟨fun h j hj=>h _ (zaz.2 ⟨j,hj,rfl⟩),fun h x hx=>by obtain ⟨j,hj,rfl⟩:=zaz.1 hx;exact h j hj⟩
def zkt (vx:V) (s:S):Lt:=⟨fun tm s'=>s'=s∧gp 0 tm=vx∧gp 240 tm=.bad∧∃ i:Nat,i≤lenV vx∧gp 3 tm=iv .i64 i∧∀ j,j<i→1≤intV s vx j∧intV s vx j≤500,
 fun _ _ a=>LP 0 2 (.bool false) (∀ j,j<lenV vx→1≤intV s vx j∧intV s vx j≤500) (fun _ s'=>s'=s) a⟩
theorem zKs {vx:V} {s:S} (hx:Ints s vx):∀ tm s',(zkt vx s).pre tm s'→(zkt vx s).post tm s' (zbG.run (Rk Tryz.prog K fun _=>zkt vx s) tm s'):=by
 refine zC (L:=fun _=>zkt vx s) pcOk0.1 pcOk0.2 zHY (fun tm _=>lenV vx - (toI (gp 3 tm)).toNat) (fun _ _ _ _ (h:LP _ _ _ _ _ _)=>h.nb) ?_
 rintro tm s' ⟨rfl,h0,h240,i,hi,h3,hj⟩ IH
 show LP _ _ _ _ _ (zbG.run _ tm s')
 generalize Rk Tryz.prog _ _=r at IH ⊢
 by_cases hlt:i<lenV vx
 ·have hw:=wrap1 hlt hx.2.1
  obtain ⟨p,hp,hP⟩:=hx.at_ hlt
  by_cases g1:intV s' vx i<1
  ·simp [zcp,zb6,gp_sp,h0,h3,hx.1.len,ze,hp,hP,zd,hlt,g1]
   exact .inr ⟨fun h=>by have:=h i hlt;omega,_,_,rfl,by simp [gp_sp,h240],by simp [gp_sp],rfl⟩
  ·by_cases g2:500<intV s' vx i
   ·simp [zcp,zb6,gp_sp,h0,h3,hx.1.len,ze,zw,hp,hP,zd,hlt,g1,g2]
    exact .inr ⟨fun h=>by have:=h i hlt;omega,_,_,rfl,by simp [gp_sp,h240],by simp [gp_sp],rfl⟩
   ·simp [zcp,zb6,gp_sp,h0,h3,hx.1.len,ze,zw,zo,hw,hp,hP,zd,hlt,g1,g2]
    refine IH _ _ (mu_lt h3 (by simp [gp_sp]) hlt) ⟨rfl,?_,?_,i+1,by omega,?_,fun j h=>?_⟩
    ·simp [gp_sp,h0]
    ·simp [gp_sp,h240]
    ·simp [gp_sp]
    ·rcases Nat.lt_or_ge j i with h' | h'
     ·exact hj j h'
     ·rw [show j=i by omega];omega
 ·simp [zcp,zb6,gp_sp,h0,h3,hx.1.len,ze,zd,hlt]
  exact .inl ⟨fun j h=>hj j (by omega),_,_,rfl,by simp [gp_sp,h240],rfl⟩
open Classical in
theorem zxf:Holds Tryz.prog K 14:=by
 rintro a s ⟨x,rfl,hx⟩
 suffices h:CallX Tryz.prog 14 [x] s (.bool (decide (jq (word s x)))) s from ⟨_,_,h,fun x' e=>by cases e;exact ⟨rfl,rfl⟩⟩
 refine fn_k (L:=fun _=>zkt x s) ?_
 by_cases hl:200<lenV x
 ·have h2:¬jq (word s x):=fun h=>by have:=h.1;rw [zq] at this;omega
  have hl':(200:Int)<lenV x:=by omega
  rw [decide_eq_false h2]
  generalize Rk Tryz.prog _ _=r
  simp [zb6,gp_sp,hx.1.len,zw,zd,hl']
 ·have hL:=zKs hx
  generalize Rk Tryz.prog _ _=r at hL ⊢
  have hl':¬(200:Int)<lenV x:=by omega
  have e:jq (word s x)↔∀ j,j<lenV x→1≤intV s x j∧intV s x j≤500:=by
   unfold jq
   rw [zAP,zq]
   exact ⟨fun h=>h.2,fun h=>⟨by omega,h⟩⟩
  simp [zb6,gp_sp,hx.1.len,zw,zd,hl']
  generalize hA:zbG.run r _ s=a
  have:=hA▸hL _ _ ⟨rfl,by simp [gp_sp],by simp [gp_sp],0,by omega,by simp [gp_sp],fun _ h=>by omega⟩
  rcases this with ⟨hg,tm',s',rfl,k1,rfl⟩ | ⟨hg,tm',s',rfl,k1,k2,rfl⟩
  ·rw [decide_eq_true (e.2 hg)];simp [zf,gp_sp,k1]
  ·rw [decide_eq_false (mt e.1 hg)];simp [k1,k2]
theorem zMw (s:S) (el:Nat) (x:V) (hx:x≠.bad) (k:V→S→A):xLoad false 1 (.ptr s.nx 0 0) (addB s (.row [x] 1 el false 0 0 0)) k=k x (addB s (.row [x] 1 el false 0 0 0)) :=
 (zMf s el 1 [x] rfl).load1 Nat.zero_lt_one hx k
open Classical in
theorem zro:Holds Tryz.prog K 27:=by
 rintro a s ⟨vx,lim,rfl,hx⟩
 suffices h:CallX Tryz.prog 27 [vx,iv .i64 lim] s (.bool (decide (okSym lim (word s vx)))) (addB s (.row [iv .i64 lim] 1 3 false 0 0 0)) from
  ⟨_,_,h,fun x' z e=>by obtain ⟨e1,e2,_⟩:=(by simpa using e:vx=x'∧iv .i64 lim=iv .i64 z∧True);subst e1;rw [ww e2];exact ⟨zP _ _,rfl⟩⟩
 have hE:=hx.ext (zP s (.row [iv .i64 lim] 1 3 false 0 0 0))
 generalize hs1:addB s (.row [iv .i64 lim] 1 3 false 0 0 0)=s1 at hE
 have hC:=zqT (g:=51) (cap:=[.ptr s.nx 0 0]) (pz:=fun z=>decide (z<1∨lim<z)) hE.1 (fun z=>by
  subst hs1
  exact zNL (zMw s 3 _ (iv_ne _ _)))
 refine jW pcOk0.1 pcOk0.2 (Rq_ok pc0 (fun f a t v t'=>f=50→t=s1→a=[vx,.fn (.func 51) [] [.ptr s.nx 0 0]]→v=.bool (decide (0≤idxR (fun j=>decide (intV s1 vx j<1∨lim<intV s1 vx j)) (lenV vx) 0))∧t'=s1) (fun _ _ _ _ _=>True)) ?_
 obtain ⟨v,t,e,q⟩:=zjp (P:=Tryz.prog) (Q:=fun f a t v t'=>f=50→t=s1→a=[vx,.fn (.func 51) [] [.ptr s.nx 0 0]]→v=.bool (decide (0≤idxR (fun j=>decide (intV s1 vx j<1∨lim<intV s1 vx j)) (lenV vx) 0))∧t'=s1) (QC:=fun _ _ _ _ _=>True) ⟨_,_,hC,fun _ _ _=>⟨rfl,rfl⟩⟩
 obtain ⟨rfl,rfl⟩:=q rfl rfl rfl
 generalize Rq Tryz.prog _ _=r at e ⊢
 have hR:(0≤idxR (fun j=>decide (intV t vx j<1∨lim<intV t vx j)) (lenV vx) 0)↔¬okSym lim (word s vx):=by
  rw [zJl,zAP]
  constructor
  ·rintro ⟨j,_,h2,h3⟩ h
   have:=h j (by omega)
   rw [hE.2] at h3
   simp at h3
   omega
  ·intro h
   by_cases hex:∃ j,j<lenV vx∧¬(1≤intV s vx j∧intV s vx j≤lim)
   ·obtain ⟨j,h1,h2⟩:=hex
    exact ⟨j,by omega,by omega,by rw [hE.2];simp;omega⟩
   ·exact absurd (fun j hj=>by
     by_cases g:1≤intV s vx j∧intV s vx j≤lim
     ·exact g
     ·exact absurd ⟨j,hj,g⟩ hex) h
 by_cases h2:okSym lim (word s vx)
 ·have h3:=mt hR.1 (fun h=>h h2)
  simp only [h3,decide_false] at e
  simp [zsC,gp_sp,qE,zr,hs1,h2,e]
 ·have h3:=hR.2 h2
  simp only [h3,decide_true] at e
  simp [zsC,gp_sp,qE,zr,hs1,h2,e]
open Classical in
theorem zL0:Holds Tryz.prog K 7:=by
 rintro a s ⟨x,rfl,hx⟩
 suffices h:CallX Tryz.prog 7 [x] s (.bool (decide (30<lenV x))) s from ⟨_,_,h,fun x' e=>by cases e;exact ⟨rfl,rfl⟩⟩
 refine fn_k (L:=noL) ?_
 generalize Rk Tryz.prog _ _=r
 by_cases h:30<lenV x
 ·have h':(30:Int)<lenV x:=by omega
  rw [decide_eq_true h]
  simp [zFy,gp_sp,hx.1.len,zw,zd,h']
 ·have h':¬(30:Int)<lenV x:=by omega
  rw [decide_eq_false h]
  simp [zFy,gp_sp,hx.1.len,zw,zd,h']
def Cv (s:S) (p x y:V):Prop:=∃ q0 q1,(∀ c,za 0 p c=c q0)∧(∀ c,za 1 p c=c q1)∧∀ s2,Ext s s2→(∀ k:V→S→A,xLoad false 1 q0 s2 k=k x s2)∧∀ k:V→S→A,xLoad false 1 q1 s2 k=k y s2
theorem Cv.ext {s s':S} {p x y:V} (h:Cv s p x y) (e:Ext s s'):Cv s' p x y:=by
 obtain ⟨q0,q1,h0,h1,h2⟩:=h
 exact ⟨q0,q1,h0,h1,fun s2 e2=>h2 s2 (e.trans e2)⟩
theorem zHA (s:S) (el:Nat) (x y:V) (hx:x≠.bad) (hy:y≠.bad):Cv (addB s (.row [x,y] 2 el false 0 0 0)) (.ptr s.nx 0 0) x y:=by
 have hP:=zMf s el 2 [x,y] rfl
 refine ⟨.ptr s.nx 0 0,.ptr s.nx 0 1,fun c=>rfl,fun c=>rfl,fun s2 e=>⟨fun k=>?_,fun k=>?_⟩⟩
 ·have:=hP.ext e (fun a v o h=>by cases h;show s.nx.toNat<s.nx.succ.toNat;rw [K.toNat_succ];omega)
  exact this.load1 (by omega) hx k
 ·have:=hP.ext e (fun a v o h=>by cases h;show s.nx.toNat<s.nx.succ.toNat;rw [K.toNat_succ];omega)
  obtain ⟨p',e1,P1⟩:=this.field 1 (by omega)
  have e2:p'=.ptr s.nx 0 1:=by
   have:=e1 (fun v=>.fin v s)
   exact (A.fin.inj this).1.symm
  subst e2
  exact P1.load1 (by omega) hy k
def Sub (s:S) (v u:V) (i:Nat):Prop:=Tab s u∧lenV u=i∧∀ j,j<i*2→cellV s u j=cellV s v j
theorem Sub.ext {s s':S} {v u:V} {i:Nat} (h:Sub s v u i) (hv:Tab s v) (e:Ext s s'):Sub s' v u i :=
 ⟨(h.1.ext e).1,h.2.1,fun j hj=>by rw [(h.1.ext e).2.1,(hv.ext e).2.1];exact h.2.2 j hj⟩
theorem Tab.sub {s:S} {v:V} (h:Tab s v) {i:Nat} (hi:i≤lenV v) {k:IntKind}:∃ u,(∀ el c,qX el 2 v none (some (iv k i)) none s c=c u)∧Sub s v u i:=by
 obtain ⟨u,h1,h2,h3,h4,h5⟩:=h.1.slice h.2.1.2 (lo:=none) (hi:=some (iv k i)) (a:=0) (b:=i) (.inl ⟨rfl,rfl⟩) (.inr ⟨k,rfl⟩) (by omega) hi
 have h4':∀ j,j<i*2→cellV s u j=cellV s v j:=fun j hj=>by
  have:=h4 j (by omega)
  rwa [Nat.zero_mul,Nat.zero_add] at this
 refine ⟨u,h1,⟨h2,⟨by rw [h3];have:=h.2.1.1;omega,h5⟩,fun j hj=>?_⟩,by rw [h3];omega,h4'⟩
 rw [h3] at hj
 rw [h4' _ (by omega),h4' _ (by omega)]
 exact h.2.2 j (by omega)
def jy (v:V) (s:S):Nat→Lt
 | 32=>⟨fun tm s'=>∃ i u T,i<lenV v∧Ext s s'∧gp 0 tm=v∧gp 8 tm=v∧gp 9 tm=iv .i64 (lenV v)∧gp 10 tm=iv .i64 i∧gp 240 tm=.bad∧Cv s' (gp 4 tm) (cellV s v (i*2)) T∧gp 13 tm=u∧Sub s' v u i∧gp 14 tm=iv .i64 i ∧
   ∃ k:Nat,k≤i∧gp 15 tm=iv .i64 k∧∀ j,j<k→fromV s v i≠fromV s v j,
  fun tm _ a=>∀ i:Nat,i<lenV v→gp 10 tm=iv .i64 i→LP 2 2 (.bool false) (∀ k,k<i→fromV s v i≠fromV s v k) (fun tm' s''=>Ext s s''∧gp 0 tm'=v∧gp 8 tm'=v∧gp 9 tm'=iv .i64 (lenV v)∧gp 10 tm'=iv .i64 i) a⟩
 | _=>⟨fun tm s'=>Ext s s'∧gp 0 tm=v∧gp 8 tm=v∧gp 9 tm=iv .i64 (lenV v)∧gp 240 tm=.bad∧∃ i:Nat,i≤lenV v∧gp 10 tm=iv .i64 i∧∀ j,j<i→okRow (fromV s v) (toV s v) j,
  fun _ _ a=>LP 0 2 (.bool false) (∀ i,i<lenV v→okRow (fromV s v) (toV s v) i) (fun _ s''=>Ext s s'') a⟩
theorem zdw {k:IntKind} {a b:Nat} (h:iv k (a:Int)=iv k (b:Int)):a=b:=by have:=ww h;omega
theorem zH3 {v:V} {s:S} (hv:Tab s v):∀ tm s',(jy v s 32).pre tm s'→(jy v s 32).post tm s' (zb0.run (Rk Tryz.prog K (jy v s)) tm s'):=by
 refine zC (L:=jy v s) pcOk0.1 pcOk0.2 zHT (fun tm _=>(toI (gp 14 tm)).toNat - (toI (gp 15 tm)).toNat) (fun tm s' a h1 h2=>by obtain ⟨i,_,_,hi,_,_,_,_,h10,_⟩:=h1;exact (h2 i hi h10).nb) ?_
 rintro tm s' ⟨i,u,T,hi,hE,h0,h8,h9,h10,h240,hC,h13,hU,h14,k,hk,h15,hj⟩ IH i' hi' h10'
 obtain rfl:i=i':=zdw (h10.symm.trans h10')
 show LP _ _ _ _ _ (zb0.run _ tm s')
 have hEq:=zn (L:=jy v s) zKW
 generalize Rk Tryz.prog _ _=r at IH hEq ⊢
 have hv':=hv.ext hE
 by_cases hlt:k<i
 ·have hw:=wrap1 hlt (by have:=hv.2.1.1;omega)
  have hlu:k<lenV u:=by rw [hU.2.1];exact hlt
  obtain ⟨p,q0,q1,hp,-,-,-,-,hL⟩:=hU.1.fields hlu
  have hx0:=hU.1.2.2 k hlu
  generalize hFk:cellV s' u (k*2)=Fk at hL hx0
  generalize hTk:cellV s' u (k*2+1)=Tk at hL hx0
  have hFk':cellV s v (k*2)=Fk:=by rw [←hFk,hU.2.2 _ (by omega),hv'.2.1]
  have hEn:Ext s' (addB s' (.row [Fk,Tk] 2 49 false 0 0 0)):=zP _ _
  have hst:=yN s' 49 2 [V.nil 1,V.nil 1] [Fk,Tk] rfl rfl
  have hD:=zHA s' 49 Fk Tk hx0.1.ne hx0.2.ne
  generalize hs1:addB s' (.row [Fk,Tk] 2 49 false 0 0 0)=s1 at hEn hst hD
  obtain ⟨c0,c1,hc0,-,hcl⟩:=hC.ext hEn
  obtain ⟨d0,d1,hd0,-,hdl⟩:=hD
  have hcl:=(hcl s1 (Ext.refl _)).1
  have hdl:=(hdl s1 (Ext.refl _)).1
  have hIi:=((hv.2.2 i hi).1.ext (hE.trans hEn)).1
  have hIk:=(hx0.1.ext hEn).1
  obtain ⟨w,t,he,hpost⟩:=hEq [cellV s v (i*2),Fk] s1 ⟨_,_,rfl,hIi,hIk⟩
  obtain ⟨rfl,rfl⟩:=hpost _ _ rfl
  have hw1:word t (cellV s v (i*2))=fromV s v i:=(hv.2.2 i hi).1.word (hE.trans hEn)
  have hw2:word t Fk=fromV s v k:=by rw [←hFk'];exact (hv.2.2 k (by omega)).1.word (hE.trans hEn)
  rw [hw1,hw2] at he
  by_cases g:fromV s v i=fromV s v k
  ·simp [g] at he
   simp [zh3,qG,gp_sp,h13,h14,h15,ze,hp,hL,zr,hst,hc0,hd0,hcl,hdl,he,zd,hlt]
   exact .inr ⟨fun h=>h k hlt g,_,_,rfl,by simp [gp_sp,h240],by simp [gp_sp],hE.trans hEn,by simp [gp_sp,h0],by simp [gp_sp,h8],by simp [gp_sp,h9],by simp [gp_sp,h10]⟩
  ·simp [g] at he
   simp [zh3,qG,gp_sp,h13,h14,h15,ze,zo,hw,hp,hL,zr,hst,hc0,hd0,hcl,hdl,he,zd,hlt]
   refine IH _ _ (zHj h14 h15 (by simp [gp_sp,h14]) (by simp [gp_sp]) hlt) ⟨i,u,T,hi,hE.trans hEn,?_,?_,?_,?_,?_,?_,?_,hU.ext hv'.1 hEn,?_,k+1,hlt,?_,fun j hjk=>?_⟩ i hi ?_
   ·simp [gp_sp,h0]
   ·simp [gp_sp,h8]
   ·simp [gp_sp,h9]
   ·simp [gp_sp,h10]
   ·simp [gp_sp,h240]
   ·simp [gp_sp];exact hC.ext hEn
   ·simp [gp_sp,h13]
   ·simp [gp_sp,h14]
   ·simp [gp_sp]
   ·rcases Nat.lt_or_ge j k with h' | h'
    ·exact hj j h'
    ·rw [show j=k by omega];exact g
   ·simp [gp_sp,h10]
 ·simp [zh3,qG,gp_sp,h14,h15,ze,zd,hlt]
  exact .inl ⟨fun j h=>hj j (by omega),_,_,rfl,by simp [gp_sp,h240],hE,by simp [gp_sp,h0],by simp [gp_sp,h8],by simp [gp_sp,h9],by simp [gp_sp,h10]⟩
theorem zIe {v:V} {s:S} (hv:Tab s v):∀ tm s',(jy v s 98).pre tm s'→(jy v s 98).post tm s' (zbN.run (Rk Tryz.prog K (jy v s)) tm s'):=by
 refine zC (L:=jy v s) pcOk0.1 pcOk0.2 zHH (fun tm _=>lenV v - (toI (gp 10 tm)).toNat) (fun tm s' a h1 (h2:LP _ _ _ _ _ _)=>h2.nb) ?_
 rintro tm s' ⟨hE,h0,h8,h9,h240,i,hi,h10,hj⟩ IH
 show LP _ _ _ _ _ (zbN.run _ tm s')
 have hSy:=zn (L:=jy v s) zro
 have hIn:=zH3 hv
 generalize Rk Tryz.prog _ _=r at IH hSy hIn ⊢
 have hv':=hv.ext hE
 by_cases hlt:i<lenV v
 ·have hw:=wrap1 hlt hv.2.1.1
  obtain ⟨p,q0,q1,hp,-,-,-,-,hL⟩:=hv'.1.fields hlt
  have hx:=hv'.1.2.2 i hlt
  have hx0:=hv.2.2 i hlt
  rw [hv'.2.1,hv'.2.1] at hL hx
  have hF:fromV s v i=word s (cellV s v (i*2)):=rfl
  have hT:toV s v i=word s (cellV s v (i*2+1)):=rfl
  generalize hF0:cellV s v (i*2)=F at hL hx hx0 hF
  generalize cellV s v (i*2+1)=T at hL hx hx0 hT
  have hEn:Ext s' (addB s' (.row [F,T] 2 49 false 0 0 0)):=zP _ _
  have hst:=yN s' 49 2 [V.nil 1,V.nil 1] [F,T] rfl rfl
  have hD:=zHA s' 49 F T hx.1.ne hx.2.ne
  generalize hs1:addB s' (.row [F,T] 2 49 false 0 0 0)=s1 at hEn hst hD
  have hE1:=hE.trans hEn
  have hI1:=(hx0.1.ext hE1).1
  have hI1':=(hx0.2.ext hE1).1
  have hR:okRow (fromV s v) (toV s v) i↔1≤lenV F∧lenV F≤20∧lenV T≤20∧okSym 500 (word s F)∧okSym 500 (word s T)∧∀ k,k<i→fromV s v i≠fromV s v k:=by
   unfold okRow;rw [hF,hT,zq,zq]
  obtain ⟨c0,c1,hc0,hc1,hcl⟩:=hD
  have hl1:=hcl s1 (Ext.refl _)
  by_cases g1:lenV F<1
  ·have g1':(lenV F:Int)<1:=by omega
   simp [jf,qG,gp_sp,h8,h9,h10,ze,hp,hL,zr,hst,hc0,hl1.1,hI1.1.len,zd,hlt,g1']
   exact .inr ⟨fun h=>by have:=(hR.1 (h i hlt)).1;omega,_,_,rfl,by simp [gp_sp,h240],by simp [gp_sp],hE1⟩
  have g1':¬(lenV F:Int)<1:=by omega
  by_cases g2:20<lenV F
  ·have g2':(20:Int)<lenV F:=by omega
   simp [jf,qG,gp_sp,h8,h9,h10,ze,zw,hp,hL,zr,hst,hc0,hl1.1,hI1.1.len,zd,hlt,g1',g2']
   exact .inr ⟨fun h=>by have:=(hR.1 (h i hlt)).2.1;omega,_,_,rfl,by simp [gp_sp,h240],by simp [gp_sp],hE1⟩
  have g2':¬(20:Int)<lenV F:=by omega
  by_cases g3:20<lenV T
  ·have g3':(20:Int)<lenV T:=by omega
   simp [jf,qG,gp_sp,h8,h9,h10,ze,zw,hp,hL,zr,hst,hc0,hc1,hl1.1,hl1.2,hI1.1.len,hI1'.1.len,zd,hlt,g1',g2',g3']
   exact .inr ⟨fun h=>by have:=(hR.1 (h i hlt)).2.2.1;omega,_,_,rfl,by simp [gp_sp,h240],by simp [gp_sp],hE1⟩
  have g3':¬(20:Int)<lenV T:=by omega
  obtain ⟨w,s2,he1,hpost⟩:=hSy [F,iv .i64 500] s1 ⟨F,500,rfl,hI1⟩
  obtain ⟨hE2,rfl⟩:=hpost _ _ rfl
  rw [hx0.1.word hE1] at he1
  by_cases g4:okSym 500 (word s F)
  case neg =>
   simp only [g4,decide_false] at he1
   simp [jf,qG,gp_sp,h8,h9,h10,ze,zw,hp,hL,zr,hst,hc0,hc1,hl1.1,hl1.2,hI1.1.len,hI1'.1.len,zd,hlt,g1',g2',g3',he1]
   exact .inr ⟨fun h=>g4 (hR.1 (h i hlt)).2.2.2.1,_,_,rfl,by simp [gp_sp,h240],by simp [gp_sp],hE1.trans hE2⟩
  simp only [g4,decide_true] at he1
  have hl2:=hcl s2 hE2
  obtain ⟨w,s3,he2,hpost⟩:=hSy [T,iv .i64 500] s2 ⟨T,500,rfl,(hI1'.ext hE2).1⟩
  obtain ⟨hE3,rfl⟩:=hpost _ _ rfl
  rw [hx0.2.word (hE1.trans hE2)] at he2
  have hE3':=(hE1.trans hE2).trans hE3
  by_cases g5:okSym 500 (word s T)
  case neg =>
   simp only [g5,decide_false] at he2
   simp [jf,qG,gp_sp,h8,h9,h10,ze,zw,hp,hL,zr,hst,hc0,hc1,hl1.1,hl1.2,hl2.2,hI1.1.len,hI1'.1.len,zd,hlt,g1',g2',g3',he1,he2]
   exact .inr ⟨fun h=>g5 (hR.1 (h i hlt)).2.2.2.2.1,_,_,rfl,by simp [gp_sp,h240],by simp [gp_sp],hE3'⟩
  simp only [g5,decide_true] at he2
  have hv3:=hv.ext hE3'
  obtain ⟨u,hu,hU⟩:=Tab.sub hv3.1 (i:=i) (by omega) (k:=.i64)
  have hul:lenV u=i:=hU.2.1
  simp [jf,qG,gp_sp,h0,h8,h9,h10,ze,zw,hp,hL,zr,hst,hc0,hc1,hl1.1,hl1.2,hl2.2,hI1.1.len,hI1'.1.len,zd,hlt,g1',g2',g3',he1,he2,hu,hU.1.1.len,hul]
  generalize hA:zb0.run r _ s3=a
  have:=(hA▸hIn _ _ ⟨i,u,T,hlt,hE3',by simp [gp_sp,h0],by simp [gp_sp,h8],by simp [gp_sp,h9],by simp [gp_sp,h10],by simp [gp_sp,h240],by simp [gp_sp];rw [hF0];exact (Cv.ext ⟨c0,c1,hc0,hc1,hcl⟩ (hE2.trans hE3)),by simp [gp_sp],hU,by simp [gp_sp],0,by omega,by simp [gp_sp],fun _ h=>by omega⟩) i hlt (by simp [gp_sp,h10])
  rcases this with ⟨hg,tm',s4,rfl,k1,k2,k3,k4,k5,k6⟩ | ⟨hg,tm',s4,rfl,k1,kr,k2,k3,k4,k5,k6⟩
  ·simp [zf,k6,zo,hw]
   refine IH _ _ (mu_lt h10 (by simp [gp_sp]) hlt) ⟨k2,?_,?_,?_,?_,i+1,by omega,?_,fun j h=>?_⟩
   ·simp [gp_sp,k3]
   ·simp [gp_sp,k4]
   ·simp [gp_sp,k5]
   ·simp [gp_sp,k1]
   ·simp [gp_sp]
   ·rcases Nat.lt_or_ge j i with h' | h'
    ·exact hj j h'
    ·rw [show j=i by omega];exact hR.2 ⟨by omega,by omega,by omega,g4,g5,hg⟩
  ·simp
   exact .inr ⟨fun h=>hg (hR.1 (h i hlt)).2.2.2.2.2,_,_,rfl,k1,kr,k2⟩
 ·simp [jf,qG,gp_sp,h9,h10,ze,zd,hlt]
  exact .inl ⟨fun j h=>hj j (by omega),_,_,rfl,by simp [gp_sp,h240],hE⟩
open Classical in
theorem zFi:Holds Tryz.prog K 22:=by
 rintro a s ⟨v,rfl,hv⟩
 suffices h:∃ s',CallX Tryz.prog 22 [v] s (.bool (decide (okTab s v))) s'∧Ext s s' by
  obtain ⟨s',h1,h2⟩:=h
  exact ⟨_,s',h1,fun x' e=>by cases e;exact ⟨h2,rfl⟩⟩
 have hL:=zIe hv
 by_cases g1:lenV v<1
 ·have g1':(lenV v:Int)<1:=by omega
  rw [decide_eq_false (fun h:okTab s v=>by have:=h.1;omega)]
  refine ⟨s,fn_k (L:=noL) ?_,Ext.refl _⟩
  generalize Rk Tryz.prog _ _=r
  simp [qG,gp_sp,hv.1.len,ze,zd,g1']
 have g1':¬(lenV v:Int)<1:=by omega
 by_cases g2:20<lenV v
 ·have g2':(20:Int)<lenV v:=by omega
  rw [decide_eq_false (fun h:okTab s v=>by have:=h.2.1;omega)]
  refine ⟨s,fn_k (L:=noL) ?_,Ext.refl _⟩
  generalize Rk Tryz.prog _ _=r
  simp [qG,gp_sp,hv.1.len,ze,zw,zd,g1',g2']
 have g2':¬(20:Int)<lenV v:=by omega
 have hrun:∃ s',(fnC pc0 22).run (Rk Tryz.prog K (jy v s)) [v] s=.ret (.bool (decide (okTab s v))) s'∧Ext s s':=by
  generalize Rk Tryz.prog _ _=r at hL ⊢
  simp [qG,gp_sp,hv.1.len,ze,zw,zd,g1',g2']
  generalize hA:zbN.run r _ s=a
  have:=hA▸hL _ _ ⟨Ext.refl _,by simp [gp_sp],by simp [gp_sp],by simp [gp_sp],by simp [gp_sp],0,by omega,by simp [gp_sp],fun _ h=>by omega⟩
  rcases this with ⟨hg,tm',s',rfl,k1,k2⟩ | ⟨hg,tm',s',rfl,k1,k2,k3⟩
  ·rw [decide_eq_true (show okTab s v from ⟨by omega,by omega,hg⟩)]
   exact ⟨s',by simp [zf,gp_sp,k1],k2⟩
  ·rw [decide_eq_false (fun h:okTab s v=>hg h.2.2)]
   exact ⟨s',by simp [k1,k2],k3⟩
 obtain ⟨s',h1,h2⟩:=hrun
 exact ⟨s',fn_k h1,h2⟩
theorem zuW {w:List Int} (h:w.length≤20):jq w↔okSym 500 w:=⟨fun h=>h.2,fun g=>⟨by omega,g⟩⟩
def yA (v:V) (s:S):Nat→Lt
 | 36=>⟨fun tm s'=>∃ i:Nat,i<lenV v∧s'=s∧gp 0 tm=v∧gp 3 tm=iv .i64 i∧gp 240 tm=.bad∧∃ k:Nat,k≤i∧gp 4 tm=iv .i64 k∧∀ j,j<k→fromV s v i≠fromV s v j,
  fun tm _ a=>∀ i:Nat,i<lenV v→gp 3 tm=iv .i64 i→LP 2 2 (.bool false) (∀ k,k<i→fromV s v i≠fromV s v k) (fun tm' s''=>s''=s∧gp 0 tm'=v∧gp 3 tm'=iv .i64 i) a⟩
 | _=>⟨fun tm s'=>s'=s∧gp 0 tm=v∧gp 240 tm=.bad∧∃ i:Nat,i≤lenV v∧gp 3 tm=iv .i64 i∧∀ j,j<i→okRow (fromV s v) (toV s v) j,
  fun _ _ a=>LP 0 2 (.bool false) (∀ i,i<lenV v→okRow (fromV s v) (toV s v) i) (fun _ s''=>s''=s) a⟩
theorem zDZ {v:V} {s:S} (hv:Tab s v):∀ tm s',(yA v s 36).pre tm s'→(yA v s 36).post tm s' (zam.run (Rk Tryz.prog K (yA v s)) tm s'):=by
 refine zC (L:=yA v s) pcOk0.1 pcOk0.2 zEM (fun tm _=>(toI (gp 3 tm)).toNat - (toI (gp 4 tm)).toNat) (fun tm s' a h1 h2=>by obtain ⟨i,hi,_,_,h3,_⟩:=h1;exact (h2 i hi h3).nb) ?_
 rintro tm s' ⟨i,hi,rfl,h0,h3,h240,k,hk,h4,hj⟩ IH i' hi' h3'
 obtain rfl:i=i':=zdw (h3.symm.trans h3')
 show LP _ _ _ _ _ (zam.run _ tm s')
 have hEq:=zn (L:=yA v s') ztT
 generalize Rk Tryz.prog _ _=r at IH hEq ⊢
 by_cases hlt:k<i
 ·have hw:=wrap1 hlt (by have:=hv.2.1.1;omega)
  obtain ⟨p,q0,q1,hp,hq0,-,hL,-,-⟩:=hv.fields hi
  obtain ⟨p',q0',q1',hp',hq0',-,hL',-,-⟩:=hv.fields (i:=k) (by omega)
  obtain ⟨w,t,he,hpost⟩:=hEq [cellV s' v (i*2),cellV s' v (k*2)] s' ⟨_,_,rfl,(hv.2.2 i hi).1,(hv.2.2 k (by omega)).1⟩
  obtain ⟨rfl,z,rfl,hz⟩:=hpost _ _ rfl
  by_cases g:fromV t v i=fromV t v k
  ·have hz0:z=0:=hz.2 g
   simp [zd4,qq,gp_sp,qg,h0,h3,h4,ze,qD,hp,hp',hq0,hq0',hL,hL',he,zd,hlt,hz0]
   exact .inr ⟨fun h=>h k hlt g,_,_,rfl,by simp [gp_sp,h240],by simp [gp_sp],rfl,by simp [gp_sp,h0],by simp [gp_sp,h3]⟩
  ·have hz0:¬z=0:=fun h=>g (hz.1 h)
   simp [zd4,qq,gp_sp,qg,h0,h3,h4,ze,qD,zo,hw,hp,hp',hq0,hq0',hL,hL',he,zd,hlt,hz0]
   refine IH _ _ (zHj h3 h4 (by simp [gp_sp,h3]) (by simp [gp_sp]) hlt) ⟨i,hi,rfl,?_,?_,?_,k+1,hlt,?_,fun j hjk=>?_⟩ i hi ?_
   ·simp [gp_sp,h0]
   ·simp [gp_sp,h3]
   ·simp [gp_sp,h240]
   ·simp [gp_sp]
   ·rcases Nat.lt_or_ge j k with h' | h'
    ·exact hj j h'
    ·rw [show j=k by omega];exact g
   ·simp [gp_sp,h3]
 ·simp [zd4,qq,gp_sp,h3,h4,ze,zd,hlt]
  exact .inl ⟨fun j h=>hj j (by omega),_,_,rfl,by simp [gp_sp,h240],rfl,by simp [gp_sp,h0],by simp [gp_sp,h3]⟩
theorem zGY {v:V} {s:S} (hv:Tab s v):∀ tm s',(yA v s 109).pre tm s'→(yA v s 109).post tm s' (wZ.run (Rk Tryz.prog K (yA v s)) tm s'):=by
 refine zC (L:=yA v s) pcOk0.1 pcOk0.2 zE6 (fun tm _=>lenV v - (toI (gp 3 tm)).toNat) (fun tm s' a h1 (h2:LP _ _ _ _ _ _)=>h2.nb) ?_
 rintro tm s' ⟨rfl,h0,h240,i,hi,h3,hj⟩ IH
 show LP _ _ _ _ _ (wZ.run _ tm s')
 have hSy:=zn (L:=yA v s') zxf
 have hIn:=zDZ hv
 generalize Rk Tryz.prog _ _=r at IH hSy hIn ⊢
 by_cases hlt:i<lenV v
 ·have hw:=wrap1 hlt hv.2.1.1
  obtain ⟨p,q0,q1,hp,hq0,hq1,hL0,hL1,-⟩:=hv.fields hlt
  have hx:=hv.2.2 i hlt
  have hF:fromV s' v i=word s' (cellV s' v (i*2)):=rfl
  have hT:toV s' v i=word s' (cellV s' v (i*2+1)):=rfl
  generalize cellV s' v (i*2)=F at hL0 hx hF
  generalize cellV s' v (i*2+1)=T at hL1 hx hT
  have hR:okRow (fromV s' v) (toV s' v) i↔1≤lenV F∧lenV F≤20∧lenV T≤20∧okSym 500 (word s' F)∧okSym 500 (word s' T)∧∀ k,k<i→fromV s' v i≠fromV s' v k:=by
   unfold okRow;rw [hF,hT,zq,zq]
  by_cases g1:lenV F<1
  ·have g1':(lenV F:Int)<1:=by omega
   simp [yI,qq,gp_sp,h0,h3,ze,hv.1.len,hp,hq0,hL0,hx.1.1.len,zd,hlt,g1']
   exact .inr ⟨fun h=>by have:=(hR.1 (h i hlt)).1;omega,_,_,rfl,by simp [gp_sp,h240],by simp [gp_sp],rfl⟩
  have g1':¬(lenV F:Int)<1:=by omega
  by_cases g2:20<lenV F
  ·have g2':(20:Int)<lenV F:=by omega
   simp [yI,qq,gp_sp,h0,h3,ze,zw,hv.1.len,hp,hq0,hL0,hx.1.1.len,zd,hlt,g1',g2']
   exact .inr ⟨fun h=>by have:=(hR.1 (h i hlt)).2.1;omega,_,_,rfl,by simp [gp_sp,h240],by simp [gp_sp],rfl⟩
  have g2':¬(20:Int)<lenV F:=by omega
  by_cases g3:20<lenV T
  ·have g3':(20:Int)<lenV T:=by omega
   simp [yI,qq,gp_sp,h0,h3,ze,zw,hv.1.len,hp,hq0,hq1,hL0,hL1,hx.1.1.len,hx.2.1.len,zd,hlt,g1',g2',g3']
   exact .inr ⟨fun h=>by have:=(hR.1 (h i hlt)).2.2.1;omega,_,_,rfl,by simp [gp_sp,h240],by simp [gp_sp],rfl⟩
  have g3':¬(20:Int)<lenV T:=by omega
  obtain ⟨w,s2,he1,hpost⟩:=hSy [F] s' ⟨F,rfl,hx.1⟩
  obtain ⟨rfl,rfl⟩:=hpost _ rfl
  obtain ⟨w,s2',he2,hpost⟩:=hSy [T] s2 ⟨T,rfl,hx.2⟩
  obtain ⟨rfl,rfl⟩:=hpost _ rfl
  rw [show jq (word s2' F)=okSym 500 (word s2' F) from propext (zuW (by rw [zq];omega))] at he1
  rw [show jq (word s2' T)=okSym 500 (word s2' T) from propext (zuW (by rw [zq];omega))] at he2
  by_cases g4:okSym 500 (word s2' F)
  case neg =>
   simp only [g4,decide_false] at he1
   simp [yI,qq,gp_sp,h0,h3,ze,zw,hv.1.len,hp,hq0,hq1,hL0,hL1,hx.1.1.len,hx.2.1.len,zd,hlt,g1',g2',g3',he1]
   exact .inr ⟨fun h=>g4 (hR.1 (h i hlt)).2.2.2.1,_,_,rfl,by simp [gp_sp,h240],by simp [gp_sp],rfl⟩
  simp only [g4,decide_true] at he1
  by_cases g5:okSym 500 (word s2' T)
  case neg =>
   simp only [g5,decide_false] at he2
   simp [yI,qq,gp_sp,h0,h3,ze,zw,hv.1.len,hp,hq0,hq1,hL0,hL1,hx.1.1.len,hx.2.1.len,zd,hlt,g1',g2',g3',he1,he2]
   exact .inr ⟨fun h=>g5 (hR.1 (h i hlt)).2.2.2.2.1,_,_,rfl,by simp [gp_sp,h240],by simp [gp_sp],rfl⟩
  simp only [g5,decide_true] at he2
  simp [yI,qq,gp_sp,h0,h3,ze,zw,hv.1.len,hp,hq0,hq1,hL0,hL1,hx.1.1.len,hx.2.1.len,zd,hlt,g1',g2',g3',he1,he2]
  generalize hA:zam.run r _ s2'=a
  have:=(hA▸hIn _ _ ⟨i,hlt,rfl,by simp [gp_sp,h0],by simp [gp_sp,h3],by simp [gp_sp,h240],0,by omega,by simp [gp_sp],fun _ h=>by omega⟩) i hlt (by simp [gp_sp,h3])
  rcases this with ⟨hg,tm',s4,rfl,k1,rfl,k3,k4⟩ | ⟨hg,tm',s4,rfl,k1,kr,rfl,k3,k4⟩
  ·simp [zf,k4,zo,hw]
   refine IH _ _ (mu_lt h3 (by simp [gp_sp]) hlt) ⟨rfl,?_,?_,i+1,by omega,?_,fun j h=>?_⟩
   ·simp [gp_sp,k3]
   ·simp [gp_sp,k1]
   ·simp [gp_sp]
   ·rcases Nat.lt_or_ge j i with h' | h'
    ·exact hj j h'
    ·rw [show j=i by omega];exact hR.2 ⟨by omega,by omega,by omega,g4,g5,hg⟩
  ·simp
   exact .inr ⟨fun h=>hg (hR.1 (h i hlt)).2.2.2.2.2,_,_,rfl,k1,kr,rfl⟩
 ·simp [yI,qq,gp_sp,h0,h3,hv.1.len,ze,zd,hlt]
  exact .inl ⟨fun j h=>hj j (by omega),_,_,rfl,by simp [gp_sp,h240],rfl⟩
open Classical in
theorem zKm:Holds Tryz.prog K 9:=by
 rintro a s ⟨v,rfl,hv⟩
 suffices h:CallX Tryz.prog 9 [v] s (.bool (decide (okTab s v))) s from ⟨_,_,h,fun x' e=>by cases e;exact ⟨Ext.refl _,rfl⟩⟩
 have hL:=zGY hv
 by_cases g1:lenV v<1
 ·have g1':(lenV v:Int)<1:=by omega
  rw [decide_eq_false (fun h:okTab s v=>by have:=h.1;omega)]
  refine fn_k (L:=noL) ?_
  generalize Rk Tryz.prog _ _=r
  simp [qq,gp_sp,hv.1.len,ze,zd,g1']
 have g1':¬(lenV v:Int)<1:=by omega
 by_cases g2:20<lenV v
 ·have g2':(20:Int)<lenV v:=by omega
  rw [decide_eq_false (fun h:okTab s v=>by have:=h.2.1;omega)]
  refine fn_k (L:=noL) ?_
  generalize Rk Tryz.prog _ _=r
  simp [qq,gp_sp,hv.1.len,ze,zw,zd,g1',g2']
 have g2':¬(20:Int)<lenV v:=by omega
 refine fn_k (L:=yA v s) ?_
 generalize Rk Tryz.prog _ _=r at hL ⊢
 simp [qq,gp_sp,hv.1.len,ze,zw,zd,g1',g2']
 generalize hA:wZ.run r _ s=a
 have:=hA▸hL _ _ ⟨rfl,by simp [gp_sp],by simp [gp_sp],0,by omega,by simp [gp_sp],fun _ h=>by omega⟩
 rcases this with ⟨hg,tm',s',rfl,k1,rfl⟩ | ⟨hg,tm',s',rfl,k1,k2,rfl⟩
 ·rw [decide_eq_true (show okTab _ v from ⟨by omega,by omega,hg⟩)]
  simp [zf,gp_sp,k1]
 ·rw [decide_eq_false (fun h:okTab _ v=>hg h.2.2)]
  simp [k1,k2]
theorem zMc {s:S} {a:Go.Ev.K} (h:a.toNat<s.nx.toNat):a≠s.nx:=fun e=>by rw [e] at h;omega
theorem zfp (s:S) (b:B) {a:Go.Ev.K} (h:a.toNat<s.nx.toNat):Tr.get B.none a (addB s b).h=Tr.get B.none a s.h:=(zP s b).get a h
def grown (s:S) (kc:Go.Ev.K) (c':Int):S:=addB (addB (setB s kc (.row [iv .i64 c'] 1 3 false 0 0 0)) (.map [] 0)) (.row [.ref 0 s.nx,iv .i64 (-1),iv .i64 c'] 3 70 false 0 0 0)
theorem zGu (s:S) (kc:Go.Ev.K) (c':Int):(grown s kc c').nx.toNat=s.nx.toNat+2:=by
 show s.nx.succ.succ.toNat=_
 rw [K.toNat_succ,K.toNat_succ]
theorem wV {s:S} {kc:Go.Ev.K} {c':Int} {a:Go.Ev.K} (h:a.toNat<s.nx.toNat):Tr.get B.none a (grown s kc c').h=if a=kc then .row [iv .i64 c'] 1 3 false 0 0 0 else Tr.get B.none a s.h:=by
 unfold grown
 rw [zfp _ _ (by show a.toNat<s.nx.succ.toNat;rw [K.toNat_succ];omega),zfp (setB s kc _) _ h,zu]
theorem zzH (s:S) (kc:Go.Ev.K) (c':Int):Tr.get B.none s.nx (grown s kc c').h=.map [] 0:=by
 unfold grown
 rw [zfp _ _ (by show s.nx.toNat<s.nx.succ.toNat;rw [K.toNat_succ];omega)]
 exact zS (setB s kc _) _
theorem zAO (s:S) (kc:Go.Ev.K) (c':Int):Tr.get B.none s.nx.succ (grown s kc c').h=.row [.ref 0 s.nx,iv .i64 (-1),iv .i64 c'] 3 70 false 0 0 0:=zS (addB (setB s kc _) _) _
theorem zGE:Holds Tryz.prog K 66:=by
 rintro a s ⟨kc,c,rfl,hg,hlt⟩
 suffices h:∃ c',CallX Tryz.prog 66 [.ptr kc 0 0] s (.ptr s.nx.succ 0 0) (grown s kc c') from by
  obtain ⟨c',h⟩:=h
  exact ⟨_,_,h,fun kc' c2 e _=>by cases e;exact ⟨rfl,c',rfl⟩⟩
 refine ⟨IntKind.i64.wrap (c+1),fn_k (L:=noL) ?_⟩
 generalize Rk Tryz.prog _ _=r
 have hl1:=j4 hg 0 rfl (by omega) (by simp [iv_ne])
 simp only [List.getD_cons_zero] at hl1
 have hst:=fun (k:V→S→A)=>zaA hg 0 (iv .i64 (IntKind.i64.wrap (c+1))) (qE _ _) (by omega) k
 simp only [upd,put] at hst
 have hg2:Tr.get B.none kc (addB (setB s kc (.row [iv .i64 (IntKind.i64.wrap (c+1))] 1 3 false 0 0 0)) (.map [] 0)).h=.row [iv .i64 (IntKind.i64.wrap (c+1))] 1 3 false 0 0 0:=by
  rw [zfp (setB s kc _) _ hlt,zu,if_pos rfl]
 have hl2:=j4 hg2 0 rfl (by omega) (by simp [iv_ne])
 simp only [List.getD_cons_zero] at hl2
 simp [zLB,gp_sp,hl1,hst,zo,zd,zhE,zMz,hl2,zHK,qE,qQ,qz,upd,put,zr]
 exact ⟨rfl,rfl⟩
structure Bld (s s':S) (nd:List Int→Option (Go.Ev.K × Go.Ev.K)) (rw:List Int→Int):Prop where
 ext:Ext s s'
 cnt:∃ c:Int,Tr.get B.none s.nx s'.h=.row [iv .i64 c] 1 3 false 0 0 0
 tree:TreeOK (addB s (.row [iv .i64 0] 1 3 false 0 0 0)) s' nd rw
theorem Bld.later {s s' s2:S} {nd:List Int→Option (Go.Ev.K × Go.Ev.K)} {rw:List Int→Int} (h:Bld s s' nd rw) (e:Ext s' s2) (hk:s.nx.toNat<s'.nx.toNat):Bld s s2 nd rw:=by
 refine ⟨h.ext.trans e,?_,⟨fun w a m hw=>?_,fun w a m hw=>?_,h.tree.inj,h.tree.root,h.tree.closed⟩⟩
 ·obtain ⟨c,hc⟩:=h.cnt;exact ⟨c,(e.get _ hk).trans hc⟩
 ·obtain ⟨_,g2,_,g4⟩:=h.tree.rng w a m hw
  obtain ⟨⟨id,h1⟩,es,ck,h2,h3⟩:=h.tree.node w a m hw
  exact ⟨⟨id,(e.get a g2).trans h1⟩,es,ck,(e.get m g4).trans h2,h3⟩
 ·obtain ⟨g1,g2,g3,g4⟩:=h.tree.rng w a m hw
  exact ⟨g1,Nat.lt_of_lt_of_le g2 e.nx,g3,Nat.lt_of_lt_of_le g4 e.nx⟩
theorem Bld.lt {s s':S} {nd:List Int→Option (Go.Ev.K × Go.Ev.K)} {rw:List Int→Int} (h:Bld s s' nd rw):s.nx.toNat<s'.nx.toNat:=by
 obtain ⟨p,hp⟩:=Option.ne_none_iff_exists'.1 h.tree.root
 obtain ⟨g1,g2,_⟩:=h.tree.rng [] p.1 p.2 hp
 have:(addB s (.row [iv .i64 0] 1 3 false 0 0 0)).nx.toNat=s.nx.toNat+1:=K.toNat_succ _
 omega
theorem zlF (s:S):(addB s (.row [iv .i64 0] 1 3 false 0 0 0)).nx.toNat=s.nx.toNat+1:=K.toNat_succ _
theorem Bld.insert {s s':S} {nd:List Int→Option (Go.Ev.K × Go.Ev.K)} {rw:List Int→Int} (h:Bld s s' nd rw) {w0:List Int} {z:Int} {a m:Go.Ev.K} (hw:nd w0=some (a,m)) (hn:nd (w0++[z])=none) (c':Int) :
  ∃ es ck,Tr.get B.none m (grown s' s.nx c').h=.map es ck∧keysI es∧Tr.get B.none a (grown s' s.nx c').h=Tr.get B.none a s'.h ∧
   ∀ es' ck',keysI es'→(∀ y,mapI es' y=if y=z then some (.ptr s'.nx.succ 0 0) else mapI es y) →
    Bld s (setB (grown s' s.nx c') m (.map es' ck')) (fun w=>if w=w0++[z] then some (s'.nx.succ,s'.nx) else nd w) (fun w=>if w=w0++[z] then -1 else rw w):=by
 have hlt:=h.lt
 have hb:=zlF s
 obtain ⟨⟨id,hrow⟩,es,ck,hmap,hkeys,hmapI⟩:=h.tree.node w0 a m hw
 obtain ⟨r1,r2,r3,r4⟩:=h.tree.rng w0 a m hw
 have hmk:m≠s.nx:=fun e=>by rw [e] at r3;omega
 have hak:a≠s.nx:=fun e=>by rw [e] at r1;omega
 refine ⟨es,ck,by rw [wV r4,if_neg hmk,hmap],hkeys,by rw [wV r2,if_neg hak],fun es' ck' hk' hm'=>?_⟩
 have old:∀ x:Go.Ev.K,x.toNat<s'.nx.toNat→x≠s.nx→x≠m→Tr.get B.none x (setB (grown s' s.nx c') m (.map es' ck')).h=Tr.get B.none x s'.h:=fun x h1 h2 h3=>by
  rw [zu,if_neg h3,wV h1,if_neg h2]
 have hgn:=zGu s' s.nx c'
 have hsn:s'.nx.succ.toNat=s'.nx.toNat+1:=K.toNat_succ _
 refine ⟨⟨by show s.nx.toNat≤(grown s' s.nx c').nx.toNat;omega,fun x hx=>?_⟩,⟨c',?_⟩,⟨?_,?_,?_,?_,?_⟩⟩
 ·rw [old x (by omega) (zMc hx) (fun e=>by rw [e] at hx;omega)]
  exact h.ext.get x hx
 ·rw [zu,if_neg (Ne.symm hmk),wV hlt,if_pos rfl]
 ·intro w a2 m2 h2
  by_cases e:w=w0++[z]
  ·subst e
   simp only [if_true] at h2
   cases h2
   refine ⟨⟨c',?_⟩,[],0,?_,fun e he=>(by cases he),fun y=>?_⟩
   ·rw [zu,if_neg (fun e=>by rw [←e] at r4;omega),zAO];simp
   ·rw [zu,if_neg (fun e=>by rw [←e] at r4;omega),zzH]
   ·have:nd (w0++[z]++[y])=none:=by
     cases hh:nd (w0++[z]++[y]) with
     | none=>rfl
     | some p=>exact absurd hn (h.tree.closed _ _ (by rw [hh];simp))
    show mapI [] y=(if w0++[z]++[y]=w0++[z] then some (s'.nx.succ,s'.nx) else nd (w0++[z]++[y])).map fun p=>V.ptr p.1 0 0
    rw [if_neg (fun e=>by have:=congrArg List.length e;simp at this),this];rfl
  ·simp only [if_neg e] at h2 ⊢
   obtain ⟨⟨id2,hrow2⟩,es2,ck2,hmap2,hkeys2,hmapI2⟩:=h.tree.node w a2 m2 h2
   obtain ⟨q1,q2,q3,q4⟩:=h.tree.rng w a2 m2 h2
   have ha2:a2≠m:=fun e=>by rw [e,hmap] at hrow2;cases hrow2
   refine ⟨⟨id2,by rw [old a2 q2 (fun e=>by rw [e] at q1;omega) ha2];exact hrow2⟩,?_⟩
   by_cases em:m2=m
   ·subst em
    obtain rfl:w=w0:=h.tree.inj _ _ _ _ h2 hw (.inr rfl)
    refine ⟨es',ck',by rw [zu,if_pos rfl],hk',fun y=>?_⟩
    show mapI es' y=(if w++[y]=w++[z] then some (s'.nx.succ,s'.nx) else nd (w++[y])).map fun p=>V.ptr p.1 0 0
    rw [hm' y,hmapI y]
    by_cases ey:y=z
    ·subst ey;rw [if_pos rfl,if_pos rfl];rfl
    ·rw [if_neg ey,if_neg (fun e=>ey (by simpa using e))]
   ·refine ⟨es2,ck2,by rw [old m2 q4 (fun e=>by rw [e] at q3;omega) em];exact hmap2,hkeys2,fun y=>?_⟩
    show mapI es2 y=(if w++[y]=w0++[z] then some (s'.nx.succ,s'.nx) else nd (w++[y])).map fun p=>V.ptr p.1 0 0
    rw [hmapI2 y,if_neg (fun e=>em ?_)]
    have hww:w=w0:=by
     have:=congrArg List.dropLast e
     simpa using this
    rw [hww,hw] at h2
    exact (Prod.mk.inj (Option.some.inj h2)).2.symm
 ·intro w a2 m2 h2
  show _∧a2.toNat<(grown s' s.nx c').nx.toNat∧_∧m2.toNat<(grown s' s.nx c').nx.toNat
  by_cases e:w=w0++[z]
  ·simp only [if_pos e] at h2
   cases h2
   omega
  ·simp only [if_neg e] at h2
   have:=h.tree.rng w a2 m2 h2
   omega
 ·intro w w' p p' h1 h2 h3
  have lts:∀ w p,nd w=some p→p.1.toNat<s'.nx.toNat∧p.2.toNat<s'.nx.toNat:=fun w p hp=>⟨(h.tree.rng w p.1 p.2 hp).2.1,(h.tree.rng w p.1 p.2 hp).2.2.2⟩
  by_cases e:w=w0++[z]
  ·by_cases e':w'=w0++[z]
   ·rw [e,e']
   ·simp only [if_pos e] at h1
    simp only [if_neg e'] at h2
    cases h1
    obtain ⟨l1,l2⟩:=lts _ _ h2
    rcases h3 with h3 | h3
    ·simp at h3;rw [←h3] at l1;omega
    ·simp at h3;rw [←h3] at l2;omega
  ·by_cases e':w'=w0++[z]
   ·simp only [if_neg e] at h1
    simp only [if_pos e'] at h2
    cases h2
    obtain ⟨l1,l2⟩:=lts _ _ h1
    rcases h3 with h3 | h3
    ·simp at h3;rw [h3] at l1;omega
    ·simp at h3;rw [h3] at l2;omega
   ·simp only [if_neg e] at h1
    simp only [if_neg e'] at h2
    exact h.tree.inj _ _ _ _ h1 h2 h3
 ·show (if ([]:List Int)=w0++[z] then some (s'.nx.succ,s'.nx) else nd [])≠none
  rw [if_neg (by simp)];exact h.tree.root
 ·intro w y hy
  show (if w=w0++[z] then some (s'.nx.succ,s'.nx) else nd w)≠none
  by_cases e:w=w0++[z]
  ·rw [if_pos e];simp
  ·rw [if_neg e]
   by_cases e':w++[y]=w0++[z]
   ·have:w=w0:=by have:=congrArg List.dropLast e';simpa using this
    rw [this,hw];simp
   ·simp only [if_neg e'] at hy
    exact h.tree.closed w y hy
theorem Bld.mark {s s':S} {nd:List Int→Option (Go.Ev.K × Go.Ev.K)} {rw:List Int→Int} (h:Bld s s' nd rw) {w0:List Int} {a m:Go.Ev.K} (hw:nd w0=some (a,m)) (i:Int) :
  ∃ id:Int,Tr.get B.none a s'.h=.row [.ref 0 m,iv .i64 (rw w0),iv .i64 id] 3 70 false 0 0 0 ∧
   Bld s (setB s' a (.row [.ref 0 m,iv .i64 i,iv .i64 id] 3 70 false 0 0 0)) nd (fun w=>if w=w0 then i else rw w):=by
 have hlt:=h.lt
 have hb:=zlF s
 obtain ⟨⟨id,hrow⟩,es,ck,hmap,hkeys,hmapI⟩:=h.tree.node w0 a m hw
 obtain ⟨r1,r2,r3,r4⟩:=h.tree.rng w0 a m hw
 refine ⟨id,hrow,⟨⟨h.ext.nx,fun x hx=>?_⟩,?_,⟨fun w a2 m2 h2=>?_,h.tree.rng,h.tree.inj,h.tree.root,h.tree.closed⟩⟩⟩
 ·rw [zu,if_neg (fun e=>by rw [e] at hx;omega)];exact h.ext.get x hx
 ·obtain ⟨c,hc⟩:=h.cnt
  exact ⟨c,by rw [zu,if_neg (fun e=>by rw [←e] at r1;omega)];exact hc⟩
 ·obtain ⟨⟨id2,hrow2⟩,es2,ck2,hmap2,hkeys2,hmapI2⟩:=h.tree.node w a2 m2 h2
  refine ⟨?_,es2,ck2,by rw [zu,if_neg (fun e=>by rw [e,hrow] at hmap2;cases hmap2)];exact hmap2,hkeys2,hmapI2⟩
  by_cases e:w=w0
  ·subst e
   rw [hw] at h2
   cases h2
   exact ⟨id,by rw [zu,if_pos rfl];simp⟩
  ·refine ⟨id2,?_⟩
   rw [zu,if_neg (fun e'=>e (h.tree.inj _ _ _ _ h2 hw (.inl e')))]
   simp only [if_neg e];exact hrow2
theorem Node.read {s:S} {nd:List Int→Option (Go.Ev.K × Go.Ev.K)} {rw:List Int→Int} (h:Node s nd rw) {w:List Int} {a m:Go.Ev.K} (hw:nd w=some (a,m)) :
  (∀ k:V→S→A,xLoad false 1 (.ptr a 0 0) s k=k (.ref 0 m) s)∧(∀ k:V→S→A,xLoad false 1 (.ptr a 0 1) s k=k (iv .i64 (rw w)) s) ∧
   (∀ z c,nd (w++[z])=none→j7 ⟨7,[]⟩ (.nil 0) false (.ref 0 m) (iv .i64 z) s c=c (.nil 0)) ∧
   ∀ z c b m',nd (w++[z])=some (b,m')→j7 ⟨7,[]⟩ (.nil 0) false (.ref 0 m) (iv .i64 z) s c=c (.ptr b 0 0):=by
 obtain ⟨⟨id,hrow⟩,es,ck,hmap,hkeys,hmapI⟩:=h w a m hw
 refine ⟨fun k=>?_,fun k=>?_,fun z c hn=>?_,fun z c b m' hn=>?_⟩
 ·have:=j4 hrow 0 rfl (by omega) (by simp) k
  simpa using this
 ·have:=j4 hrow 1 rfl (by omega) (by simp [iv_ne]) k
  simpa using this
 ·rw [zFN hmap hkeys,hmapI z,hn];rfl
 ·rw [zFN hmap hkeys,hmapI z,hn];rfl
theorem yE.insert {F:Nat→List Int} {i:Nat} {nd:List Int→Option (Go.Ev.K × Go.Ev.K)} {rw:List Int→Int} (h:yE F i nd rw) {w0:List Int} {p:Go.Ev.K × Go.Ev.K} (hn:nd w0=none) :
  yE F i (fun w=>if w=w0 then some p else nd w) (fun w=>if w=w0 then -1 else rw w):=by
 refine ⟨fun k hk w hw=>?_,fun w hw=>?_⟩
 ·show (if w=w0 then some p else nd w)≠none
  by_cases e:w=w0
  ·rw [if_pos e];simp
  ·rw [if_neg e];exact h.1 k hk w hw
 ·show (∀ k:Nat,k<i→F k=w→(if w=w0 then (-1:Int) else rw w)=k)∧((∀ k,k<i→F k≠w)→(if w=w0 then (-1:Int) else rw w)=-1)
  by_cases e:w=w0
  ·subst e
   refine ⟨fun k hk e2=>absurd hn (h.1 k hk w (by rw [e2];exact List.prefix_refl w)),fun _=>if_pos rfl⟩
  ·simp only [if_neg e] at hw ⊢
   exact h.2 w hw
theorem yE.mark {F:Nat→List Int} {i:Nat} {nd:List Int→Option (Go.Ev.K × Go.Ev.K)} {rw:List Int→Int} (h:yE F i nd rw) (hp:∀ w,w <+: F i→nd w≠none) (hd:∀ k,k<i→F i≠F k) :
  yE F (i+1) nd (fun w=>if w=F i then (i:Int) else rw w):=by
 refine ⟨fun k hk w hw=>?_,fun w hw=>?_⟩
 ·rcases Nat.lt_or_ge k i with g | g
  ·exact h.1 k g w hw
  ·rw [show k=i by omega] at hw;exact hp w hw
 ·show (∀ k:Nat,k<i+1→F k=w→(if w=F i then (i:Int) else rw w)=k)∧((∀ k,k<i+1→F k≠w)→(if w=F i then (i:Int) else rw w)=-1)
  by_cases e:w=F i
  ·subst e
   refine ⟨fun k hk e2=>?_,fun hh=>absurd rfl (hh i (by omega))⟩
   rw [if_pos rfl]
   rcases Nat.lt_or_ge k i with g | g
   ·exact absurd e2.symm (hd k g)
   ·omega
  ·rw [if_neg e]
   refine ⟨fun k hk e2=>?_,fun hh=>(h.2 w hw).2 fun k hk=>hh k (by omega)⟩
   rcases Nat.lt_or_ge k i with g | g
   ·exact (h.2 w hw).1 k g e2
   ·exact absurd (by rw [←e2,show k=i by omega]) e
theorem zfQ {w:List Int} {j:Nat} {x:Int} (h:w[j]?=some x):w.take (j+1)=w.take j++[x]:=by
 rw [List.take_add_one,h];rfl
theorem zFa {u w:List Int} {x:Int} (h:u <+: w++[x]):u <+: w∨u=w++[x]:=by
 obtain ⟨t,ht⟩:=h
 rcases List.eq_nil_or_concat t with rfl | ⟨t',y,rfl⟩
 ·right;simpa using ht
 ·left
  rw [List.concat_eq_append,←List.append_assoc] at ht
  have:=List.append_inj_left' ht rfl
  exact ⟨t',this⟩
def TrF (l:V) (s:S) (tm:T) (r0:Go.Ev.K):Prop:=gp 0 tm=l∧gp 4 tm=.fn (.func 66) [] [.ptr s.nx 0 0]∧gp 5 tm=.ptr r0 0 0∧gp 11 tm=l∧gp 12 tm=iv .i64 (lenV l)∧gp 240 tm=.bad
def zuY (l:V) (s:S) (i:Nat) (r0:Go.Ev.K) (A0:A):Prop:=∃ tm' s'' nd rw m0 a m,A0=.ext 2 tm' s''∧TrF l s tm' r0∧nd []=some (r0,m0)∧gp 13 tm'=iv .i64 i∧gp 6 tm'=iv .i64 i∧Bld s s'' nd rw∧yE (fromV s l) i nd rw ∧
 gp 8 tm'=.ptr a 0 0∧nd (fromV s l i)=some (a,m)∧∀ w,w <+: fromV s l i→nd w≠none
def zfm (l:V) (s:S) (A0:A):Prop:=∃ tm' s'' nd rw r0 m0,A0=.ext 0 tm' s''∧gp 240 tm'=.bad∧gp 5 tm'=.ptr r0 0 0∧nd []=some (r0,m0)∧Bld s s'' nd rw∧yE (fromV s l) (lenV l) nd rw
def zag (l:V) (s:S):Nat→Lt
 | 47=>⟨fun tm s'=>∃ i nd rw r0 m0 a m,i<lenV l∧TrF l s tm r0∧nd []=some (r0,m0)∧gp 13 tm=iv .i64 (i:Nat)∧gp 6 tm=iv .i64 (i:Nat)∧Bld s s' nd rw∧yE (fromV s l) i nd rw∧gp 15 tm=cellV s l (i*2)∧gp 16 tm=iv .i64 (lenV (cellV s l (i*2))) ∧
   ∃ j:Nat,j≤lenV (cellV s l (i*2))∧gp 17 tm=iv .i64 j∧gp 8 tm=.ptr a 0 0∧nd ((fromV s l i).take j)=some (a,m)∧∀ w,w <+: (fromV s l i).take j→nd w≠none,
  fun tm _ A0=>∀ (i:Nat) r0,i<lenV l→gp 13 tm=iv .i64 i→gp 5 tm=.ptr r0 0 0→zuY l s i r0 A0⟩
 | _=>⟨fun tm s'=>∃ i nd rw r0 m0,i≤lenV l∧TrF l s tm r0∧nd []=some (r0,m0)∧gp 13 tm=iv .i64 (i:Nat)∧Bld s s' nd rw∧yE (fromV s l) i nd rw,fun _ _ A0=>zfm l s A0⟩
theorem zuY.nb {l:V} {s:S} {i:Nat} {r0:Go.Ev.K} {a:A} (h:zuY l s i r0 a):¬a.isBad:=by
 obtain ⟨_,_,_,_,_,_,_,rfl,_⟩:=h;exact fun h=>h
theorem zfm.nb {l:V} {s:S} {a:A} (h:zfm l s a):¬a.isBad:=by
 obtain ⟨_,_,_,_,_,_,rfl,_⟩:=h;exact fun h=>h
theorem zKx {l:V} {s:S} (hl:Tab s l):∀ tm s',(zag l s 47).pre tm s'→(zag l s 47).post tm s' (zeM.run (Rk Tryz.prog K (zag l s)) tm s'):=by
 refine zC (L:=zag l s) pcOk0.1 pcOk0.2 zJW (fun tm _=>(toI (gp 16 tm)).toNat - (toI (gp 17 tm)).toNat) (fun tm s' a h1 h2=>by obtain ⟨i,_,_,r0,_,_,_,hi,hF,_,h13,_⟩:=h1;exact (h2 i r0 hi h13 hF.2.2.1).nb) ?_
 rintro tm s' ⟨i,nd,rw,r0,m0,a,m,hi,hF,hroot,h13,h6,hB,hR,h15,h16,j,hj,h17,h8,hnode,hpre⟩ IH i' r0' hi' h13' h5'
 obtain rfl:i=i':=zdw (h13.symm.trans h13')
 obtain ⟨h0,h4,h5,h11,h12,h240⟩:=hF
 obtain rfl:r0=r0':=by rw [h5] at h5';injection h5'
 show zuY l s i r0 (zeM.run _ tm s')
 have hC:=zn (L:=zag l s) zGE
 generalize Rk Tryz.prog _ _=r at IH hC ⊢
 have hIx:=(hl.2.2 i hi).1
 have hFe:fromV s l i=word s (cellV s l (i*2)):=rfl
 generalize hFd:cellV s l (i*2)=F at *
 by_cases hlt:j<lenV F
 ·have hw:=wrap1 hlt hIx.2.1
  obtain ⟨p,hp,hP⟩:=(hIx.ext hB.ext).1.at_ hlt
  rw [(hIx.ext hB.ext).2 j] at hP
  have hz:(fromV s l i)[j]?=some (intV s F j):=by rw [hFe];exact qP hlt
  generalize intV s F j=z at hP hz
  have htk:=zfQ hz
  obtain ⟨d1,d2,d3,d4⟩:=hB.tree.node.read hnode
  have next:∀ tm' s2 nd' rw' b m',gp 0 tm'=l→gp 4 tm'=.fn (.func 66) [] [.ptr s.nx 0 0]→gp 5 tm'=.ptr r0 0 0→gp 11 tm'=l→gp 12 tm'=iv .i64 (lenV l)→gp 240 tm'=.bad→gp 13 tm'=iv .i64 i→gp 6 tm'=iv .i64 i→gp 15 tm'=F→gp 16 tm'=iv .i64 (lenV F)→gp 17 tm'=iv .i64 ((j:Int)+1)→gp 8 tm'=.ptr b 0 0 →
    nd' []=some (r0,m0)→Bld s s2 nd' rw'→yE (fromV s l) i nd' rw'→nd' ((fromV s l i).take j++[z])=some (b,m')→(∀ w,w <+: (fromV s l i).take j→nd' w≠none)→zuY l s i r0 (r.code zdT zjF tm' s2):=by
   intro tm' s2 nd' rw' b m' a0 a1 a2 a3 a4 a5 a6 a7 a8 a9 a10 a11 b1 b2 b3 b4 b5
   refine IH tm' s2 (zHj h16 h17 a9 a10 hlt) ⟨i,nd',rw',r0,m0,b,m',hi,⟨a0,a1,a2,a3,a4,a5⟩,b1,a6,a7,b2,b3,?_,?_,j+1,by rw [hFd];exact hlt,a10,a11,by rw [htk];exact b4,fun w hw=>?_⟩ i r0 hi a6 a2
   ·rw [hFd];exact a8
   ·rw [hFd];exact a9
   ·rw [htk] at hw
    rcases zFa hw with hw | rfl
    ·exact b5 w hw
    ·rw [b4];simp
  cases hch:nd ((fromV s l i).take j++[z]) with
  | some q =>
   obtain ⟨b,m'⟩:=q
   have e4:=fun c=>d4 z c b m' hch
   simp [zmE,zfN,gp_sp,h8,h15,h16,h17,ze,zo,hw,hp,hP,yb,zi,d1,e4,zeZ,zd,hlt]
   refine next _ s' nd rw b m' ?_ ?_ ?_ ?_ ?_ ?_ ?_ ?_ ?_ ?_ ?_ ?_ hroot hB hR hch hpre
   all_goals simp [gp_sp,h0,h4,h5,h11,h12,h13,h6,h15,h16,h240]
  | none =>
   have e3:=fun c=>d3 z c hch
   obtain ⟨c,hc⟩:=hB.cnt
   obtain ⟨v,s1,he,hpost⟩:=hC [.ptr s.nx 0 0] s' ⟨s.nx,c,rfl,hc,hB.lt⟩
   obtain ⟨rfl,c',rfl⟩:=hpost _ _ rfl hc
   change r.call _ _ _=.ret _ (grown s' s.nx c') at he
   obtain ⟨es,ck,hm1,hk1,hrow1,hins⟩:=hB.insert hnode hch c'
   have hrow0:=(hB.tree.node _ _ _ hnode).1
   obtain ⟨id,hrow0⟩:=hrow0
   have hl1:∀ k:V→S→A,xLoad false 1 (.ptr a 0 0) (grown s' s.nx c') k=k (.ref 0 m) (grown s' s.nx c'):=fun k=>by
    have:=j4 (hrow1.trans hrow0) 0 rfl (by omega) (by simp) k
    simpa using this
   obtain ⟨es',ck',hu1,hu2,hu3⟩:=zMs hm1 hk1 z (.ptr s'.nx.succ 0 0)
   have hB2:=hins es' ck' hu2 hu3
   generalize hs2:setB (grown s' s.nx c') m (.map es' ck')=s2 at hB2 hu1
   have hne:(fromV s l i).take j≠(fromV s l i).take j++[z]:=fun e=>by have:=congrArg List.length e;simp at this
   obtain ⟨f1,f2,f3,f4⟩:=hB2.tree.node.read (w:=(fromV s l i).take j) (a:=a) (m:=m) (by show (if _ then _ else _)=_;rw [if_neg hne];exact hnode)
   have e4:=fun c=>f4 z c s'.nx.succ s'.nx (if_pos rfl)
   simp [zmE,zfN,gp_sp,h4,h8,h15,h16,h17,ze,zo,hw,hp,hP,yb,zi,d1,e3,zny,zie,he,hl1,zMr,hu1,f1,e4,qg,zd,hlt]
   refine next _ s2 _ _ s'.nx.succ s'.nx ?_ ?_ ?_ ?_ ?_ ?_ ?_ ?_ ?_ ?_ ?_ ?_ ?_ hB2 (hR.insert hch) (if_pos rfl) fun w hw=>?_
   all_goals first | (show (if _ then _ else _)=_;rw [if_neg (by simp)];exact hroot) | skip
   all_goals first | (simp [gp_sp,h0,h4,h5,h11,h12,h13,h6,h15,h16,h240];done) | skip
   show (if w=(fromV s l i).take j++[z] then _ else nd w)≠none
   split
   ·simp
   ·exact hpre w hw
 ·obtain rfl:j=lenV F:=by omega
  simp [zmE,zfN,gp_sp,h16,h17,ze,zd]
  have hfull:(fromV s l i).take (lenV F)=fromV s l i:=List.take_of_length_le (by rw [hFe,zq];exact Nat.le_refl _)
  rw [hfull] at hnode hpre
  exact ⟨_,_,nd,rw,m0,a,m,rfl,⟨by simp [gp_sp,h0],by simp [gp_sp,h4],by simp [gp_sp,h5],by simp [gp_sp,h11],by simp [gp_sp,h12],by simp [gp_sp,h240]⟩,hroot,by simp [gp_sp,h13],by simp [gp_sp,h6],hB,hR,by simp [gp_sp,h8],hnode,hpre⟩
theorem zKv {l:V} {s:S} (hl:Tab s l) (hok:okTab s l):∀ tm s',(zag l s 86).pre tm s'→(zag l s 86).post tm s' (zdX.run (Rk Tryz.prog K (zag l s)) tm s'):=by
 refine zC (L:=zag l s) pcOk0.1 pcOk0.2 zKc (fun tm _=>lenV l - (toI (gp 13 tm)).toNat) (fun tm s' a h1 (h2:zfm _ _ _)=>h2.nb) ?_
 rintro tm s' ⟨i,nd,rw,r0,m0,hi,⟨h0,h4,h5,h11,h12,h240⟩,hroot,h13,hB,hR⟩ IH
 show zfm l s (zdX.run _ tm s')
 have hIn:=zKx hl
 generalize Rk Tryz.prog _ _=r at IH hIn ⊢
 by_cases hlt:i<lenV l
 ·have hw:=wrap1 hlt hl.2.1.1
  have hv':=hl.ext hB.ext
  obtain ⟨p,q0,q1,hp,-,-,-,-,hL⟩:=hv'.1.fields hlt
  have hx:=hv'.1.2.2 i hlt
  have hx0:=hl.2.2 i hlt
  rw [hv'.2.1,hv'.2.1] at hL hx
  generalize hFd:cellV s l (i*2)=F at hL hx hx0
  generalize cellV s l (i*2+1)=T at hL hx hx0
  have hEn:Ext s' (addB s' (.row [F,T] 2 49 false 0 0 0)):=zP _ _
  have hst:=yN s' 49 2 [V.nil 1,V.nil 1] [F,T] rfl rfl
  have hD:=zHA s' 49 F T hx.1.ne hx.2.ne
  have hB1:=hB.later hEn hB.lt
  generalize hs1:addB s' (.row [F,T] 2 49 false 0 0 0)=s1 at hEn hst hD hB1
  obtain ⟨c0,c1,hc0,hc1,hcl⟩:=hD
  have hl1:=(hcl s1 (Ext.refl _)).1
  have hI1:=(hx0.1.ext hB1.ext).1
  simp [zAZ,zfN,gp_sp,h5,h11,h12,h13,ze,hp,hL,zr,hst,hc0,hl1,hI1.1.len,zd,hlt]
  generalize hA:zeM.run r _ s1=a
  have:=(hA▸hIn _ _ ⟨i,nd,rw,r0,m0,r0,m0,hlt,⟨by simp [gp_sp,h0],by simp [gp_sp,h4],by simp [gp_sp,h5],by simp [gp_sp,h11],by simp [gp_sp,h12],by simp [gp_sp,h240]⟩,hroot,by simp [gp_sp,h13],by simp [gp_sp],hB1,hR,by simp [gp_sp];exact hFd.symm,by simp [gp_sp];rw [hFd],0,by omega,by simp [gp_sp],by simp [gp_sp],hroot,
   fun w hw=>by have:w=[]:=List.eq_nil_of_prefix_nil (by simpa using hw);rw [this,hroot];simp⟩) i r0 hlt (by simp [gp_sp,h13]) (by simp [gp_sp,h5])
  obtain ⟨tm',s2,nd2,rw2,m2,b,mb,rfl,⟨k0,k4,k5,k11,k12,k240⟩,hroot2,k13,k6,hB2,hR2,k8,hnode,hpre⟩:=this
  obtain ⟨id,hrow,hB3⟩:=hB2.mark hnode (i:Int)
  have hst2:=fun (k:V→S→A)=>zaA hrow 1 (iv .i64 (i:Int)) (qE _ _) (by omega) k
  simp only [upd,put] at hst2
  simp [zf,yb,zi,k8,k6,k13,hst2,zo,hw]
  exact IH _ _ (mu_lt h13 (by simp [gp_sp]) hlt) ⟨i+1,nd2,_,r0,m2,hlt,⟨by simp [gp_sp,k0],by simp [gp_sp,k4],by simp [gp_sp,k5],by simp [gp_sp,k11],by simp [gp_sp,k12],by simp [gp_sp,k240]⟩,hroot2,by simp [gp_sp],hB3,hR2.mark hpre ((hok.2.2 i hlt).2.2.2.2.2)⟩
 ·obtain rfl:i=lenV l:=by omega
  simp [zAZ,zfN,gp_sp,h12,h13,ze,zd]
  exact ⟨_,_,nd,rw,r0,m0,rfl,by simp [gp_sp,h240],by simp [gp_sp,h5],hroot,hB,hR⟩
theorem zJQ (s:S) (b c:B):setB (addB s b) s.nx c=addB s c:=by
 show (⟨Tr.set B.none c s.nx (Tr.set B.none b s.nx s.h),s.nx.succ⟩:S)=⟨Tr.set B.none c s.nx s.h,s.nx.succ⟩
 rw [zIx]
theorem zNt:Holds Tryz.prog K 34:=by
 rintro a s ⟨l,rfl,hl,hok⟩
 have hL:=zKv hl hok
 have hC:=zn (L:=zag l s) zGE
 suffices h:∃ s' nd rw a m,(fnC pc0 34).run (Rk Tryz.prog K (zag l s)) [l] s=.ret (.ptr a 0 0) s'∧nd []=some (a,m)∧Bld s s' nd rw∧yE (fromV s l) (lenV l) nd rw by
  obtain ⟨s',nd,rw,a,m,h1,h2,h3,h4⟩:=h
  refine ⟨_,s',fn_k h1,fun l' e=>?_⟩
  cases e
  refine ⟨h3.ext,nd,rw,a,m,rfl,h2,⟨h3.tree.node,fun w a m hw=>?_,h3.tree.inj,h3.tree.root,h3.tree.closed⟩,h4⟩
  have:=h3.tree.rng w a m hw
  have hb:=zlF s
  omega
 generalize Rk Tryz.prog _ _=r at hL hC ⊢
 generalize hs1:addB s (.row [iv .i64 0] 1 3 false 0 0 0)=s1
 have hg:Tr.get B.none s.nx s1.h=.row [iv .i64 0] 1 3 false 0 0 0:=hs1▸zS _ _
 have hn1:s1.nx.toNat=s.nx.toNat+1:=hs1▸zlF s
 have hE1:Ext s s1:=hs1▸zP _ _
 have hst:=fun (k:V→S→A)=>zaA hg 0 (iv .i64 0) (qE _ _) (by omega) k
 simp only [upd,put] at hst
 have hset:setB s1 s.nx (.row [iv .i64 0] 1 3 false 0 0 0)=s1:=by rw [←hs1,zJQ]
 rw [hset] at hst
 obtain ⟨v,s2,he,hpost⟩:=hC [.ptr s.nx 0 0] s1 ⟨s.nx,0,rfl,hg,by omega⟩
 obtain ⟨rfl,c',rfl⟩:=hpost _ _ rfl hg
 change r.call _ _ _=.ret _ (grown s1 s.nx c') at he
 have hgn:=zGu s1 s.nx c'
 have hsn:s1.nx.succ.toNat=s1.nx.toNat+1:=K.toNat_succ _
 have hB:Bld s (grown s1 s.nx c') (fun w=>if w=[] then some (s1.nx.succ,s1.nx) else none) (fun _=>-1):=by
  refine ⟨⟨by omega,fun x hx=>?_⟩,⟨c',?_⟩,⟨fun w a m hw=>?_,fun w a m hw=>?_,fun w w' p p' h1 h2 _=>?_,by simp,fun w z hw=>?_⟩⟩
  ·rw [wV (by omega),if_neg (zMc hx)];exact hE1.get x hx
  ·rw [wV (by omega),if_pos rfl]
  ·by_cases e:w=[]
   ·subst e
    simp only [if_true] at hw
    cases hw
    exact ⟨⟨c',zAO _ _ _⟩,[],0,zzH _ _ _,fun e he=>(by cases he),fun z=>by simp [mapI]⟩
   ·simp only [if_neg e] at hw;cases hw
  ·by_cases e:w=[]
   ·simp only [if_pos e] at hw
    cases hw
    have hb:=zlF s
    omega
   ·simp only [if_neg e] at hw;cases hw
  ·by_cases e:w=[]
   ·by_cases e':w'=[]
    ·rw [e,e']
    ·simp only [if_neg e'] at h2;cases h2
   ·simp only [if_neg e] at h1;cases h1
  ·simp at hw
 have hR:yE (fromV s l) 0 (fun w=>if w=[] then some (s1.nx.succ,s1.nx) else none) (fun _=>-1):=⟨fun k hk=>by omega,fun w _=>⟨fun k hk=>by omega,fun _=>rfl⟩⟩
 generalize grown s1 s.nx c'=s2 at he hB
 simp [zfN,gp_sp,zd,zr,hs1,hst,zie,he,hl.1.len]
 generalize hA:zdX.run r _ s2=a
 have:=hA▸hL _ _ ⟨0,_,_,s1.nx.succ,s1.nx,by omega,⟨by simp [gp_sp],by simp [gp_sp],by simp [gp_sp],by simp [gp_sp],by simp [gp_sp],by simp [gp_sp]⟩,if_pos rfl,by simp [gp_sp],hB,hR⟩
 obtain ⟨tm',s3,nd,rw,r0,m0,rfl,k1,k2,k3,k4,k5⟩:=(this:zfm _ _ _)
 exact ⟨s3,nd,rw,r0,by simp [zf,gp_sp,k1,k2],⟨m0,k3⟩,k4,k5⟩
theorem TreeOK.later {b s s':S} {nd:List Int→Option (Go.Ev.K × Go.Ev.K)} {rw:List Int→Int} (h:TreeOK b s nd rw) (e:Ext s s'):Node s' nd rw:=fun w a m hw=>by
 obtain ⟨_,g2,_,g4⟩:=h.rng w a m hw
 obtain ⟨⟨id,h1⟩,es,ck,h2,h3⟩:=h.node w a m hw
 exact ⟨⟨id,(e.get a g2).trans h1⟩,es,ck,(e.get m g4).trans h2,h3⟩
def WI (F:Nat→List Int) (n:Nat) (x:List Int) (at_ d:Nat) (row en:Int):Prop :=
 (row=-1∧en=at_+1∧∀ k,k<n→F k <+: x→d<(F k).length)∨∃ j:Nat,j<n∧row=j∧F j <+: x∧(F j).length≤d∧en=((at_+(F j).length:Nat):Int)∧∀ k,k<n→F k <+: x→(F k).length≤d→(F k).length≤(F j).length
def WF (F:Nat→List Int) (n:Nat) (x:List Int) (at_:Nat) (row en:Int):Prop :=
 (row=-1∧en=at_+1∧∀ k,k<n→¬F k <+: x)∨∃ j:Nat,zDp F n x j∧row=j∧en=((at_+(F j).length:Nat):Int)
theorem WI.fin {F:Nat→List Int} {n:Nat} {x:List Int} {at_ d:Nat} {row en:Int} (h:WI F n x at_ d row en) (hd:∀ k,k<n→F k <+: x→(F k).length≤d):WF F n x at_ row en:=by
 rcases h with ⟨h1,h2,h3⟩ | ⟨j,h1,h2,h3,h4,h5,h6⟩
 ·exact .inl ⟨h1,h2,fun k hk hp=>by have:=h3 k hk hp;have:=hd k hk hp;omega⟩
 ·exact .inr ⟨j,⟨h1,h3,fun k hk hp=>h6 k hk hp (hd k hk hp)⟩,h2,h5⟩
def ApFr (l x:V) (r0:Go.Ev.K) (tm:T):Prop:=gp 0 tm=l∧gp 1 tm=x∧gp 6 tm=.ptr r0 0 0∧gp 240 tm=.bad
def ApIn (l x:V) (s1:S) (r0:Go.Ev.K) (y:V) (at_:Nat) (s':S) (A0:A):Prop:=∃ tm' row en,A0=.ext 2 tm' s'∧ApFr l x r0 tm'∧gp 4 tm'=y∧gp 7 tm'=iv .i64 at_∧gp 8 tm'=iv .i64 row∧gp 9 tm'=iv .i64 en∧WF (fromV s1 l) (lenV l) ((word s1 x).drop at_) at_ row en
def ApOut (l x:V) (s1:S) (A0:A):Prop:=∃ tm' s'',A0=.ext 0 tm' s''∧gp 240 tm'=.bad∧Ext s1 s''∧Gr s1 s'' (gp 4 tm')∧lenV (gp 4 tm')≤4000∧ResP (fromV s1 l) (toV s1 l) (lenV l) (word s1 x) (word s'' (gp 4 tm'))
def yY (l x:V) (s1:S) (nd:List Int→Option (Go.Ev.K × Go.Ev.K)) (r0:Go.Ev.K):Nat→Lt
 | 55=>⟨fun tm s'=>∃ (at_ d:Nat) (a m:Go.Ev.K) (row en:Int),Ext s1 s'∧at_<lenV x∧at_+d≤lenV x∧ApFr l x r0 tm∧gp 7 tm=iv .i64 at_∧gp 11 tm=iv .i64 ((at_+d:Nat):Int)∧gp 10 tm=.ptr a 0 0∧nd (((word s1 x).drop at_).take d)=some (a,m) ∧
   gp 8 tm=iv .i64 row∧gp 9 tm=iv .i64 en∧WI (fromV s1 l) (lenV l) ((word s1 x).drop at_) at_ d row en,
  fun tm s' A0=>∀ at_:Nat,gp 7 tm=iv .i64 at_→ApIn l x s1 r0 (gp 4 tm) at_ s' A0⟩
 | _=>⟨fun tm s'=>∃ at_:Nat,at_≤lenV x∧Ext s1 s'∧ApFr l x r0 tm∧gp 7 tm=iv .i64 at_∧Gr s1 s' (gp 4 tm)∧lenV (gp 4 tm)≤20*at_∧∀ r,ResP (fromV s1 l) (toV s1 l) (lenV l) ((word s1 x).drop at_) r→ResP (fromV s1 l) (toV s1 l) (lenV l) (word s1 x) (word s' (gp 4 tm)++r),
  fun _ _ A0=>ApOut l x s1 A0⟩
theorem ApIn.nb {l x:V} {s1 s':S} {r0:Go.Ev.K} {y:V} {at_:Nat} {a:A} (h:ApIn l x s1 r0 y at_ s' a):¬a.isBad:=by
 obtain ⟨_,_,_,rfl,_⟩:=h;exact fun h=>h
theorem ApOut.nb {l x:V} {s1:S} {a:A} (h:ApOut l x s1 a):¬a.isBad:=by
 obtain ⟨_,_,rfl,_⟩:=h;exact fun h=>h
section
variable {l x:V} {s0 s1:S} {nd:List Int→Option (Go.Ev.K × Go.Ev.K)} {rw:List Int→Int} {r0 m0:Go.Ev.K}
theorem zIc (_:Tab s1 l) (_:okTab s1 l) (hx:Ints s1 x) (hT:TreeOK s0 s1 nd rw) (hR:yE (fromV s1 l) (lenV l) nd rw) :
  ∀ tm s',(yY l x s1 nd r0 55).pre tm s'→(yY l x s1 nd r0 55).post tm s' (zbQ.run (Rk Tryz.prog K (yY l x s1 nd r0)) tm s'):=by
 refine zC (L:=yY l x s1 nd r0) pcOk0.1 pcOk0.2 zHI (fun tm _=>lenV x - (toI (gp 11 tm)).toNat) (fun tm s' a h1 h2=>by obtain ⟨at_,_,_,_,_,_,_,_,_,_,h7,_⟩:=h1;exact (h2 at_ h7).nb) ?_
 rintro tm s' ⟨at_,d,a,m,row,en,hE,hat,hd,⟨h0,h1,h6,h240⟩,h7,h11,h10,hnode,h8,h9,hW⟩ IH at' h7'
 obtain rfl:at_=at':=zdw (h7.symm.trans h7')
 show ApIn l x s1 r0 (gp 4 tm) at_ s' (zbQ.run _ tm s')
 generalize Rk Tryz.prog _ _=r at IH ⊢
 generalize h4:gp 4 tm=y at *
 have hlen:((word s1 x).drop at_).length=lenV x - at_:=by simp
 by_cases hlt:at_+d<lenV x
 ·have hw:=wrap1 hlt hx.2.1
  have hlti:((at_+d:Nat):Int)<lenV x:=by omega
  obtain ⟨p,hp,hP⟩:=(hx.ext hE).1.at_ hlt
  rw [(hx.ext hE).2] at hP
  have hz:((word s1 x).drop at_)[d]?=some (intV s1 x (at_+d)):=by rw [List.getElem?_drop];exact qP hlt
  generalize intV s1 x (at_+d)=z at hP hz
  have htk:=zfQ hz
  have hxl:=(hx.ext hE).1.1.len
  obtain ⟨d1,d2,d3,d4⟩:=(hT.later hE).read hnode
  cases hch:nd (((word s1 x).drop at_).take d++[z]) with
  | none =>
   have e3:=fun c=>d3 z c hch
   have hfin:WF (fromV s1 l) (lenV l) ((word s1 x).drop at_) at_ row en:=hW.fin fun k hk hp=>by
    rcases Nat.lt_or_ge d (fromV s1 l k).length with g | g
    ·refine absurd hch (hR.1 k hk _ ?_)
     rw [←htk]
     rw [List.prefix_iff_eq_take.1 hp]
     rw [List.prefix_take_iff]
     exact ⟨List.take_prefix _ _,by rw [List.length_take];omega⟩
    ·exact g
   simp [zcL,ja,gp_sp,h1,h10,h11,hxl,ze,hp,hP,yb,zi,d1,e3,zny,zd,hlti,-Int.natCast_add]
   exact ⟨_,row,en,rfl,⟨by simp [gp_sp,h0],by simp [gp_sp,h1],by simp [gp_sp,h6],by simp [gp_sp,h240]⟩,by simp [gp_sp,h4],by simp [gp_sp,h7],by simp [gp_sp,h8],by simp [gp_sp,h9],hfin⟩
  | some q =>
   obtain ⟨b,m'⟩:=q
   have e4:=fun c=>d4 z c b m' hch
   obtain ⟨f1,f2,f3,f4⟩:=(hT.later hE).read hch
   have hch':nd (((word s1 x).drop at_).take (d+1))=some (b,m'):=by rw [htk];exact hch
   have hrw:=hR.2 _ (by rw [hch];simp)
   rw [←htk] at hrw f2
   have next:∀ tm' row' en',ApFr l x r0 tm'→gp 4 tm'=y→gp 7 tm'=iv .i64 at_→gp 11 tm'=iv .i64 (((at_+d:Nat):Int)+1)→gp 10 tm'=.ptr b 0 0→gp 8 tm'=iv .i64 row'→gp 9 tm'=iv .i64 en'→WI (fromV s1 l) (lenV l) ((word s1 x).drop at_) at_ (d+1) row' en'→ApIn l x s1 r0 y at_ s' (r.code js zfL tm' s'):=by
    intro tm' row' en' a0 a1 a2 a3 a4 a5 a6 a7
    have:=IH tm' s' (mu_lt h11 a3 hlt) ⟨at_,d+1,b,m',row',en',hE,hat,by omega,a0,a2,a3,a4,hch',a5,a6,a7⟩ at_ a2
    rwa [a1] at this
   by_cases hex:∃ k,k<lenV l∧fromV s1 l k=((word s1 x).drop at_).take (d+1)
   ·obtain ⟨k,hk,hke⟩:=hex
    have hrk:=hrw.1 k hk hke
    rw [hrk] at f2
    have hkl:(fromV s1 l k).length=d+1:=by rw [hke,List.length_take];omega
    have hkp:fromV s1 l k <+: (word s1 x).drop at_:=by rw [hke];exact List.take_prefix _ _
    have hge:(0:Int)≤(k:Int):=by omega
    simp [zcL,ja,gp_sp,h1,h10,h11,hxl,ze,zdN,zo,hw,hp,hP,yb,zi,d1,e4,f2,zeZ,zd,hlti,hge,-Int.natCast_add]
    refine next _ k (((at_+d:Nat):Int)+1) ⟨?_,?_,?_,?_⟩ ?_ ?_ ?_ ?_ ?_ ?_ (.inr ⟨k,hk,rfl,hkp,by omega,by rw [hkl];omega,fun k' hk' hp' hl'=>by omega⟩)
    all_goals simp [gp_sp,h0,h1,h4,h6,h7,h240]
   ·have hrk:=hrw.2 fun k hk hke=>hex ⟨k,hk,hke⟩
    rw [hrk] at f2
    simp [zcL,ja,gp_sp,h1,h10,h11,hxl,ze,zdN,zo,hw,hp,hP,yb,zi,d1,e4,f2,zeZ,zd,hlti,-Int.natCast_add]
    have hno:∀ k,k<lenV l→fromV s1 l k <+: (word s1 x).drop at_→(fromV s1 l k).length≠d+1:=fun k hk hp e=>hex ⟨k,hk,by rw [List.prefix_iff_eq_take.1 hp,e]⟩
    refine next _ row en ⟨?_,?_,?_,?_⟩ ?_ ?_ ?_ ?_ ?_ ?_ ?_
    ·simp [gp_sp,h0]
    ·simp [gp_sp,h1]
    ·simp [gp_sp,h6]
    ·simp [gp_sp,h240]
    ·simp [gp_sp,h4]
    ·simp [gp_sp,h7]
    ·simp [gp_sp]
    ·simp [gp_sp]
    ·simp [gp_sp,h8]
    ·simp [gp_sp,h9]
    ·rcases hW with ⟨w1,w2,w3⟩ | ⟨j,w1,w2,w3,w4,w5,w6⟩
     ·exact .inl ⟨w1,w2,fun k hk hp=>by have:=w3 k hk hp;have:=hno k hk hp;omega⟩
     ·exact .inr ⟨j,w1,w2,w3,by omega,w5,fun k hk hp hl=>w6 k hk hp (by have:=hno k hk hp;omega)⟩
 ·have hlti:¬((at_+d:Nat):Int)<lenV x:=by omega
  have hfin:WF (fromV s1 l) (lenV l) ((word s1 x).drop at_) at_ row en:=hW.fin fun k hk hp=>by have:=hp.length_le;omega
  simp [zcL,ja,gp_sp,h1,h11,(hx.ext hE).1.1.len,ze,zd,hlti,-Int.natCast_add]
  exact ⟨_,row,en,rfl,⟨by simp [gp_sp,h0],by simp [gp_sp,h1],by simp [gp_sp,h6],by simp [gp_sp,h240]⟩,by simp [gp_sp,h4],by simp [gp_sp,h7],by simp [gp_sp,h8],by simp [gp_sp,h9],hfin⟩
end
theorem WF.step {F T:Nat→List Int} {n:Nat} {x:List Int} {at_:Nat} {row en:Int} (h:WF F n x at_ row en):(row=-1∧StepP F T n x 1 (x.take 1)∧en=at_+1)∨∃ j:Nat,j<n∧row=j∧StepP F T n x (F j).length (T j)∧en=((at_+(F j).length:Nat):Int):=by
 rcases h with ⟨h1,h2,h3⟩ | ⟨j,h1,h2,h3⟩
 ·exact .inl ⟨h1,.inr ⟨h3,rfl,rfl⟩,h2⟩
 ·exact .inr ⟨j,h1.1,h2,.inl ⟨j,h1,rfl,rfl⟩,h3⟩
section
variable {l x:V} {s0 s1:S} {nd:List Int→Option (Go.Ev.K × Go.Ev.K)} {rw:List Int→Int} {r0 m0:Go.Ev.K}
theorem zHo (hl:Tab s1 l) (hok:okTab s1 l) (hx:Ints s1 x) (hX:lenV x≤200) (hT:TreeOK s0 s1 nd rw) (hR:yE (fromV s1 l) (lenV l) nd rw) (hroot:nd []=some (r0,m0)) :
  ∀ tm s',(yY l x s1 nd r0 110).pre tm s'→(yY l x s1 nd r0 110).post tm s' (zcj.run (Rk Tryz.prog K (yY l x s1 nd r0)) tm s'):=by
 refine zC (L:=yY l x s1 nd r0) pcOk0.1 pcOk0.2 zHU (fun tm _=>lenV x - (toI (gp 7 tm)).toNat) (fun tm s' a h1 (h2:ApOut _ _ _ _)=>h2.nb) ?_
 rintro tm s' ⟨at_,hat,hE,⟨h0,h1,h6,h240⟩,h7,hG,hlen,hres⟩ IH
 show ApOut l x s1 (zcj.run _ tm s')
 have hIn:=zIc hl hok hx hT hR (r0:=r0)
 generalize Rk Tryz.prog _ _=r at IH hIn ⊢
 generalize h4:gp 4 tm=y at *
 have hxl:=(hx.ext hE).1.1.len
 by_cases hlt:at_<lenV x
 ·have hlti:(at_:Int)<lenV x:=by omega
  have hw:=wrap1 hlt hx.2.1
  have hne:(word s1 x).drop at_≠[]:=fun h=>by have:=congrArg List.length h;simp at this;omega
  simp [zsT,ja,gp_sp,h1,h6,h7,hxl,ze,zo,hw,zd,zhE,hlt]
  generalize hA:zbQ.run r _ s'=a
  have hin:=(hA▸hIn _ s' ⟨at_,0,r0,m0,-1,(at_:Int)+1,hE,hlt,by omega,⟨by simp [gp_sp,h0],by simp [gp_sp,h1],by simp [gp_sp,h6],by simp [gp_sp,h240]⟩,by simp [gp_sp,h7],by simp [gp_sp],by simp [gp_sp],hroot,by simp [gp_sp],by simp [gp_sp],
   .inl ⟨rfl,rfl,fun k hk hp=>by have:=(hok.2.2 k hk).1;omega⟩⟩) at_ (by simp [gp_sp,h7])
  have next:∀ tm' s2 (k:Nat) out,Ext s1 s2→ApFr l x r0 tm'→gp 7 tm'=iv .i64 ((at_+k:Nat):Int)→Gr s1 s2 (gp 4 tm')→StepP (fromV s1 l) (toV s1 l) (lenV l) ((word s1 x).drop at_) k out→word s2 (gp 4 tm')=word s' y++out→ApOut l x s1 (r.code js zfK tm' s2):=by
   intro tm' s2 k out a0 a1 a2 a3 a4 a5
   obtain ⟨k1,k2,k3⟩:=zMV hok hne a4
   simp at k2
   refine IH tm' s2 ?_ ⟨at_+k,by omega,a0,a1,a2,a3,?_,fun z hz=>?_⟩
   ·rw [a2,h7,zp,zp];omega
   ·rw [wQ (s:=s2),a5,List.length_append,zq];omega
   ·rw [a5,List.append_assoc]
    exact hres _ (.step hne a4 (by rw [List.drop_drop];exact hz))
  obtain ⟨tm',row,en,rfl,⟨k0,k1,k6,k240⟩,k4,k7,k8,k9,hWF⟩:=hin
  simp [gp_sp,h4] at k4
  rcases hWF.step (T:=toV s1 l) with ⟨rfl,hSt,rfl⟩ | ⟨j,hj,rfl,hSt,rfl⟩
  ·obtain ⟨p,hp,hP⟩:=(hx.ext hE).1.at_ hlt
   rw [(hx.ext hE).2] at hP
   have htk:((word s1 x).drop at_).take 1=[intV s1 x at_]:=by
    have:=zfQ (w:=(word s1 x).drop at_) (j:=0) (x:=intV s1 x at_) (by rw [List.getElem?_drop];exact qP hlt)
    simpa using this
   rw [htk] at hSt
   generalize intV s1 x at_=z at hP hSt
   have hEb:Ext s' (addB s' (.row [iv .i64 z] 1 3 false 0 0 0)):=zP _ _
   have hbox:Ints (addB s' (.row [iv .i64 z] 1 3 false 0 0 0)) (.sl s'.nx 0 0 1 1)∧word (addB s' (.row [iv .i64 z] 1 3 false 0 0 0)) (.sl s'.nx 0 0 1 1)=[z]:=by
    refine ⟨⟨.inr ⟨s'.nx,0,0,1,.inl ⟨1,rfl,by omega⟩,by show s'.nx.toNat<s'.nx.succ.toNat;rw [K.toNat_succ];omega,_,_,_,_,_,_,_,zS _ _,rfl,yn.2 (.inr ⟨rfl,by omega⟩)⟩,by simp [lenV],fun j hj=>?_⟩,?_⟩
    ·have:j=0:=by simpa [lenV] using hj
     subst this
     simp [cellV,zS,jN,zp]
    ·simp [word,lenV,intV,cellV,zS,jN,zp]
   generalize hs2:addB s' (.row [iv .i64 z] 1 3 false 0 0 0)=s2 at hEb hbox
   obtain ⟨y',s3,ha,hE3,hG3,hw3,-⟩:=(hG.ext hEb).app (hE.trans hEb) hbox.1 (by simp [lenV] at hlen ⊢;omega)
   have hyw:word s2 y=word s' y:=by
    have hyI:Ints s' y:=hG.ints (by omega)
    exact hyI.word hEb
   rw [hyw,hbox.2] at hw3
   simp [zf,gp_sp,k1,k4,k7,k8,k9,zdN,hp,hP,qC,rep,qE,qz,upd,put,zr,hs2,ha]
   exact next _ s3 1 [z] hE3 ⟨by simp [gp_sp,k0],by simp [gp_sp,k1],by simp [gp_sp,k6],by simp [gp_sp,k240]⟩ (by simp [gp_sp]) (by simp [gp_sp];exact hG3) hSt (by simp [gp_sp];exact hw3)
  ·have hl':=hl.ext hE
   obtain ⟨p,q0,q1,hp,-,hq1,-,hL1,-⟩:=hl'.1.fields hj
   rw [hl'.2.1] at hL1
   have hTI:=((hl.2.2 j hj).2.ext hE).1
   have hTw:word s' (cellV s1 l (j*2+1))=toV s1 l j:=(hl.2.2 j hj).2.word hE
   have hT20:=(hok.2.2 j hj).2.2.1
   have hTl:lenV (cellV s1 l (j*2+1))≤20:=by rw [wQ (s:=s'),hTw];exact hT20
   obtain ⟨y',s3,ha,hE3,hG3,hw3,-⟩:=hG.app hE hTI (by omega)
   rw [hTw] at hw3
   have hge:(0:Int)≤(j:Int):=by omega
   simp [zf,gp_sp,k0,k4,k8,k9,zdN,hge,hp,hq1,hL1,ha,-Int.natCast_add]
   exact next _ s3 _ _ hE3 ⟨by simp [gp_sp,k0],by simp [gp_sp,k1],by simp [gp_sp,k6],by simp [gp_sp,k240]⟩ (by simp [gp_sp]) (by simp [gp_sp];exact hG3) hSt (by simp [gp_sp];exact hw3)
 ·have h00:at_=lenV x:=by omega
  have hnil:(word s1 x).drop at_=[]:=List.drop_of_length_le (by simp;omega)
  simp [zsT,ja,gp_sp,h1,h7,hxl,ze,zd,hlt]
  refine ⟨_,_,rfl,by simp [gp_sp,h240],hE,by simp [gp_sp,h4];exact hG,by simp [gp_sp,h4];omega,?_⟩
  have:=hres [] (by rw [hnil];exact .nil)
  simp [gp_sp,h4]
  simpa using this
end
theorem zLj:Holds Tryz.prog K 17:=by
 rintro a s ⟨l,x,rfl,hl,hx,hf⟩
 suffices h:∃ y e s',CallX Tryz.prog 17 [l,x] s (.ls 1 [y,iv .i64 e]) s'∧Ext s s'∧Ints s' y∧ApP (fromV s l) (toV s l) (lenV l) (word s x) (word s' y) e by
  obtain ⟨y,e,s',h1,h2,h3,h4⟩:=h
  exact ⟨_,s',h1,fun l' x' e=>by cases e;exact ⟨h2,y,_,rfl,h3,h4⟩⟩
 have hnil:∀ t:S,Ints t (.nil 1):=fun t=>⟨.inl (.inl rfl),by simp [lenV],fun j hj=>by cases hj⟩
 have hnw:∀ t:S,word t (.nil 1)=[]:=fun t=>rfl
 have hV:=zn (L:=noL) zFi
 have hS:=zn (L:=noL) zro
 have hTr:=zn (L:=noL) zNt
 obtain ⟨w,s1,e1,hp⟩:=hV [l] s ⟨l,rfl,hl⟩
 obtain ⟨hE1,rfl⟩:=hp _ rfl
 by_cases g1:okTab s l
 case neg =>
  simp only [g1,decide_false] at e1
  refine ⟨.nil 1,1,s1,fn_k (L:=noL) ?_,hE1,hnil _,.inl ⟨fun h=>g1 h.1,rfl,hnw _⟩⟩
  generalize Rk Tryz.prog _ _=r at e1 ⊢
  simp [ja,gp_sp,e1,zd]
 simp only [g1,decide_true] at e1
 have hx1:=hx.ext hE1
 by_cases g2:200<lenV x
 ·have g2':(200:Int)<lenV x:=by omega
  refine ⟨.nil 1,1,s1,fn_k (L:=noL) ?_,hE1,hnil _,.inl ⟨fun h=>by have:=h.2.1;rw [zq] at this;omega,rfl,hnw _⟩⟩
  generalize Rk Tryz.prog _ _=r at e1 ⊢
  simp [ja,gp_sp,e1,hx.1.len,zw,zd,g2']
 have g2':¬(200:Int)<lenV x:=by omega
 obtain ⟨w,s2,e2,hp⟩:=hS [x,iv .i64 500] s1 ⟨x,500,rfl,hx1.1⟩
 obtain ⟨hE2,rfl⟩:=hp _ _ rfl
 rw [hx.word hE1] at e2
 by_cases g3:okSym 500 (word s x)
 case neg =>
  simp only [g3,decide_false] at e2
  refine ⟨.nil 1,1,s2,fn_k (L:=noL) ?_,hE1.trans hE2,hnil _,.inl ⟨fun h=>g3 h.2.2,rfl,hnw _⟩⟩
  generalize Rk Tryz.prog _ _=r at e1 e2 ⊢
  simp [ja,gp_sp,e1,e2,hx.1.len,zw,zd,g2']
 simp only [g3,decide_true] at e2
 have hE12:=hE1.trans hE2
 have hl2:=hl.ext hE12
 have g12:okTab s2 l:=(wI hl2.2.2.1 hl2.2.2.2).2 g1
 obtain ⟨w,s3,e3,hp⟩:=hTr [l] s2 ⟨l,rfl,hl2.1,g12⟩
 obtain ⟨hE3,nd,rw,r0,m0,rfl,hroot,hT,hR⟩:=hp _ rfl
 have hE13:=hE12.trans hE3
 have hl3:=hl.ext hE13
 have hl23:=hl2.1.ext hE3
 have hx3:=hx.ext hE13
 have g13:okTab s3 l:=(wI hl3.2.2.1 hl3.2.2.2).2 g1
 have hR3:yE (fromV s3 l) (lenV l) nd rw:=by
  refine ⟨fun k hk w hw=>hR.1 k hk w (by rwa [hl23.2.2.1 k hk] at hw),fun w hw=>⟨fun k hk e=>(hR.2 w hw).1 k hk (by rwa [hl23.2.2.1 k hk] at e),fun hh=>(hR.2 w hw).2 fun k hk e=>hh k hk (by rw [hl23.2.2.1 k hk];exact e)⟩⟩
 have hL:=zHo hl3.1 g13 hx3.1 (by omega) hT hR3 hroot
 have e1':(Rk Tryz.prog K (yY l x s3 nd r0)).call 22 [l] s=.ret (.bool true) s1:=e1
 have e2':(Rk Tryz.prog K (yY l x s3 nd r0)).call 27 [x,iv .i64 500] s1=.ret (.bool true) s2:=e2
 have e3':(Rk Tryz.prog K (yY l x s3 nd r0)).call 34 [l] s2=.ret (.ptr r0 0 0) s3:=e3
 suffices h:∃ y e s',(fnC pc0 17).run (Rk Tryz.prog K (yY l x s3 nd r0)) [l,x] s=.ret (.ls 1 [y,iv .i64 e]) s'∧Ext s s'∧Ints s' y∧ApP (fromV s l) (toV s l) (lenV l) (word s x) (word s' y) e by
  obtain ⟨y,e,s',h1,h2⟩:=h
  exact ⟨y,e,s',fn_k h1,h2⟩
 generalize Rk Tryz.prog K (yY l x s3 nd r0)=r at hL e1' e2' e3' ⊢
 simp [ja,gp_sp,e1',e2',e3',hx.1.len,zw,zd,g2']
 generalize hA:zcj.run r _ s3=a
 have:=hA▸hL _ s3 ⟨0,by omega,Ext.refl _,⟨by simp [gp_sp],by simp [gp_sp],by simp [gp_sp],by simp [gp_sp]⟩,by simp [gp_sp],by simp [gp_sp];exact .inl (.inl rfl),by simp [gp_sp,lenV],fun z hz=>by simpa [gp_sp,word,lenV] using hz⟩
 obtain ⟨tm',s4,rfl,k1,k2,k3,k4,k5⟩:=(this:ApOut _ _ _ _)
 have hres:=zAC hl3.2.2.1 hl3.2.2.2 k5
 rw [hx.word hE13] at hres
 have hok:wx (lenV l) (fromV s l) (toV s l)∧jq (word s x):=⟨g1,by rw [zq];omega,g3⟩
 have hyI:Ints s4 (gp 4 tm'):=k3.ints (by omega)
 generalize hy:gp 4 tm'=y at *
 by_cases g4:200<lenV y
 ·have g4':(200:Int)<lenV y:=by omega
  exact ⟨.nil 1,2,s4,by simp [zf,gp_sp,k1,hy,hyI.1.len,zw,g4'],hE13.trans k2,hnil _,.inr ⟨hok,_,hres,.inr ⟨by rw [zq];omega,rfl,hnw _⟩⟩⟩
 ·have g4':¬(200:Int)<lenV y:=by omega
  exact ⟨y,0,s4,by simp [zf,gp_sp,k1,hy,hyI.1.len,zw,g4'],hE13.trans k2,hyI,.inr ⟨hok,_,hres,.inl ⟨by rw [zq];omega,rfl,rfl⟩⟩⟩
end Go.Proofs.YtlklljjppambpaaGreatDoor.oev
