/- The contracts of the functions that the statements reach, for all arguments. No statement of the seat stands here. Conditions: the arguments are as their types say. By an AI agent. -/
import Derived.Test.YthdlmdoppfigoaaGreatDoorOvV
namespace NatB
open Go.Ev
def val (B:Nat):List Nat→Nat
 | []=>0
 | x::l=>x+B*val B l
theorem jG (B:Nat):∀ a b:List Nat,val B (a++b)=val B a+B ^ a.length*val B b
 | [],b=>by simp [val]
 | x::a,b=>by
  simp only [List.cons_append,val,jG B a b,kay,Nat.pow_succ]
  rw [Nat.mul_add,←Nat.mul_assoc,Nat.mul_comm B (B ^ a.length)];omega
theorem val_lt {B:Nat} (hB:0<B):∀ {l:List Nat},(∀ x∈l,x<B)→val B l<B ^ l.length
 | [],_=>by simp [val]
 | x::l,h=>by
  have I:=h x (by simp)
  have J:=val_lt hB (l:=l) fun y hy=>h y (by simp [hy])
  simp only [val,kay,Nat.pow_succ]
  have Q:B*(val B l+1)≤B*B ^ l.length:=Nat.mul_le_mul_left _ J
  rw [Nat.mul_comm (B ^ l.length)]
  rw [Nat.mul_add,kaz] at Q
  omega
variable {C D H M top:Nat}
theorem zsD {B F S q rest:Nat} (E:F<D) (A:M<B) (f:S<D) (T:top=q*H+rest) (h:rest*B+M<q*C) :
  top*(B*D)+M*D+S<q*(H*(B*D)+C*D+F):=by
 -- (top B + M + 1) D ≤ q (H B + C) D
 have I:top*B+M+1≤q*(H*B+C):=by
  rw [T,Nat.add_mul,Nat.mul_add,←Nat.mul_assoc];omega
 have J:(top*B+M+1)*D≤q*(H*B+C)*D:=kag _ I
 have Q:(top*B+M+1)*D=top*(B*D)+M*D+D:=by rw [Nat.add_mul,Nat.add_mul,Nat.mul_assoc,Nat.one_mul]
 have K:q*(H*B+C)*D≤q*(H*(B*D)+C*D+F):=by
  rw [Nat.mul_assoc]
  refine Nat.mul_le_mul_left _ ?_
  rw [Nat.add_mul,Nat.mul_assoc];omega
 omega
theorem zu2 {B F S q rest:Nat} (O:0<D) (hB:0<B) (Z:0<H) (N:C<B) (E:F<D) (U:q≤B) (T:top=q*H+rest) (h:q*C≤rest*B+M) :
  q*(H*(B*D)+C*D+F)≤top*(B*D)+M*D+S+(H*(B*D)+C*D+F):=by
 -- q V ≤ q (H B + C) D + q D ≤ (top B + M) D + B D
 have I:q*(H*B+C)≤top*B+M:=by
  rw [T,Nat.add_mul,Nat.mul_add,←Nat.mul_assoc];omega
 have J:q*(H*B+C)*D≤(top*B+M)*D:=kag _ I
 have Q:q*(H*(B*D)+C*D+F)=q*(H*B+C)*D+q*F:=by
  rw [Nat.mul_add,Nat.mul_assoc q,Nat.add_mul,Nat.mul_assoc H]
 have K:q*F≤B*D:=Nat.mul_le_mul U (Nat.le_of_lt E)
 have d:B*D≤H*(B*D):=Nat.le_mul_of_pos_left _ Z
 have W:(top*B+M)*D=top*(B*D)+M*D:=by rw [Nat.add_mul,Nat.mul_assoc]
 omega
theorem zsj {B F S q rest:Nat} (N:C<B) (E:F<D) (U:q≤B) (T:top=q*H+rest) (h:B≤rest) :
  q*(H*(B*D)+C*D+F)≤top*(B*D)+M*D+S:=by
 have h0:C*D+F≤B*D:=by
  have:(C+1)*D≤B*D:=kag _ N
  rw [Nat.add_mul] at this;omega
 have I:q*(H*(B*D)+C*D+F)≤q*(H*(B*D))+q*(B*D):=by
  rw [kaI,Nat.mul_add]
  exact Nat.add_le_add_left (Nat.mul_le_mul_left _ h0) _
 have J:q*(H*(B*D))+q*(B*D)≤top*(B*D):=by
  rw [T,←Nat.mul_assoc,←Nat.add_mul]
  refine kag _ ?_
  omega
 omega
theorem zBc {U V q:Nat} (i:0<V) (I:U<(q+1)*V) (J:q*V≤U+V):q=U / V∨(0<q∧q=U / V+1∧U<q*V):=by
 by_cases h:q*V≤U
 ·left
  have:=Nat.div_eq_of_lt_le (k:=q) (m:=U) (n:=V) (by simpa [Nat.mul_comm] using h) (by simpa [Nat.mul_comm,Nat.succ_eq_add_one] using I)
  exact this.symm
 ·right
  have E:0<q:=by
   rcases Nat.eq_zero_or_pos q with e | e
   ·subst e;simp at h
   ·exact e
  obtain ⟨p,rfl⟩:∃ p,q=p+1:=⟨q - 1,by omega⟩
  rw [Nat.add_mul,Nat.one_mul] at J h
  refine ⟨E,?_,by rw [Nat.add_mul,Nat.one_mul];omega⟩
  have:=Nat.div_eq_of_lt_le (k:=p) (m:=U) (n:=V) (by omega) (by rw [Nat.add_mul,Nat.one_mul];omega)
  rw [this]
variable {carry u v:Nat}
theorem sub_step {B q borrow:Nat} (hB:0<B) (hu:u<B) (hb:borrow≤1) :
  (u+B - (carry+q*v) % B - borrow) % B+(q*v+carry+borrow)=u+B*((carry+q*v) / B+(1 - (u+B - (carry+q*v) % B - borrow) / B)) ∧
   1 - (u+B - (carry+q*v) % B - borrow) / B≤1∧(u+B - (carry+q*v) % B - borrow) % B<B∧(carry+q*v) % B+borrow≤u+B:=by
 generalize Z:carry+q*v=p
 have I:=Nat.mod_lt p hB
 have J:=Nat.div_add_mod p B
 generalize E:u+B - p % B - borrow=d
 have Q:=Nat.mod_lt d hB
 have K:=Nat.div_add_mod d B
 have g:d<B*2:=by omega
 have W:d / B<2:=Nat.div_lt_of_lt_mul g
 generalize d / B=k at K W ⊢
 generalize p / B=j at J ⊢
 refine ⟨?_,Nat.sub_le _ _,Q,by omega⟩
 rw [Nat.mul_add]
 obtain rfl | rfl:k=0∨k=1:=by omega
 ·simp only [Nat.mul_zero,Nat.sub_zero,kaz] at K ⊢
  omega
 ·simp only [kaz,Nat.sub_self,Nat.mul_zero] at K ⊢
  omega
theorem zw2 {B:Nat} (hB:0<B):(u+carry+v) % B+B*((u+carry+v) / B)=u+v+carry:=by
 have:=Nat.div_add_mod (u+carry+v) B
 omega
theorem za0 (B:Nat) (l:List Nat) (x:Nat):val B (l++[x])=val B l+B ^ l.length*x:=by
 rw [jG];simp [val]
theorem digit_done {B m q:Nat} (hB:0<B) {u v r:List Nat} {c b:Nat} (N:∀ x∈r,x<B) (S:r.length=m) (o:u.length=m) (hu:∀ x∈u,x<B) (p:0<val B v) (X:c=0) (hb:b≤1)
  (h:val B r+q*val B v=val B u+(c+b)*B ^ m) (I:val B u<(q+1)*val B v) (J:q*val B v≤val B u+val B v) :
  (b=0→q=val B u / val B v∧val B r=val B u % val B v)∧(b=1→q=val B u / val B v+1∧val B r+val B v=val B u % val B v+B ^ m):=by
 subst X
 have C:=val_lt hB N
 have E:=val_lt hB hu
 rw [S] at C
 rw [o] at E
 have A:=Nat.div_add_mod (val B u) (val B v)
 have D:=Nat.mod_lt (val B u) p
 rcases zBc p I J with e | ⟨U,e,O⟩
 ·refine ⟨fun y=>?_,fun j=>?_⟩
  ·subst y
   refine ⟨e,?_⟩
   rw [e,Nat.mul_comm] at h
   omega
  ·subst j
   exfalso
   rw [e,Nat.mul_comm (val B u / val B v)] at h
   omega
 ·refine ⟨fun y=>?_,fun j=>?_⟩
  ·subst y;omega
  ·subst j
   refine ⟨e,?_⟩
   rw [e,Nat.add_mul,Nat.mul_comm (val B u / val B v)] at h
   omega
def scalP (B k:Nat) (xs:List Nat):Nat→List Nat × Nat
 | 0=>([],0)
 | i+1=>((scalP B k xs i).1++[(xs.getD i 0*k+(scalP B k xs i).2) % B],(xs.getD i 0*k+(scalP B k xs i).2) / B)
theorem scalP_len (B k:Nat) (xs:List Nat):∀ i,(scalP B k xs i).1.length=i
 | 0=>rfl
 | i+1=>by rw [scalP,kae,scalP_len B k xs i];rfl
theorem scalP_lt {B k:Nat} (hB:0<B) (xs:List Nat):∀ i,∀ x∈(scalP B k xs i).1,x<B
 | 0,x,h=>by cases h
 | i+1,x,h=>by
  rw [scalP] at h
  rcases kaq.1 h with h | h
  ·exact scalP_lt hB xs i x h
  ·rw [kak.1 h];exact Nat.mod_lt _ hB
variable {xs:List Nat}
theorem zf7 {B:Nat} (hB:0<B) (h:∀ x∈xs,x<B) (i:Nat):xs.getD i 0<B:=by
 by_cases hi:i<xs.length
 ·rw [kaa,kab hi];exact h _ (kai _)
 ·rw [kaa,kal (by omega)];exact hB
theorem zhV {B k:Nat} (hB:0<B) (F:0<k) {xs:List Nat} (h:∀ x∈xs,x<B):∀ i,(scalP B k xs i).2<k
 | 0=>F
 | i+1=>by
  have I:=zhV hB F h i
  have J:=zf7 hB h i
  rw [scalP]
  refine Nat.div_lt_of_lt_mul ?_
  have Q:(xs.getD i 0+1)*k≤B*k:=kag _ J
  rw [Nat.add_mul,Nat.one_mul] at Q
  show xs.getD i 0*k+(scalP B k xs i).2<B*k
  omega
theorem val_take_succ (B:Nat) (xs:List Nat) (i:Nat):val B (xs.take (i+1))=val B (xs.take i)+B ^ i*xs.getD i 0:=by
 by_cases hi:i<xs.length
 ·rw [List.take_add_one,kab hi,kaa,kab hi,jG]
  simp [val,List.length_take,Nat.min_eq_left (Nat.le_of_lt hi)]
 ·rw [List.take_of_length_le (by omega),List.take_of_length_le (by omega),kaa,kal (by omega)]
  simp
theorem zmu (B k:Nat) (xs:List Nat):∀ i,val B (scalP B k xs i).1+B ^ i*(scalP B k xs i).2=val B (xs.take i)*k
 | 0=>by simp [scalP,val]
 | i+1=>by
  have X:=zmu B k xs i
  rw [scalP,za0,scalP_len,val_take_succ,Nat.add_mul,←X,Nat.pow_succ]
  have u:=Nat.div_add_mod (xs.getD i 0*k+(scalP B k xs i).2) B
  generalize (xs.getD i 0*k+(scalP B k xs i).2) % B=m at u ⊢
  generalize (xs.getD i 0*k+(scalP B k xs i).2) / B=d at u ⊢
  have e:=congrArg (fun z=>B ^ i*z) u
  simp only [Nat.mul_add] at e
  have T:B ^ i*B*d=B ^ i*(B*d):=Nat.mul_assoc _ _ _
  have D:B ^ i*xs.getD i 0*k=B ^ i*(xs.getD i 0*k):=Nat.mul_assoc _ _ _
  rw [T,D]
  omega
theorem scal_val {B k:Nat} (hB:0<B) (F:0<k) (A:k≤B) (h:∀ x∈xs,x<B):val B (scalP B k xs (xs.length+1)).1=val B xs*k:=by
 have I:=zmu B k xs (xs.length+1)
 have h0:(scalP B k xs (xs.length+1)).2=0:=by
  rw [scalP]
  have J:=zhV hB F h xs.length
  rw [kaa,kal (kad _)]
  show (0*k+(scalP B k xs xs.length).2) / B=0
  rw [Nat.zero_mul,kas]
  exact Nat.div_eq_of_lt (by omega)
 rw [h0,List.take_of_length_le (by omega)] at I
 simpa using I
def trimL:List Nat→List Nat
 | []=>[]
 | x::l=>match trimL l with | []=>if x=0 then [] else [x] | y::m=>x::y::m
theorem trimL_val (B:Nat):∀ l,val B (trimL l)=val B l
 | []=>rfl
 | x::l=>by
  have X:=trimL_val B l
  rw [trimL]
  cases h:trimL l with
  | nil =>
   rw [h] at X
   by_cases M:x=0
   ·simp [M,val,←X]
   ·simp [M,val,←X]
  | cons y m =>
   rw [h] at X
   simp only [val] at X ⊢
   rw [X]
theorem zsk (l:List Nat) (x:Nat):trimL (l++[x])=if x=0 then trimL l else l++[x]:=by
 induction l with
 | nil=>by_cases M:x=0<;>simp [trimL,M]
 | cons a l X =>
  rw [List.cons_append,trimL,X]
  by_cases M:x=0
  ·simp [M,trimL]
  ·simp only [M,if_false]
   cases l<;>rfl
theorem zcK (l:List Nat):∃ m,m≤l.length∧trimL l=l.take m∧(∀ i,m≤i→l.getD i 0=0)∧(m=0∨l.getD (m - 1) 0≠0):=by
 induction l with
 | nil=>exact ⟨0,kad _,rfl,fun i _=>by simp,.inl rfl⟩
 | cons x l X =>
  obtain ⟨m,I,J,Q,K⟩:=X
  rw [trimL]
  cases h:trimL l with
  | nil =>
   have h0:∀ i,l.getD i 0=0:=fun i=>by
    by_cases Y:m≤i
    ·exact Q i Y
    ·rw [h] at J
     have:l.take m=[]:=J.symm
     have f:min m l.length=0:=by rw [←List.length_take,this];rfl
     have:l=[]:=by
      rcases Nat.eq_zero_or_pos m with e | e
      ·omega
      ·exact kap.1 (by omega)
     subst this;simp
   by_cases M:x=0
   ·refine ⟨0,by simp,by simp [M],fun i _=>?_,.inl rfl⟩
    cases i with
    | zero=>simpa using M
    | succ i=>simpa using h0 i
   ·refine ⟨1,by simp,by simp [M],fun i hi=>?_,.inr (by simpa using M)⟩
    cases i with
    | zero=>omega
    | succ i=>simpa using h0 i
  | cons y C =>
   refine ⟨m+1,by simpa using I,by rw [List.take_succ_cons,←J,h],fun i hi=>?_,.inr ?_⟩
   ·cases i with
    | zero=>omega
    | succ i=>simpa using Q i (by omega)
   ·rcases K with rfl | K
    ·rw [h] at J;cases J
    ·cases m with
     | zero=>rw [h] at J;cases J
     | succ m=>simpa using K
variable {l:List Nat}
theorem trimL_len {m:Nat} (Y:m≤l.length) (h:∀ i,m≤i→l.getD i 0=0) (X:m=0∨l.getD (m - 1) 0≠0):trimL l=l.take m∧(trimL l).length=m:=by
 obtain ⟨k,u,Q,y,p⟩:=zcK l
 have e:k=m:=by
  rcases Nat.lt_trichotomy k m with g | g | g
  ·rcases X with rfl | X
   ·omega
   ·exact absurd (y (m - 1) (by omega)) X
  ·exact g
  ·rcases p with rfl | p
   ·omega
   ·exact absurd (h (k - 1) (by omega)) p
 subst e
 exact ⟨Q,by rw [Q,List.length_take];omega⟩
theorem zo4 {B:Nat} (h:trimL l=l) (Z:l≠[]) (hB:0<B):B ^ (l.length - 1)≤val B l:=by
 obtain ⟨x,m,rfl⟩:∃ x m,l=m++[x]:=⟨l.getLast Z,l.dropLast,(List.dropLast_concat_getLast Z).symm⟩
 rw [zsk] at h
 by_cases M:x=0
 ·rw [if_pos M] at h
  have J:(trimL m).length≤m.length:=by
   obtain ⟨k,I,J,-,-⟩:=zcK m
   rw [J,List.length_take];omega
  rw [h,kae] at J
  simp at J
  omega
 ·rw [za0,kae]
  show B ^ (m.length+1 - 1)≤_
  rw [Nat.add_sub_cancel]
  have:B ^ m.length*1≤B ^ m.length*x:=Nat.mul_le_mul_left _ (by omega)
  omega
def cmpZ (a b:Int):Int:=if a<b then -1 else if b<a then 1 else 0
theorem cmpZ_ne {a b:Int} (h:a≠b):¬cmpZ a b=0:=by
 unfold cmpZ
 split
 ·decide
 ·split
  ·decide
  ·omega
theorem cmpZ_self (a:Int):cmpZ a a=0:=by unfold cmpZ;simp
theorem zt1 {B:Nat} (hB:0<B) {p q t:List Nat} {x y:Nat} (f:p.length=q.length) (Z:∀ z∈p,z<B) (h:x<y):val B (p++x::t)<val B (q++y::t):=by
 rw [jG,jG,f]
 have I:=val_lt hB Z
 rw [f] at I
 simp only [val,Nat.mul_add]
 have J:B ^ q.length*(x+1)≤B ^ q.length*y:=Nat.mul_le_mul_left _ h
 rw [Nat.mul_add,kaz] at J
 omega
theorem cmp_block {B:Nat} (hB:0<B) {ys:List Nat} (M:∀ z∈xs,z<B) (hy:∀ z∈ys,z<B) (f:xs.length=ys.length) {j:Nat} (G:j<xs.length) (H:∀ i,j<i→i<xs.length→xs.getD i 0=ys.getD i 0) (Z:xs.getD j 0≠ys.getD j 0) :
  cmpZ (val B xs:Int) (val B ys:Int)=cmpZ (xs.getD j 0:Int) (ys.getD j 0:Int):=by
 have A:j<ys.length:=by omega
 have T:xs=xs.take j++xs.getD j 0::xs.drop (j+1):=by
  rw [kaa,kab G,Option.getD_some,←List.drop_eq_getElem_cons G,List.take_append_drop]
 have D:ys=ys.take j++ys.getD j 0::ys.drop (j+1):=by
  rw [kaa,kab A,Option.getD_some,←List.drop_eq_getElem_cons A,List.take_append_drop]
 have N:xs.drop (j+1)=ys.drop (j+1):=by
  apply kaL
  intro i
  rw [List.getElem?_drop,List.getElem?_drop]
  by_cases g:j+1+i<xs.length
  ·have:=H (j+1+i) (by omega) g
   rw [kaa,kaa,kab g,kab (by omega:j+1+i<ys.length)] at this
   rw [kab g,kab (by omega:j+1+i<ys.length)]
   simpa using this
  ·rw [kal (by omega),kal (by omega)]
 have O:(xs.take j).length=(ys.take j).length:=by rw [List.length_take,List.length_take,f]
 have C:∀ z∈xs.take j,z<B:=fun z hz=>M z (List.mem_of_mem_take hz)
 have E:∀ z∈ys.take j,z<B:=fun z hz=>hy z (List.mem_of_mem_take hz)
 have key:(xs.getD j 0<ys.getD j 0→val B xs<val B ys)∧(ys.getD j 0<xs.getD j 0→val B ys<val B xs):=by
  constructor
  ·intro h
   rw [T,D,N]
   have:=zt1 hB (t:=ys.drop (j+1)) O C h
   simpa [N] using this
  ·intro h
   rw [T,D,N]
   have:=zt1 hB (t:=ys.drop (j+1)) O.symm E h
   simpa [N] using this
 unfold cmpZ
 rcases kaK (xs.getD j 0) (ys.getD j 0) with h | h
 ·rw [if_pos (by have:=key.1 h;omega),if_pos (by omega)]
 ·have u:ys.getD j 0<xs.getD j 0:=by omega
  have:=key.2 u
  rw [if_neg (by omega),if_pos (by omega),if_neg (by omega),if_pos (by omega)]
theorem cmp_len {B:Nat} (hB:0<B) {ys:List Nat} (M:∀ z∈xs,z<B) (ty:trimL ys=ys) (h:xs.length<ys.length):val B xs<val B ys:=by
 have I:=val_lt hB M
 have J:=zo4 ty (fun e=>by rw [e] at h;simp at h) hB
 have Q:B ^ xs.length≤B ^ (ys.length - 1):=Nat.pow_le_pow_right hB (by omega)
 omega
theorem yO (B:Nat) (l:List Nat):val B l=val B (l.take l.length):=by rw [List.take_length]
theorem zdf {B:Nat} (hB:0<B) (h:∀ z∈l,z<B) {m:Nat} (Y:m≤l.length):val B (l.take m)<B ^ m:=by
 have:=val_lt hB (l:=l.take m) fun z hz=>h z (List.mem_of_mem_take hz)
 rwa [List.length_take,Nat.min_eq_left Y] at this
section
variable {B m q rest:Nat} {us ys:List Nat} (hB:0<B) (hu:∀ z∈us,z<B) (hy:∀ z∈ys,z<B)
include hB hu hy
theorem adj_high (o:ys.length=m+2) (f:us.length=m+3) (N:us.getD (m+2) 0*B+us.getD (m+1) 0=q*ys.getD (m+1) 0+rest) (h:rest*B+us.getD m 0<q*ys.getD m 0):val B us<q*val B ys:=by
 have Z:B ^ (m+1)=B*B ^ m:=by rw [Nat.pow_succ,Nat.mul_comm]
 have C:B ^ (m+2)=B*(B*B ^ m):=by rw [Nat.pow_succ,Z,Nat.mul_comm]
 have D:val B us=(us.getD (m+2) 0*B+us.getD (m+1) 0)*(B*B ^ m)+us.getD m 0*B ^ m+val B (us.take m):=by
  rw [yO,f,val_take_succ,val_take_succ,val_take_succ,Z,C,Nat.add_mul,Nat.mul_comm (B ^ m),Nat.mul_comm (B*B ^ m) (us.getD (m+1) 0),Nat.mul_comm (B*(B*B ^ m)),Nat.mul_assoc (us.getD (m+2) 0)]
  omega
 have A:val B ys=ys.getD (m+1) 0*(B*B ^ m)+ys.getD m 0*B ^ m+val B (ys.take m):=by
  rw [yO,o,val_take_succ,val_take_succ,Z,Nat.mul_comm (B ^ m),Nat.mul_comm (B*B ^ m)]
  omega
 rw [D,A]
 exact zsD (zdf hB hy (by omega)) (zf7 hB hu _) (zdf hB hu (by omega)) N h
theorem adj_low (o:ys.length=m+2) (f:us.length=m+3) (E:0<ys.getD (m+1) 0) (U:q≤B) (N:us.getD (m+2) 0*B+us.getD (m+1) 0=q*ys.getD (m+1) 0+rest) (h:q*ys.getD m 0≤rest*B+us.getD m 0):q*val B ys≤val B us+val B ys:=by
 have _:=hu
 have Z:B ^ (m+1)=B*B ^ m:=by rw [Nat.pow_succ,Nat.mul_comm]
 have C:B ^ (m+2)=B*(B*B ^ m):=by rw [Nat.pow_succ,Z,Nat.mul_comm]
 have D:val B us=(us.getD (m+2) 0*B+us.getD (m+1) 0)*(B*B ^ m)+us.getD m 0*B ^ m+val B (us.take m):=by
  rw [yO,f,val_take_succ,val_take_succ,val_take_succ,Z,C,Nat.add_mul,Nat.mul_comm (B ^ m),Nat.mul_comm (B*B ^ m) (us.getD (m+1) 0),Nat.mul_comm (B*(B*B ^ m)),Nat.mul_assoc (us.getD (m+2) 0)]
  omega
 have A:val B ys=ys.getD (m+1) 0*(B*B ^ m)+ys.getD m 0*B ^ m+val B (ys.take m):=by
  rw [yO,o,val_take_succ,val_take_succ,Z,Nat.mul_comm (B ^ m),Nat.mul_comm (B*B ^ m)]
  omega
 rw [D,A]
 exact zu2 (Nat.pow_pos hB) hB E (zf7 hB hy _) (zdf hB hy (by omega)) U N h
theorem adj_rest (o : ys.length = m + 1) (f : us.length = m + 2) (U : q ≤ B) (N : us.getD (m + 1) 0 * B + us.getD m 0 = q * ys.getD m 0 + rest) (h : B ≤ rest ∨ m = 0) : q * val B ys ≤ val B us := by
  have _ := hu
  cases m with
  | zero =>
    have D : val B us = us.getD 1 0 * B + us.getD 0 0 := by
      rw [yO, f, val_take_succ, val_take_succ]
      simp [val, Nat.mul_comm]; omega
    have A : val B ys = ys.getD 0 0 := by
      rw [yO, o, val_take_succ]
      simp [val]
    rw [D, A, N]
    omega
  | succ m =>
    have h : B ≤ rest := by rcases h with h | h
                            · exact h
                            · cases h
    have Z : B ^ (m + 1) = B * B ^ m := by rw [Nat.pow_succ, Nat.mul_comm]
    have C : B ^ (m + 2) = B * (B * B ^ m) := by rw [Nat.pow_succ, Z, Nat.mul_comm]
    have D : val B us = (us.getD (m + 2) 0 * B + us.getD (m + 1) 0) * (B * B ^ m) + us.getD m 0 * B ^ m + val B (us.take m) := by
      rw [yO, f, val_take_succ, val_take_succ, val_take_succ, Z, C, Nat.add_mul, Nat.mul_comm (B ^ m), Nat.mul_comm (B * B ^ m) (us.getD (m + 1) 0), Nat.mul_comm (B * (B * B ^ m)), Nat.mul_assoc (us.getD (m + 2) 0)]
      omega
    have A : val B ys = ys.getD (m + 1) 0 * (B * B ^ m) + ys.getD m 0 * B ^ m + val B (ys.take m) := by
      rw [yO, o, val_take_succ, val_take_succ, Z, Nat.mul_comm (B ^ m), Nat.mul_comm (B * B ^ m)]
      omega
    rw [D, A]
    exact zsj (zf7 hB hy _) (zdf hB hy (by omega)) U N h
end
variable {r:List Nat} {U Y c i x y:Nat}
theorem sub_inv' {B q:Nat} (hB:0<B) {b:Nat} (f:r.length=i) (h:val B r+q*Y=U+(c+b)*B ^ i) (M:x<B) (hb:b≤1) :
  val B (r++[(x+B - (c+q*y) % B - b) % B])+q*(Y+B ^ i*y)=U+B ^ i*x+((c+q*y) / B+(1 - (x+B - (c+q*y) % B - b) / B))*B ^ (i+1):=by
 obtain ⟨I,-,-,-⟩:=sub_step (q:=q) (v:=y) (carry:=c) hB M hb
 generalize (x+B - (c+q*y) % B - b) % B=d at I ⊢
 generalize ((c+q*y) / B+(1 - (x+B - (c+q*y) % B - b) / B))=k at I ⊢
 rw [za0,f,Nat.mul_add,Nat.pow_succ]
 have e:=congrArg (fun z=>B ^ i*z) I
 simp only [Nat.mul_add] at e
 have T:q*(B ^ i*y)=B ^ i*(q*y):=by rw [←Nat.mul_assoc,Nat.mul_comm q,Nat.mul_assoc]
 have D:k*(B ^ i*B)=B ^ i*(B*k):=by rw [Nat.mul_comm,Nat.mul_assoc]
 have N:(c+b)*B ^ i=B ^ i*c+B ^ i*b:=by rw [Nat.mul_comm,Nat.mul_add]
 rw [T,D]
 omega
theorem add_inv' {B:Nat} (hB:0<B) (f:r.length=i) (h:val B r+c*B ^ i=U+Y) :
  val B (r++[(x+c+y) % B])+(x+c+y) / B*B ^ (i+1)=U+B ^ i*x+(Y+B ^ i*y):=by
 have I:=zw2 (u:=x) (v:=y) (carry:=c) hB
 generalize (x+c+y) % B=d at I ⊢
 generalize (x+c+y) / B=k at I ⊢
 rw [za0,f,Nat.pow_succ]
 have e:=congrArg (fun z=>B ^ i*z) I
 simp only [Nat.mul_add] at e
 have D:k*(B ^ i*B)=B ^ i*(B*k):=by rw [Nat.mul_comm,Nat.mul_assoc]
 rw [D]
 have N:c*B ^ i=B ^ i*c:=Nat.mul_comm _ _
 omega
def rep (L:List Nat) (o:Nat) (r:List Nat):List Nat:=L.take o++(r++L.drop (o+r.length))
theorem rep_nil (L:List Nat) (o:Nat):rep L o []=L:=by simp [rep]
variable {L:List Nat} {o:Nat}
theorem rep_len (h:o+r.length≤L.length):(rep L o r).length=L.length:=by
 simp [rep];omega
theorem rep_get (h:o+r.length<L.length):(rep L o r).getD (o+r.length) 0=L.getD (o+r.length) 0:=by
 have I:(L.take o).length=o:=by rw [List.length_take];omega
 rw [rep,kaa,kaw (by omega),I,kaw (by omega),List.getElem?_drop,kaa]
 congr 2;omega
theorem rep_set (h:o+r.length<L.length) (x:Nat):(rep L o r).set (o+r.length) x=rep L o (r++[x]):=by
 have I:(L.take o).length=o:=by rw [List.length_take];omega
 have J:L.drop (o+r.length)=L.getD (o+r.length) 0::L.drop (o+r.length+1):=by
  rw [kaa,kab h,Option.getD_some,←List.drop_eq_getElem_cons h]
 rw [rep,List.set_append_right _ _ (by omega),I,List.set_append_right _ _ (by omega),J,show o+r.length - o - r.length=0 by omega,List.set_cons_zero,rep,kae,kaG]
 rfl
theorem rep_lt {B:Nat} (e:∀ z∈L,z<B) (N:∀ z∈r,z<B):∀ z∈rep L o r,z<B:=fun z hz=>by
 rcases kaq.1 hz with hz | hz
 ·exact e z (List.mem_of_mem_take hz)
 ·rcases kaq.1 hz with hz | hz
  ·exact N z hz
  ·exact e z (List.mem_of_mem_drop hz)
theorem rep_seg (h:o+r.length≤L.length):((rep L o r).drop o).take r.length=r:=by
 have I:(L.take o).length=o:=by rw [List.length_take];omega
 rw [rep,List.drop_append_of_le_length (by omega),List.drop_of_length_le (by omega),List.nil_append,List.take_append_of_le_length (kad _),List.take_length]
theorem rep_rep {Y:List Nat} (h:o+r.length≤L.length) (f:Y.length=r.length):rep (rep L o r) o Y=rep L o Y:=by
 have I:(L.take o).length=o:=by rw [List.length_take];omega
 rw [rep,rep,rep,f]
 congr 1
 ·rw [List.take_append_of_le_length (by omega),List.take_of_length_le (by omega)]
 ·congr 1
  rw [←kaG,List.drop_append_of_le_length (by rw [kae];omega),List.drop_of_length_le (by rw [kae];omega),List.nil_append]
theorem adj_init {B m:Nat} {us ys:List Nat} (hB:0<B) (hu:∀ z∈us,z<B) (o:ys.length=m+1) (f:us.length=m+2) (E:0<ys.getD m 0) :
  val B us<((us.getD (m+1) 0*B+us.getD m 0) / ys.getD m 0+1)*val B ys:=by
 generalize H:us.getD (m+1) 0*B+us.getD m 0=top
 have Z:B ^ (m+1)=B*B ^ m:=by rw [Nat.pow_succ,Nat.mul_comm]
 have D:val B us=top*B ^ m+val B (us.take m):=by
  rw [yO,f,val_take_succ,val_take_succ,Z,←H,Nat.add_mul,Nat.mul_comm (B ^ m),Nat.mul_comm (B*B ^ m),Nat.mul_assoc]
  omega
 have A:ys.getD m 0*B ^ m≤val B ys:=by
  rw [yO B ys,o,val_take_succ,Nat.mul_comm (B ^ m)]
  omega
 have I:=zdf hB hu (m:=m) (by omega)
 have J:top+1≤(top / ys.getD m 0+1)*ys.getD m 0:=by
  have:=Nat.lt_div_mul_add (a:=top) (b:=ys.getD m 0) E
  rw [Nat.add_mul,Nat.one_mul];omega
 have Q:(top+1)*B ^ m≤(top / ys.getD m 0+1)*ys.getD m 0*B ^ m:=kag _ J
 have K:(top / ys.getD m 0+1)*ys.getD m 0*B ^ m≤(top / ys.getD m 0+1)*val B ys:=by
  rw [Nat.mul_assoc]
  exact Nat.mul_le_mul_left _ A
 rw [Nat.add_mul,Nat.one_mul] at Q
 omega
variable {k:Nat}
theorem back_done {B m:Nat} {S:List Nat} {R V M:Nat} (hB:0<B) (n:∀ z∈S,z<B) (f:S.length=m) (F:k≤1) (h:val B S+k*B ^ m=R+V) (J:R+V=M+B ^ m) (P:M<B ^ m):val B S=M:=by
 have:=val_lt hB n
 rw [f] at this
 obtain rfl | rfl:k=0∨k=1:=by omega
 ·omega
 ·omega
theorem zeE (B:Nat) (l:List Nat) (i:Nat) (h:i≤l.length):val B l=val B (l.take i)+B ^ i*val B (l.drop i):=by
 have:=jG B (l.take i) (l.drop i)
 rw [List.take_append_drop,List.length_take,Nat.min_eq_left h] at this
 exact this
theorem norm {B V m:Nat} (hB:B=1000000000) (h0:0<y) (A:y<B) (F:k=B / (y+1)) (I:y*B ^ m≤Y) (J:Y<(y+1)*B ^ m) (p:V=Y*k):(0<k∧k≤500000000)∧V<B ^ (m+1)∧300000000*B ^ m≤V∧B ^ m*k≤V:=by
 have T:=Nat.div_add_mod B (y+1)
 have D:=Nat.mod_lt B (show 0<y+1 by omega)
 rw [←F] at T
 have g:0<k:=by
  rw [F];exact Nat.div_pos (by omega) (by omega)
 have Q:k≤500000000:=by
  rw [F,hB]
  exact kaB (Nat.div_le_div_left (c:=2) (by omega) (by decide)) (by decide)
 have C:300000000≤y*k:=by
  rw [Nat.add_mul,Nat.one_mul] at T
  by_cases R:y=1
  ·subst R;subst hB;subst F;decide
  ·by_cases U:y≤333333333
   ·have:k≤333333333:=by
     rw [F,hB]
     exact kaB (Nat.div_le_div_left (c:=3) (by omega) (by decide)) (by decide)
    omega
   ·have:=Nat.mul_le_mul_left y g
    omega
 have Z:0<B ^ m:=Nat.pow_pos (by omega)
 refine ⟨⟨g,Q⟩,?_,?_,?_⟩
 ·have a1:Y*k<(y+1)*B ^ m*k:=Nat.mul_lt_mul_of_pos_right J g
  have a2:(y+1)*B ^ m*k=(y+1)*k*B ^ m:=Nat.mul_right_comm _ _ _
  have a3:(y+1)*k*B ^ m≤B*B ^ m:=kag _ (by omega)
  rw [Nat.pow_succ,Nat.mul_comm (B ^ m)]
  omega
 ·have a1:y*B ^ m*k≤Y*k:=kag _ I
  have a2:y*B ^ m*k=y*k*B ^ m:=Nat.mul_right_comm _ _ _
  have a3:=kag (B ^ m) C
  omega
 ·have a1:y*B ^ m*k≤Y*k:=kag _ I
  have a2:y*B ^ m*k=y*(B ^ m*k):=Nat.mul_assoc _ _ _
  have a3:1*(B ^ m*k)≤y*(B ^ m*k):=kag _ h0
  omega
theorem norm_len {B V m:Nat} {v:List Nat} (hB:1<B) (E:∀ z∈v,z<B) (H:trimL v=v) (p:val B v=V) (I:V<B ^ (m+1)) (c:Nat) (X:0<c) (J:c*B ^ m≤V):v.length=m+1∧c≤v.getD m 0:=by
 have Z:0<B ^ m:=Nat.pow_pos (by omega)
 have Q:=val_lt (B:=B) (by omega) E
 have A:v.length≤m+1:=by
  by_cases g:v=[]
  ·rw [g];exact Nat.zero_le _
  ·have:=zo4 (B:=B) H g (by omega)
   apply Nat.le_of_not_lt
   intro h
   have:B ^ (m+1)≤B ^ (v.length - 1):=Nat.pow_le_pow_right (by omega) (by omega)
   omega
 have F:m+1≤v.length:=by
  apply Nat.le_of_not_lt
  intro h
  have a1:B ^ v.length≤B ^ m:=Nat.pow_le_pow_right (by omega) (by omega)
  have a2:1*B ^ m≤c*B ^ m:=kag _ X
  omega
 have f:v.length=m+1:=by omega
 refine ⟨f,?_⟩
 have a1:=zdf (B:=B) (by omega) E (m:=m) (by omega)
 have a2:val B v=val B (v.take m)+B ^ m*v.getD m 0:=by rw [yO B v,f,val_take_succ]
 apply Nat.le_of_not_lt
 intro h
 have a3:(v.getD m 0+1)*B ^ m≤c*B ^ m:=kag _ h
 rw [Nat.add_mul,Nat.one_mul,Nat.mul_comm] at a3
 omega
theorem upper_lt {B X V Q m:Nat} {U:List Nat} (hB:0<B) (F:0<k) (f:U.length=X+1) (P:Q+m=X) (d:val B U=x*k) (M:x<B ^ X) (p:B ^ m*k≤V):val B (U.drop Q)<V:=by
 have I:=zeE B U Q (by omega)
 have Z:0<B ^ Q:=Nat.pow_pos hB
 have J:x*k<B ^ X*k:=Nat.mul_lt_mul_of_pos_right M F
 have C:B ^ X*k=B ^ Q*(B ^ m*k):=by rw [←P,Nat.pow_add,Nat.mul_assoc]
 have K:B ^ Q*val B (U.drop Q)<B ^ Q*(B ^ m*k):=by omega
 have:=Nat.lt_of_mul_lt_mul_left K
 omega
theorem drop_get (L:List Nat) (i:Nat) (h:i<L.length):L.drop i=L.getD i 0::L.drop (i+1):=by
 rw [kaa,kab h,Option.getD_some,←List.drop_eq_getElem_cons h]
theorem step_seg {B V n:Nat} (hB:0<B) (e:∀ z∈L,z<B) (hi:i+n+1≤L.length) (p:V≤B ^ n) (h:val B (L.drop (i+1))<V) :
  val B ((L.drop i).take (n+1))<B*V∧val B (L.drop i)=val B ((L.drop i).take (n+1))∧val B (L.drop (i+(n+1)))=0:=by
 have T:=drop_get L i (by omega)
 have D:val B (L.drop i)=L.getD i 0+B*val B (L.drop (i+1)):=by rw [T];rfl
 have I:=zf7 hB e i
 have J:B*(val B (L.drop (i+1))+1)≤B*V:=Nat.mul_le_mul_left _ h
 rw [Nat.mul_add,kaz] at J
 have Q:B*V≤B*B ^ n:=Nat.mul_le_mul_left _ p
 have K:=zeE B (L.drop i) (n+1) (by rw [List.length_drop];omega)
 rw [List.drop_drop,Nat.pow_succ,Nat.mul_comm (B ^ n)] at K
 have h0:val B (L.drop (i+(n+1)))=0:=by
  apply Nat.eq_zero_of_not_pos
  intro Z
  have d:B*B ^ n*1≤B*B ^ n*val B (L.drop (i+(n+1))):=Nat.mul_le_mul_left _ Z
  omega
 rw [h0,Nat.mul_zero] at K
 exact ⟨by omega,by omega,h0⟩
theorem zwI (h:o+r.length≤L.length):(rep L o r).drop o=r++L.drop (o+r.length):=by
 have I:(L.take o).length=o:=by rw [List.length_take];omega
 rw [rep,List.drop_append_of_le_length (by omega),List.drop_of_length_le (by omega),List.nil_append]
theorem zy6 (h:o+r.length≤L.length):(rep L o r).take o=L.take o:=by
 have I:(L.take o).length=o:=by rw [List.length_take];omega
 rw [rep,List.take_append_of_le_length (by omega),List.take_of_length_le (by omega)]
theorem step_done {B V n:Nat} {R:List Nat} (A:0<V) (hi:i+n+1≤L.length) (Q:R.length=n+1) (E:val B R=val B ((L.drop i).take (n+1)) % V) (O:val B (L.drop i)=val B ((L.drop i).take (n+1))) (h0:val B (L.drop (i+(n+1)))=0) :
  val B ((rep L i R).drop i)<V∧val B (rep L i R) % V=val B L % V:=by
 have T:val B ((rep L i R).drop i)=val B R:=by rw [zwI (by omega),jG,Q,h0,Nat.mul_zero];rfl
 refine ⟨by rw [T,E];exact Nat.mod_lt _ A,?_⟩
 have S:(rep L i R).length=L.length:=rep_len (by omega)
 have D:=zeE B (rep L i R) i (by omega)
 have N:=zeE B L i (by omega)
 rw [zy6 (by omega),T,E] at D
 rw [O] at N
 have w:=Nat.div_add_mod (val B ((L.drop i).take (n+1))) V
 rw [D,N]
 generalize val B ((L.drop i).take (n+1))=s at w ⊢
 generalize val B (L.take i)=t
 have Z:t+B ^ i*s=t+B ^ i*(s % V)+V*(B ^ i*(s / V)):=by
  have:V*(B ^ i*(s / V))=B ^ i*(V*(s / V)):=Nat.mul_left_comm _ _ _
  rw [this,kaI,←Nat.mul_add,Nat.add_comm (s % V),w]
 rw [Z,Nat.add_mul_mod_self_left]
theorem mod_scale {l:Nat} (h:l % (y*k)=(x*k) % (y*k)) (f:l<y*k):l=x % y*k:=by
 rw [Nat.mod_eq_of_lt f,Nat.mul_mod_mul_right] at h
 exact h
theorem rep_cons {D:List Nat} (h:i+1+D.length≤L.length) (x:Nat):(rep L (i+1) D).set i x=rep L i (x::D)∧(rep L (i+1) D).getD i 0=L.getD i 0:=by
 have e:L.take (i+1)=L.take i++[L.getD i 0]:=by
  rw [List.take_add_one,kaa,kab (by omega)];rfl
 have f:(L.take i).length=i:=by rw [List.length_take];omega
 constructor
 ·rw [rep,e,kaG,List.set_append_right _ _ (by omega),f,Nat.sub_self,List.singleton_append,List.set_cons_zero,rep,kay,List.cons_append,show i+1+D.length=i+(D.length+1) by omega]
 ·rw [rep,e,kaG,kaa,kaw (by omega),f,Nat.sub_self]
  simp
variable {D left:Nat}
theorem small_step {B S:Nat} (hB:0<B) (M:x<B) (f:left<k) (h:D*k+left=S) :
  left*B+x<B*k∧(left*B+x) / k<B∧(left*B+x) % k<k∧((left*B+x) / k+B*D)*k+(left*B+x) % k=x+B*S:=by
 have I:(left+1)*B≤k*B:=kag _ f
 rw [Nat.add_mul,Nat.one_mul,Nat.mul_comm k] at I
 have J:=Nat.div_add_mod (left*B+x) k
 refine ⟨by omega,Nat.div_lt_of_lt_mul (by rw [Nat.mul_comm k];omega),Nat.mod_lt _ (by omega),?_⟩
 rw [Nat.add_mul,Nat.mul_comm _ k,←h,Nat.mul_add,Nat.mul_assoc,Nat.mul_comm B left]
 omega
theorem trim_take (l:List Nat):(trimL l).length≤l.length∧l.take (trimL l).length=trimL l∧(∀ i,(trimL l).length≤i→l.getD i 0=0)∧trimL (trimL l)=trimL l:=by
 obtain ⟨m,I,J,Q,K⟩:=zcK l
 have f:(trimL l).length=m:=by rw [J,List.length_take];omega
 refine ⟨by omega,by rw [f,J],fun i hi=>Q i (by omega),?_⟩
 obtain ⟨C,u,v,y,p⟩:=zcK (trimL l)
 rw [f] at u
 by_cases g:C=m
 ·rw [v,List.take_of_length_le (by omega)]
 ·exfalso
  have e:(trimL l).getD (m - 1) 0=0:=y _ (by omega)
  rw [J,kaa,List.getElem?_take_of_lt (by omega),←kaa] at e
  rcases K with K | K
  ·omega
  ·exact K e
variable {l:List Nat}
theorem trim_lt {B:Nat} (h:∀ z∈l,z<B):∀ z∈trimL l,z<B:=fun z hz=>by
 rw [←(trim_take l).2.1] at hz
 exact h z (List.mem_of_mem_take hz)
variable {d:Nat}
theorem mul_rest {m:Nat} (f:left<k) (h:d*k+left=m*k):left=0∧d=m:=by
 have h0:left=0:=by
  have:=congrArg (· % k) h
  simpa [Nat.mul_add_mod_self_right,Nat.mod_eq_of_lt f] using this
 subst h0
 exact ⟨rfl,Nat.eq_of_mul_eq_mul_right (by omega:0<k) (by omega)⟩
theorem rep0_take {D:List Nat}:(rep L 0 D).take D.length=D:=by simp [rep]
theorem top_of {B:Nat} {ys:List Nat} {m:Nat} (hB:0<B) (hy:∀ z∈ys,z<B) (f:ys.length=m+1) (H:trimL ys=ys):0<ys.getD m 0∧ys.getD m 0*B ^ m≤val B ys∧val B ys<(ys.getD m 0+1)*B ^ m:=by
 have I:=zdf hB hy (m:=m) (by omega)
 have J:val B ys=val B (ys.take m)+B ^ m*ys.getD m 0:=by rw [yO B ys,f,val_take_succ]
 refine ⟨?_,by rw [Nat.mul_comm];omega,by rw [Nat.add_mul,Nat.one_mul,Nat.mul_comm];omega⟩
 obtain ⟨C,u,i,y,p⟩:=zcK ys
 have Y:C=m+1:=by
  have:=congrArg List.length (i.symm.trans H)
  rw [List.length_take] at this;omega
 subst Y
 rcases p with p | p
 ·omega
 ·exact Nat.pos_of_ne_zero p
def zaq (l:List Nat):Bool:=decide (l≠[]∧l.length≤1000∧(1<l.length→l.getD 0 0≠48)∧∀ b∈l,48≤b∧b≤57)
def zfB (n:Nat) (l:List Nat):Nat:=l.foldl (fun n b=>10*n+(b - 48)) n
def zS (l:List Nat):Nat:=zfB 0 l
theorem zgE:∀ (l:List Nat) (n:Nat),zfB n l=n*10 ^ l.length+zS l
 | [],n=>by simp [zfB,zS]
 | b::l,n=>by
  have I:=zgE l (10*n+(b - 48))
  have J:=zgE l (b - 48)
  have T:zfB n (b::l)=zfB (10*n+(b - 48)) l:=rfl
  have D:zS (b::l)=zfB (b - 48) l:=by show zfB (10*0+(b - 48)) l=_;rw [Nat.mul_zero,kas]
  rw [T,D,I,J,kay,Nat.pow_succ,Nat.add_mul,Nat.mul_comm 10 n,Nat.mul_assoc,Nat.mul_comm 10,kaI]
theorem zeB (a b:List Nat):zS (a++b)=zS a*10 ^ b.length+zS b:=by
 show zfB 0 (a++b)=_
 rw [zfB,List.foldl_append]
 exact zgE b (zS a)
theorem zeD:∀ {l:List Nat},(∀ b∈l,48≤b∧b≤57)→zS l<10 ^ l.length
 | [],_=>by decide
 | b::l,h=>by
  have I:=zeD (l:=l) fun x M=>h x (by simp [M])
  have J:=h b (by simp)
  have e:zS (b::l)=(b - 48)*10 ^ l.length+zS l:=by
   have:=zeB [b] l
   simpa [zS,zfB] using this
  have Q:(b - 48)*10 ^ l.length≤9*10 ^ l.length:=kag _ (by omega)
  rw [e,kay,Nat.pow_succ]
  omega
theorem zlY (h:i<l.length) (c:Nat) (X:c≤i):zS ((l.take (i+1)).drop c)=10*zS ((l.take i).drop c)+(l.getD i 0 - 48):=by
 have f:(l.take i).length=i:=by rw [List.length_take];omega
 rw [List.take_add_one,kab h,List.drop_append_of_le_length (by omega),zeB,kaa,kab h]
 show zS _*10 ^ 1+zfB (10*0+(l[i] - 48)) []=_
 show zS _*10 ^ 1+(10*0+(l[i] - 48))=10*zS _+(l[i] - 48)
 omega
theorem zoZ (l:List Nat) (m:Nat) (h:m≤l.length):zS l=zS (l.take m)*10 ^ (l.length - m)+zS (l.drop m):=by
 have:=zeB (l.take m) (l.drop m)
 rw [List.take_append_drop,List.length_drop] at this
 exact this
def wG (n:Nat):List Nat:=if n<10 then [48+n] else wG (n / 10)++[48+n % 10]
def jw (l:List Nat):Prop:=l≠[]∧(1<l.length→l.getD 0 0≠48)∧∀ b∈l,48≤b∧b≤57
theorem znF (h:jw l) (J:l.length≤1000):zaq l=true:=decide_eq_true ⟨h.1,J,h.2.1,h.2.2⟩
theorem zbo (h:zaq l=true):jw l∧l.length≤1000:=by
 have:=of_decide_eq_true h
 exact ⟨⟨this.1,this.2.2.1,this.2.2.2⟩,this.2.1⟩
theorem zwH (n:Nat):∀ b∈wG n,48≤b∧b≤57:=by
 intro b hb
 induction n using wG.induct with
 | case1 n h=>unfold wG at hb;rw [if_pos h,kak] at hb;omega
 | case2 n h X =>
  unfold wG at hb
  rw [if_neg h] at hb
  rcases kaq.1 hb with hb | hb
  ·exact X hb
  ·rw [kak] at hb;omega
theorem ztV (n:Nat):wG n≠[]:=by
 unfold wG
 split
 ·simp
 ·simp
theorem zv2 {n:Nat} (h:0<n):(wG n).getD 0 0≠48:=by
 induction n using wG.induct with
 | case1 n g=>unfold wG;rw [if_pos g];show 48+n≠48;omega
 | case2 n g X =>
  unfold wG
  rw [if_neg g,kaa,kar (List.length_pos_iff.2 (ztV _)),←kaa]
  exact X (by omega)
theorem zze {n:Nat} (h:n<10 ^ (k+1)):(wG n).length≤k+1:=by
 induction k generalizing n with
 | zero=>unfold wG;rw [if_pos (by simpa using h)];exact kad _
 | succ k X =>
  unfold wG
  split
  ·simp
  ·rw [kae]
   have:=X (n:=n / 10) (by rw [Nat.pow_succ] at h;omega)
   simpa using this
def dg (l:List Nat):List Nat:=l.reverse.map fun b=>b - 48
def tx (L:List Nat):List Nat:=L.reverse.map fun d=>48+d
def DgL (L:List Nat):Prop:=∀ d∈L,d<10
def zf4 (l:List Nat):Prop:=∀ b∈l,48≤b∧b≤57
theorem zhg (l:List Nat):(dg l).length=l.length:=by simp [dg]
theorem zBy (h:zf4 l):DgL (dg l):=by
 intro d u
 obtain ⟨b,hb,rfl⟩:=kau.1 u
 have:=h b (List.mem_reverse.1 hb)
 omega
theorem ztw (b:Nat) (l:List Nat):dg (b::l)=dg l++[b - 48]:=by simp [dg]
theorem zkH:∀ {l:List Nat},val 10 (dg l)=zS l
 | []=>rfl
 | b::l=>by
  rw [ztw,za0,zkH (l:=l),zhg]
  show _=zfB (10*0+(b - 48)) l
  rw [zgE,Nat.mul_zero,kas,Nat.mul_comm]
  omega
theorem zAV (h:k<l.length):dg (l.drop k)=dg (l.drop (k+1))++[l.getD k 0 - 48]:=by
 rw [List.drop_eq_getElem_cons h,ztw,kaa,kab h];rfl
theorem zxA (h:DgL L):zf4 (tx L):=by
 intro b hb
 obtain ⟨d,u,rfl⟩:=kau.1 hb
 have:=h d (List.mem_reverse.1 u)
 omega
theorem zkK (L:List Nat):(tx L).length=L.length:=by simp [tx]
theorem zDQ (L:List Nat):dg (tx L)=L:=by
 unfold dg tx
 rw [←List.map_reverse,List.reverse_reverse,List.map_map]
 conv=>rhs;rw [←List.map_id L]
 apply List.map_congr_left
 intro d _
 show 48+d - 48=d
 omega
theorem zC5 (L:List Nat):zS (tx L)=val 10 L:=by rw [←zkH,zDQ]
theorem zw0 {n:Nat} (h:DgL L) (f:L.length=n+1) (hz:0<n→L.getD n 0≠0):jw (tx L):=by
 refine ⟨fun e=>?_,fun O=>?_,zxA h⟩
 ·have:=congrArg List.length e;rw [zkK,f] at this;cases this
 ·rw [zkK,f] at O
  have M:(tx L).getD 0 0=48+L.getD n 0:=by
   unfold tx
   rw [kaa,kaD,List.getElem?_reverse (by omega),f,kaa,show n+1 - 1 - 0=n by omega,kab (show n<L.length by omega)]
   rfl
  rw [M]
  have:=hz (by omega)
  omega
theorem take_zero {n:Nat} (h:L.getD n 0=0):val 10 (L.take (n+1))=val 10 (L.take n):=by rw [val_take_succ,h];omega
theorem zmh (h:jw l) (I:1<l.length):10 ^ (l.length - 1)≤zS l:=by
 obtain ⟨-,J,Q⟩:=h
 cases l with
 | nil=>cases I
 | cons b l =>
  have K:b≠48:=J I
  have d:=Q b (by simp)
  show _≤zfB (10*0+(b - 48)) l
  rw [zgE,Nat.mul_zero,kas,kay,Nat.add_sub_cancel]
  have:1*10 ^ l.length≤(b - 48)*10 ^ l.length:=kag _ (by omega)
  omega
variable {a b:List Nat}
theorem zaJ (U:jw a) (hb:jw b) (h:a.length<b.length):zS a<zS b:=by
 have I:=zeD U.2.2
 have h0:0<a.length:=List.length_pos_iff.2 U.1
 have J:=zmh hb (by omega)
 have Q:(10:Nat) ^ a.length≤10 ^ (b.length - 1):=Nat.pow_le_pow_right (by decide) (by omega)
 omega
theorem zmU (U:zf4 a) (hb:zf4 b) (f:a.length=b.length) (hi:i<a.length) (H:a.take i=b.take i) (h:a.getD i 0<b.getD i 0):zS a<zS b:=by
 have key:∀ (l:List Nat),i<l.length→zS l=(zS (l.take i)*10+(l.getD i 0 - 48))*10 ^ (l.length - (i+1))+zS (l.drop (i+1)):=fun l f=>by
  rw [zoZ l (i+1) f]
  have:=zlY f 0 (Nat.zero_le _)
  rw [List.drop_zero,List.drop_zero] at this
  rw [this,Nat.mul_comm 10]
 have A:i<b.length:=by omega
 rw [key a hi,key b A,H,f]
 have I:zS (a.drop (i+1))<10 ^ (b.length - (i+1)):=by
  have:=zeD (l:=a.drop (i+1)) fun x M=>U x (List.mem_of_mem_drop M)
  rwa [List.length_drop,f] at this
 have C:48≤a.getD i 0:=by
  rw [kaa,kab hi];exact (U _ (kai _)).1
 generalize zS (b.take i)*10=p at *
 generalize 10 ^ (b.length - (i+1))=T at *
 have J:(p+(a.getD i 0 - 48)+1)*T≤(p+(b.getD i 0 - 48))*T:=kag _ (by omega)
 rw [Nat.add_mul,Nat.one_mul] at J
 omega
variable {C:Nat}
theorem zvB {A T e:Nat} (h:A+C=D+c*T) (u:d+y+c=x+10*e):A+T*d+(C+T*y)=D+T*x+e*(T*10):=by
 have I:T*(d+y+c)=T*(x+10*e):=congrArg (T*·) u
 rw [Nat.mul_add,Nat.mul_add,Nat.mul_add] at I
 have J:e*(T*10)=T*(10*e):=by rw [Nat.mul_comm T 10,←Nat.mul_assoc,Nat.mul_comm e 10,Nat.mul_comm]
 have Q:c*T=T*c:=Nat.mul_comm _ _
 omega
theorem zy9 {A T:Nat} (h:A+C=D+c*T) (f:A<T) (g:C≤D):A=D - C:=by
 cases c with
 | zero=>omega
 | succ c=>rw [Nat.succ_mul] at h;omega
theorem zAy (d:Nat) (L:List Nat):tx (d::L)=tx L++[48+d]:=by simp [tx]
theorem zBl (h:k<L.length):tx (L.drop k)=tx (L.drop (k+1))++[48+L.getD k 0]:=by
 rw [List.drop_eq_getElem_cons h,zAy,kaa,kab h];rfl
end NatB
namespace Go.Proofs.YthdlmdoppfigoaaGreatDoor.oev
open Go.Ev Go.RowKit
set_option maxRecDepth 100000
abbrev uv (n:Nat):V:=iv .u64 (n:Int)
def Nu (s:S) (v:V) (l:List Nat):Prop:=Sl s 1 v∧qm v=l.length∧∀ j,j<l.length→qg s v j=uv (l.getD j 0)
variable {l:List Nat} {s:S}
theorem qS {v:V} (h:Nu s v l) (c:V→Go.Ev.A):zm v c=c (iv .i64 (l.length:Int)):=by rw [←h.2.1];exact h.1.len c
theorem zak {v:V} (h:Nu s v l) {i:Nat} (hi:i<l.length):∃ p,(∀ k c,ze 1 v (iv k (i:Int)) c=c p)∧∀ k:V→S→Go.Ev.A,zd false 1 p s k=k (uv (l.getD i 0)) s:=by
 obtain ⟨p,Z,F⟩:=h.1.idx (i:=(i:Int)) (by omega) (by have:=h.2.1;omega)
 refine ⟨p,Z,fun k=>?_⟩
 have e:qg s v ((i:Int).toNat*1+0)=uv (l.getD i 0):=by
  simp only [Int.toNat_natCast,kaz,Nat.add_zero]
  exact h.2.2 i hi
 rw [F.load1 Nat.zero_lt_one (by rw [e];exact qG _ _),e]
theorem wD {U:S} {v:V} (h:Nu s v l) (e:Ext s U):Nu U v l:=by
 obtain ⟨I,J⟩:=h.1.ext e
 exact ⟨I,h.2.1,fun j G=>by rw [J];exact h.2.2 j G⟩
theorem zCI (s:S):Nu s (.nil 1) []:=⟨.inl (.inl rfl),rfl,fun j G=>by cases G⟩
def Bl (l:List Nat):Prop:=∀ x∈l,x<1000000000
theorem jN (h:Bl l) (i:Nat):l.getD i 0<1000000000:=by
 by_cases hi:i<l.length
 ·rw [kaa,kab hi];exact h _ (kai _)
 ·rw [kaa,kal (by omega)];decide
theorem wa {z:Int} (h0:0≤z) (I:z<18446744073709551616):IntKind.u64.wrap z=z:=by
 unfold IntKind.wrap
 simp [IntKind.bits,IntKind.signed]
 omega
section
variable (q:EK) (cst:Bool) {a b:Nat} (c:V→Go.Ev.A)
theorem zhz (h:a+b<18446744073709551616):zw q cst .add (uv a) (uv b) c=c (uv (a+b)):=by
 rw [qj,wa (by omega) (by omega)];rfl
theorem zsw (h:b≤a) (J:a<18446744073709551616):zw q cst .sub (uv a) (uv b) c=c (uv (a - b)):=by
 rw [wC,wa (by omega) (by omega),←Int.ofNat_sub h]
theorem zhC (h:a*b<18446744073709551616):zw q cst .mul (uv a) (uv b) c=c (uv (a*b)):=by
 show zw q cst .mul (.nat .u64 a) (.nat .u64 b) c=_
 rw [yD]
 show zdz .u64 (Nat.mul a b) c=_
 rw [jh]
 show c (iv .u64 (IntKind.u64.wrap ((a*b:Nat):Int)))=_
 rw [wa (Int.natCast_nonneg _) (by omega)]
theorem znV (h:0<b) (J:a<18446744073709551616):zw q cst .quo (uv a) (uv b) c=c (uv (a / b)):=by
 show zw q cst .quo (.nat .u64 a) (.nat .u64 b) c=_
 rw [yD]
 show (Bool.rec (motive:=fun _=>Go.Ev.A) (zdz .u64 (Nat.div a b) c) eA (Nat.beq b 0):Go.Ev.A)=_
 rw [show Nat.beq b 0=false by cases b with | zero=>omega | succ b=>rfl]
 have:a / b≤a:=Nat.div_le_self _ _
 show zdz .u64 (a / b) c=_
 rw [jh]
 show c (iv .u64 (IntKind.u64.wrap ((a / b:Nat):Int)))=_
 rw [wa (Int.natCast_nonneg _) (by omega)]
theorem zsb (h:0<b):zw q cst .rem (uv a) (uv b) c=c (uv (a % b)):=by
 show zw q cst .rem (.nat .u64 a) (.nat .u64 b) c=_
 rw [yD]
 show (Bool.rec (motive:=fun _=>Go.Ev.A) (fN (Nat.mod a b) (fun n=>c (.nat .u64 n))) eA (Nat.beq b 0):Go.Ev.A)=_
 rw [show Nat.beq b 0=false by cases b with | zero=>omega | succ b=>rfl]
 show fN (Nat.mod a b) _=_
 rw [zE];rfl
theorem zh9:zw q cst .rem (uv a) (iv .u64 1000000000) c=c (uv (a % 1000000000)):=zsb q cst (b:=1000000000) c (by decide)
theorem zhZ (h:a<18446744073709551616):zw q cst .quo (uv a) (iv .u64 1000000000) c=c (uv (a / 1000000000)):=znV q cst (b:=1000000000) c (by decide) h
theorem zwa (h:a*1000000000<18446744073709551616):zw q cst .mul (uv a) (iv .u64 1000000000) c=c (uv (a*1000000000)):=zhC q cst (b:=1000000000) c h
theorem zDK (h:a+1000000000<18446744073709551616):zw q cst .add (uv a) (iv .u64 1000000000) c=c (uv (a+1000000000)):=zhz q cst (b:=1000000000) c h
end
theorem zt:PcOk Tryz.prog zf:=by
 unfold zf
 exact zz7 (by kernel_rfl) (by kernel_rfl) (by kernel_rfl) (by kernel_rfl) (by kernel_rfl)
variable {k:Nat} {s:S}
theorem zu7 {r:R} {a carry:Nat} {b E:V} (F:∀ c:V→S→Go.Ev.A,zd false 1 E s c=c (uv k) s) (h:a*k+carry<18446744073709551616) :
  (fnC zf 316).run r [uv a,b,uv carry,E] s=.ret (.ls 1 [uv ((a*k+carry) % 1000000000),uv ((a*k+carry) / 1000000000)]) s:=by
 have T:=fun q cst c=>zhC q cst (a:=a) (b:=k) c (by omega)
 have D:=fun q cst c=>zhz q cst (a:=a*k) (b:=carry) c h
 have i:=fun q cst c=>zhZ q cst (a:=a*k+carry) c h
 simp -implicitDefEqProofs [zvI,F,-qj,T,D,zh9,i]
def shr:V→Nat→V
 | .so a w o _ e,m=>.so a w o m e
 | .sl a w o _ cap,m=>.sl a w o m cap
 | v,_=>v
def zqu (s:S) (v:V):Prop:=Fx v∨∃ a w o len e l n D W f1 f2,v=.so a w o len e∧a.toNat<s.nx.toNat∧Tr.get B.none a s.h=.row l n 169 D W f1 f2
variable {i:Nat}
theorem zAE {v:V} (h:Sl s 1 v) (F:zqu s v) {k:IntKind} (hi:i≤qm v) (c:V→Go.Ev.A):qu 169 1 v none (some (iv k (i:Int))) none s c=c (shr v i):=by
 rcases h with (rfl | ⟨M,rfl⟩) | ⟨a,w,o,len,⟨cap,rfl,E⟩ | ⟨e,rfl⟩,O,l,n,el,D,W,f1,f2,R,U,g⟩
 ·obtain rfl:i=0:=by simpa [qm] using hi
  rfl
 ·obtain rfl:i=0:=by simpa [qm] using hi
  rfl
 ·have N:i≤len:=hi
  show jm 1 a w o len cap none (some (iv k (i:Int))) none c=_
  unfold jm
  show (Bool.rec (motive:=fun _=>Go.Ev.A) _ _ (zB (Nat.ble 0 i) (zB (Nat.ble i cap) (Nat.ble cap cap))):Go.Ev.A)=_
  rw [kah (Nat.zero_le i),kah (show i≤cap by omega),kah (kad cap)]
  show fN (Nat.sub i 0) _=_
  rw [zE]
  show fN (Nat.sub cap 0) _=_
  rw [zE,zE]
  show c (.sl a w (Bool.rec (Nat.add o (Nat.mul 0 1)) o (Nat.beq cap 0)) i cap)=c (.sl a w o i cap)
  cases Nat.beq cap 0<;>rfl
 ·have N:i≤len:=hi
  rcases F with F | ⟨r,K,H,Q,f,Z,L,P,T,I,Y,X,-,J⟩
  ·exact F.elim
  ·cases X
   rw [J] at R
   cases R
   have C:i≤(Bool.rec len (Nat.div (Nat.sub n o) 1) (zB D (Nat.beq w n)):Nat):=by
    cases hb:zB D (Nat.beq w n) with
    | false=>exact N
    | true =>
     show i≤(n - o) / 1
     rw [zgZ,kaf] at hb
     have G:=kac hb.2
     subst G
     rcases ql.1 g with ⟨-,-,-,q⟩ | ⟨-,q⟩<;>omega
   show qk s a _=_
   rw [qb,J]
   show fN (Bool.rec len (Nat.div (Nat.sub n o) 1) (zB D (Nat.beq w n))) _=_
   rw [zE]
   generalize (Bool.rec len (Nat.div (Nat.sub n o) 1) (zB D (Nat.beq w n)):Nat)=sure at C
   show (Bool.rec (motive:=fun _=>Go.Ev.A) _ _ (zB (Nat.ble 0 i) (Nat.ble i sure)):Go.Ev.A)=_
   rw [show zB (Nat.ble 0 i) (Nat.ble i sure)=true by rw [kah (Nat.zero_le i),kah C];rfl]
   cases i with
   | zero=>rfl
   | succ i =>
    show fN (Nat.sub (i+1) 0) _=_
    rw [zE]
    show fN (Nat.add e 0) _=_
    rw [zE]
    show fN (Nat.add o (Nat.mul 0 1)) _=_
    rw [zE];rfl
variable {m:Nat}
theorem ze4 {v:V} (h:m≤qm v):qm (shr v m)=m:=by
 cases v<;>first | rfl | (obtain rfl:m=0:=Nat.le_zero.1 h;rfl)
variable {l:List Nat}
theorem zb0 {v:V} (h:Nu s v l) (Y:m≤l.length):Nu s (shr v m) (l.take m):=by
 obtain ⟨I,J,Q⟩:=h
 have f:(l.take m).length=m:=by rw [List.length_take];omega
 refine ⟨?_,by rw [ze4 (by omega),f],fun j G=>?_⟩
 ·rcases I with (rfl | ⟨M,rfl⟩) | ⟨a,w,o,len,⟨cap,rfl,E⟩ | ⟨e,rfl⟩,O,Z,n,el,D,W,f1,f2,R,U,g⟩
  ·exact .inl (.inl rfl)
  ·exact .inl (.inr ⟨_,rfl⟩)
  ·have J:len=l.length:=J
   refine .inr ⟨a,w,o,m,.inl ⟨cap,rfl,by omega⟩,O,Z,n,el,D,W,f1,f2,R,U,?_⟩
   rcases ql.1 g with ⟨N,d,x,y⟩ | ⟨N,d⟩
   ·exact ql.2 (.inl ⟨N,d,x,by omega⟩)
   ·exact ql.2 (.inr ⟨N,by omega⟩)
  ·have J:len=l.length:=J
   refine .inr ⟨a,w,o,m,.inr ⟨e,rfl⟩,O,Z,n,el,D,W,f1,f2,R,U,?_⟩
   rcases ql.1 g with ⟨N,d,x,y⟩ | ⟨N,d⟩
   ·exact ql.2 (.inl ⟨N,d,x,by omega⟩)
   ·exact ql.2 (.inr ⟨N,by omega⟩)
 ·rw [f] at G
  have e:(l.take m).getD j 0=l.getD j 0:=by
   rw [kaa,kaa,List.getElem?_take_of_lt G]
  rw [e,←Q j (by omega)]
  cases v<;>rfl
theorem zua {v:V} (h:zqu s v) (m:Nat):zqu s (shr v m):=by
 rcases h with h | ⟨a,w,o,len,e,l,n,D,W,f1,f2,rfl,I,J⟩
 ·left;cases v<;>first | exact h.elim | trivial
 ·exact .inr ⟨a,w,o,m,e,l,n,D,W,f1,f2,rfl,I,J⟩
theorem zn4 (v:V) (m k:Nat):shr (shr v m) k=shr v k:=by cases v<;>rfl
structure TmX where
 v:V
 l:List Nat
 s0:S
def TmX.pre (c:TmX) (tm:T) (s:S):Prop:=s=c.s0∧(Nu s c.v c.l∧zqu s c.v∧c.l.length≤9223372036854775807)∧gp 240 tm=.bad∧∃ m:Nat,m≤c.l.length∧gp 0 tm=shr c.v m∧∀ i,m≤i→c.l.getD i 0=0
def TmX.post (c:TmX) (a:Go.Ev.A):Prop:=∃ N,a=.ext 0 N c.s0∧gp 240 N=.bad∧gp 0 N=shr c.v (NatB.trimL c.l).length
variable {K0:Nat→Ct}
theorem zCt:∀ (c:TmX) tm s,c.pre tm s→c.post (zdR.run (Rk Tryz.prog K0 fun _=>ltI TmX.pre TmX.post) tm s):=by
 refine zL (L:=fun _=>ltI TmX.pre TmX.post) zt zuV rfl (fun tm _=>qm (gp 0 tm)) (fun x a ⟨_,h,_⟩=>by rw [h];exact fun h=>h) ?_
 rintro ⟨v,l,s0⟩ tm s ⟨C,⟨E,X,O⟩,N,m,Y,h0,hz⟩ J
 show TmX.post _ (zdR.run _ tm _)
 generalize Rk Tryz.prog _ _=r at J ⊢
 simp only at C E X O Y h0 hz
 subst C
 have f:(l.take m).length=m:=by rw [List.length_take];omega
 have I:=zb0 E Y
 have o:∀ c:V→Go.Ev.A,zm (shr v m) c=c (iv .i64 (m:Int)):=fun c=>by rw [qS I,f]
 by_cases P:m=0
 ·subst P
  simp -implicitDefEqProofs [zhB,zeA,h0,o]
  exact ⟨_,rfl,by simp [N],by simp [h0,(NatB.trimL_len Y hz (.inl rfl)).2]⟩
 ·obtain ⟨p,Z,K⟩:=zak I (i:=m - 1) (by omega)
  have T:(l.take m).getD (m - 1) 0=l.getD (m - 1) 0:=by
   rw [kaa,kaa,List.getElem?_take_of_lt (by omega)]
  rw [T] at K
  obtain ⟨x,H⟩:∃ x,l.getD (m - 1) 0=x:=⟨_,rfl⟩
  rw [H] at K
  have D:0<m:=by omega
  have F:IntKind.i64.wrap ((m:Int) - 1)=((m - 1:Nat):Int):=by rw [z8 (by omega) (by omega)];omega
  by_cases M:x=0
  ·have G:∀ c:V→Go.Ev.A,qu 169 1 (shr v m) none (some (iv .i64 ((m - 1:Nat):Int))) none s c=c (shr v (m - 1)):=fun c=>by rw [zAE I.1 (zua X m) (by rw [ze4 (by rw [E.2.1];exact Y)];omega),zn4]
   simp -implicitDefEqProofs [zhB,zeA,h0,o,D,F,Z,K,M,G]
   refine J ⟨v,l,s⟩ _ s ?_ ⟨rfl,⟨E,X,O⟩,by simp [N],m - 1,(by show m - 1≤l.length;omega),by simp,fun i hi=>?_⟩
   ·rw [h0,ze4 (by rw [E.2.1];exact Y)]
    simp [ze4 (show m - 1≤qm v by rw [E.2.1];omega)]
    omega
   ·by_cases g:i=m - 1
    ·rw [g,H];exact M
    ·exact hz i (by omega)
  ·simp -implicitDefEqProofs [zhB,zeA,h0,o,D,F,Z,K,M]
   exact ⟨_,rfl,by simp [N],by simp [h0,(NatB.trimL_len Y hz (.inr (by rw [H];exact M))).2]⟩
theorem zyb {v:V} (E:Nu s v l) (X:zqu s v) (O:l.length≤9223372036854775807):(fnC zf 212).run (Rk Tryz.prog K0 fun _=>ltI TmX.pre TmX.post) [v] s=.ret (shr v (NatB.trimL l).length) s:=by
 have e:=zCt (K0:=K0)
 generalize Rk Tryz.prog _ _=r at e ⊢
 have C:v=shr v l.length:=by rw [←E.2.1];cases v<;>rfl
 generalize g:(fnC zf 212).run r _ _=D
 simp -implicitDefEqProofs [zeA] at g
 generalize f:zdR.run r _ s=U at g
 obtain ⟨N,rfl,G,p⟩:=f▸e ⟨v,l,s⟩ _ s ⟨rfl,⟨E,X,O⟩,by simp,l.length,kad _,by simpa using C,fun i hi=>by rw [kaa,kal hi];rfl⟩
 simp -implicitDefEqProofs [p,G] at g
 exact g.symm
def Mx:Nat:=1000000
def zBg (k:Nat) (xs:List Nat):List Nat:=(NatB.scalP 1000000000 k xs (xs.length+1)).1
def us (l:List Nat):List (List V):=l.map fun n=>[uv n]
theorem zgQ {b:S} {v:V} (h:Gz 169 1 b s v (us l)):Nu s v l∧zqu s v:=by
 obtain ⟨I,J,Q⟩:=h.sl
 have f:(us l).length=l.length:=by simp [us]
 refine ⟨⟨I,J.trans f,fun j G=>?_⟩,?_⟩
 ·have:=Q j 0 (by omega) (by omega)
  rw [kaz,Nat.add_zero] at this
  rw [this]
  simp [us,kab G]
 ·rcases h with ⟨rfl,-⟩ | ⟨a,W,rfl,N,d,x,y,w⟩
  ·exact .inl trivial
  ·exact .inr ⟨a,_,_,_,0,_,_,_,W,0,0,rfl,d,y⟩
def scG (k a _b c:Nat):Nat × Nat:=((a*k+c) % 1000000000,(a*k+c) / 1000000000)
def plG (a b c:Nat):Nat × Nat:=((a+b+c) % 1000000000,(a+b+c) / 1000000000)
def miG (a b c:Nat):Nat × Nat:=((a+1000000000 - b - c) % 1000000000,1 - (a+1000000000 - b - c) / 1000000000)
def jS (g:Nat→Nat→Nat→Nat × Nat) (xs ys:List Nat):Nat→List Nat × Nat
 | 0=>([],0)
 | i+1=>((jS g xs ys i).1++[(g (xs.getD i 0) (ys.getD i 0) (jS g xs ys i).2).1],(g (xs.getD i 0) (ys.getD i 0) (jS g xs ys i).2).2)
theorem zct (g:Nat→Nat→Nat→Nat × Nat) (xs ys:List Nat):∀ i,(jS g xs ys i).1.length=i
 | 0=>rfl
 | i+1=>by rw [jS,kae,zct g xs ys i];rfl
theorem zjM (k:Nat) (xs:List Nat):∀ i,jS (scG k) xs [] i=NatB.scalP 1000000000 k xs i
 | 0=>rfl
 | i+1=>by rw [jS,zjM k xs i];rfl
def Clo (s:S) (fv:V) (g:Nat→Nat→Nat→Nat × Nat) (K:Nat):Prop :=
 (∃ E,fv=.fn (.func 316) [] [E]∧(∀ U,Ext s U→∀ f:V→S→Go.Ev.A,zd false 1 E U f=f (uv K) U)∧0<K∧K≤1000000000∧g=scG K)∨(fv=.fn (.func 298) [] []∧K=2∧g=plG)∨(fv=.fn (.func 300) [] []∧K=2∧g=miG)
theorem zBu {v:V} (h:Nu s v l) (i:Nat):(∃ p,((i:Int)<(l.length:Int))=True∧(∀ k c,ze 1 v (iv k (i:Int)) c=c p)∧∀ k:V→S→Go.Ev.A,zd false 1 p s k=k (uv (l.getD i 0)) s)∨((i:Int)<(l.length:Int))=False∧l.getD i 0=0:=by
 by_cases hi:i<l.length
 ·obtain ⟨p,Z,F⟩:=zak h hi
  exact .inl ⟨p,eq_true (by omega),Z,F⟩
 ·exact .inr ⟨eq_false (by omega),by rw [kaa,kal (by omega)];rfl⟩
theorem jo (l:List Nat):(us l).length=l.length:=by simp [us]
theorem zD1 (m n:Nat) (c:V→Go.Ev.A):yV false [iv .i64 (m:Int)] (iv .i64 (n:Int)) c=c (iv .i64 ((max n m:Nat):Int)):=by
 show zrn false (Nat.blt m n) (.nat .i64 n) (.nat .i64 m) c=_
 by_cases h:m<n
 ·rw [show Nat.blt m n=true from by rw [Nat.blt_eq];exact h,Nat.max_eq_left (Nat.le_of_lt h)];rfl
 ·rw [show Nat.blt m n=false from by rw [←Bool.not_eq_true,Nat.blt_eq];exact h,Nat.max_eq_right (by omega)];rfl
structure EaX where
 x:V
 y:V
 fv:V
 xs:List Nat
 ys:List Nat
 g:Nat→Nat→Nat→Nat × Nat
 K:Nat
 b:S
def EaX.n (c:EaX):Nat:=max c.xs.length c.ys.length+1
def EaX.base (c:EaX):Prop:=(Nu c.b c.x c.xs∧Nu c.b c.y c.ys)∧(Bl c.xs∧Bl c.ys)∧c.n≤2*Mx∧Clo c.b c.fv c.g c.K
noncomputable def KP:Nat→Ct
 | 316=>ctI (X:=Nat × Nat × Nat × V × V) (fun ⟨a,k,c,b,E⟩ l s=>l=[uv a,b,uv c,E]∧(∀ f:V→S→Go.Ev.A,zd false 1 E s f=f (uv k) s)∧a*k+c<18446744073709551616)
   (fun ⟨a,k,c,_,_⟩ s v U=>U=s∧v=.ls 1 [uv ((a*k+c) % 1000000000),uv ((a*k+c) / 1000000000)])
 | 298=>ctI (X:=Nat × Nat × Nat) (fun ⟨a,b,c⟩ l _=>l=[uv a,uv b,uv c]∧a+b+c<18446744073709551616) (fun ⟨a,b,c⟩ s v U=>U=s∧v=.ls 1 [uv (plG a b c).1,uv (plG a b c).2])
 | 300=>ctI (X:=Nat × Nat × Nat) (fun ⟨a,b,c⟩ l _=>l=[uv a,uv b,uv c]∧b+c≤a+1000000000∧a<1000000000) (fun ⟨a,b,c⟩ s v U=>U=s∧v=.ls 1 [uv (miG a b c).1,uv (miG a b c).2])
 | 212=>ctI (X:=V × List Nat) (fun ⟨v,l⟩ a s=>a=[v]∧Nu s v l∧zqu s v∧l.length≤9223372036854775807) (fun ⟨v,l⟩ s y U=>U=s∧y=shr v (NatB.trimL l).length)
 | 297=>ctI (X:=EaX) (fun c a s=>a=[c.x,c.y,c.fv]∧s=c.b∧c.base) (fun c s v U=>Ext s U∧∃ V0 L,L=(jS c.g c.xs c.ys c.n).1∧Bl L∧Gz 169 1 s U V0 (us L)∧v=shr V0 (NatB.trimL L).length)
 | 293=>ctI (X:=V × List Nat × Nat) (fun ⟨x,xs,k⟩ a s=>a=[x,uv k]∧Nu s x xs∧Bl xs∧0<k∧k≤1000000000∧xs.length≤Mx) (fun ⟨_,xs,k⟩ s v U=>Ext s U∧∃ V0,Gz 169 1 s U V0 (us (zBg k xs))∧v=shr V0 (NatB.trimL (zBg k xs)).length)
 | 139=>ctI (X:=Int) (fun z a _=>a=[iv .i64 z]) (fun _ s v U=>U=s∧v=.bool false)
 | 320=>ctI (X:=Int) (fun z a _=>a=[iv .u64 z]) (fun _ s v U=>U=s∧v=.bool false)
 | 107=>ctI (X:=Int × Int) (fun ⟨x,y⟩ a _=>a=[iv .i64 x,iv .i64 y]) (fun ⟨x,y⟩ s v U=>U=s∧v=iv .i64 (NatB.cmpZ x y))
 | 299=>ctI (X:=Int × Int) (fun ⟨x,y⟩ a _=>a=[iv .u64 x,iv .u64 y]) (fun ⟨x,y⟩ s v U=>U=s∧v=iv .i64 (NatB.cmpZ x y))
 | 261=>ctI (X:=V × V × List Nat × List Nat) (fun ⟨x,y,xs,ys⟩ a s=>a=[x,y]∧Nu s x xs∧Nu s y ys∧Bl xs∧Bl ys∧NatB.trimL xs=xs∧NatB.trimL ys=ys∧xs.length≤Mx∧ys.length≤Mx)
   (fun ⟨_,_,xs,ys⟩ s v U=>U=s∧v=iv .i64 (NatB.cmpZ (NatB.val 1000000000 xs:Nat) (NatB.val 1000000000 ys:Nat)))
 | _=>⟨fun _ _=>False,fun _ _ _ _=>True⟩
theorem zx8:zo Tryz.prog KP 316:=by
 refine zr (L:=fun _=>⟨fun _ _=>False,fun _ _ _=>True⟩) zt (X:=Nat × Nat × Nat × V × V) rfl ?_
 rintro ⟨a,k,c,b,E⟩ l s ⟨rfl,F,h⟩
 exact ⟨_,_,zu7 F h,rfl,rfl⟩
theorem zxD:zo Tryz.prog KP 298:=by
 refine zr (L:=fun _=>⟨fun _ _=>False,fun _ _ _=>True⟩) zt (X:=Nat × Nat × Nat) rfl ?_
 rintro ⟨a,b,c⟩ l s ⟨rfl,h⟩
 have T:=fun q cst k=>zhz q cst (a:=a) (b:=b) k (by omega)
 have D:=fun q cst k=>zhz q cst (a:=a+b) (b:=c) k h
 have i:=fun q cst k=>zhZ q cst (a:=a+b+c) k h
 refine ⟨_,_,?_,rfl,rfl⟩
 generalize Rk Tryz.prog _ _=r
 simp -implicitDefEqProofs [zvr,-qj,T,D,zh9,i,plG]
theorem zz4:zo Tryz.prog KP 300:=by
 refine zr (L:=fun _=>⟨fun _ _=>False,fun _ _ _=>True⟩) zt (X:=Nat × Nat × Nat) rfl ?_
 rintro ⟨a,b,c⟩ l s ⟨rfl,h,J⟩
 have T:=fun q cst k=>zDK q cst (a:=a) k (by omega)
 have D:=fun q cst k=>zsw q cst (a:=a+1000000000) (b:=b) k (by omega) (by omega)
 have N:=fun q cst k=>zsw q cst (a:=a+1000000000 - b) (b:=c) k (by omega) (by omega)
 have i:=fun q cst k=>zhZ q cst (a:=a+1000000000 - b - c) k (by omega)
 have Z:∀ q cst (k:V→Go.Ev.A),zw q cst .sub (iv .u64 1) (uv ((a+1000000000 - b - c) / 1000000000)) k=k (uv (1 - (a+1000000000 - b - c) / 1000000000)):=fun q cst k=>zsw q cst (a:=1) k (by omega) (by decide)
 refine ⟨_,_,?_,rfl,rfl⟩
 generalize Rk Tryz.prog _ _=r
 generalize u:a+1000000000 - b - c=d at *
 simp -implicitDefEqProofs [zxU,-qj,-wC,T,D,N,zh9,i,Z,miG,u]
variable {x y:Nat}
theorem zAq {L:Nat→Lt} {b:S} {fv:V} {g:Nat→Nat→Nat→Nat × Nat} {K c:Nat} (h:Clo b fv g K) (Y:Ext b s) (M:x<1000000000) (hy:y<1000000000) (C:c<K) :
  (g x y c).1<1000000000∧(g x y c).2<K∧∀ tm (k:V→S→Go.Ev.A),jv (Rk Tryz.prog KP L) fv [uv x,uv y,uv c] tm s k=k (.ls 1 [uv (g x y c).1,uv (g x y c).2]) s:=by
 rcases h with ⟨E,rfl,D,h0,I,rfl⟩ | ⟨rfl,rfl,rfl⟩ | ⟨rfl,rfl,rfl⟩
 ·have J:x*K≤999999999*K:=kag _ (by omega)
  obtain ⟨v,s1,e,j,d⟩:=zk (zh (L:=L) zx8) (X:=Nat × Nat × Nat × V × V) rfl (x,K,c,uv y,E) _ s ⟨rfl,D s Y,by omega⟩
  refine ⟨Nat.mod_lt _ (by decide),by show (x*K+c) / 1000000000<K;omega,fun tm k=>?_⟩
  rw [wm,show []++([uv x,uv y,uv c]++[E])=[uv x,uv y,uv c,E] from rfl,e,j,d]
  rfl
 ·obtain ⟨v,s1,e,j,d⟩:=zk (zh (L:=L) zxD) (X:=Nat × Nat × Nat) rfl (x,y,c) _ s ⟨rfl,by omega⟩
  refine ⟨Nat.mod_lt _ (by decide),by show (x+y+c) / 1000000000<2;omega,fun tm k=>?_⟩
  rw [wm,show []++([uv x,uv y,uv c]++[])=[uv x,uv y,uv c] from rfl,e,j,d]
  rfl
 ·obtain ⟨v,s1,e,j,d⟩:=zk (zh (L:=L) zz4) (X:=Nat × Nat × Nat) rfl (x,y,c) _ s ⟨rfl,by omega,M⟩
  refine ⟨Nat.mod_lt _ (by decide),by show 1 - (x+1000000000 - y - c) / 1000000000<2;omega,fun tm k=>?_⟩
  rw [wm,show []++([uv x,uv y,uv c]++[])=[uv x,uv y,uv c] from rfl,e,j,d]
  rfl
theorem ziO:zo Tryz.prog KP 212:=by
 refine zr (L:=fun _=>ltI TmX.pre TmX.post) zt (X:=V × List Nat) rfl ?_
 rintro ⟨v,l⟩ a s ⟨rfl,I,J,Q⟩
 exact ⟨_,_,zyb I J Q,rfl,rfl⟩
def EaX.pre (c:EaX) (tm:T) (s:S):Prop:=c.base∧Ext c.b s∧(gp 0 tm=c.x∧gp 1 tm=c.y∧gp 2 tm=c.fv∧gp 13 tm=iv .i64 (c.n:Int)∧gp 240 tm=.bad) ∧
 ∃ i:Nat,i≤c.n∧gp 14 tm=iv .i64 (i:Int)∧gp 8 tm=uv (jS c.g c.xs c.ys i).2∧(jS c.g c.xs c.ys i).2<c.K∧Bl (jS c.g c.xs c.ys i).1∧Gz 169 1 c.b s (gp 7 tm) (us (jS c.g c.xs c.ys i).1)
def EaX.post (c:EaX) (a:Go.Ev.A):Prop:=∃ N s,a=.ext 0 N s∧Ext c.b s∧gp 240 N=.bad∧Bl (jS c.g c.xs c.ys c.n).1∧Gz 169 1 c.b s (gp 7 N) (us (jS c.g c.xs c.ys c.n).1)
theorem zCH:∀ (c:EaX) tm s,c.pre tm s→c.post (zcc.run (Rk Tryz.prog KP fun _=>ltI EaX.pre EaX.post) tm s):=by
 refine zL (L:=fun _=>ltI EaX.pre EaX.post) zt zsp rfl (fun tm _=>(toI (gp 13 tm)).toNat - (toI (gp 14 tm)).toNat) (fun x a ⟨_,_,h,_⟩=>by rw [h];exact fun h=>h) ?_
 rintro ⟨x,y,fv,xs,ys,g,K,b⟩ tm s ⟨hB,Y,⟨h0,I,J,aa,N⟩,i,hi,ad,P,X,ae,hz⟩ E
 show EaX.post _ (zcc.run _ tm _)
 obtain ⟨⟨M,hy⟩,⟨bx,w⟩,o,v⟩:=id hB
 have av:Mx=1000000:=rfl
 simp only [EaX.n] at M hy bx w o v Y h0 I J aa hi ad P X ae hz
 have ai:=zAq (L:=fun _=>ltI EaX.pre EaX.post) v Y (jN bx i) (jN w i) X
 generalize Rk Tryz.prog _ _=r at E ai ⊢
 have aj:=wD M Y
 have ak:=wD hy Y
 have ao:∀ c:V→Go.Ev.A,zm x c=c (iv .i64 (xs.length:Int)):=fun c=>qS aj c
 have aq:∀ c:V→Go.Ev.A,zm y c=c (iv .i64 (ys.length:Int)):=fun c=>qS ak c
 by_cases O:i<max xs.length ys.length+1
 ·have hX:=zBu aj i
  have hY:=zBu ak i
  have done:jS g xs ys (i+1)=_:=jS.eq_2 g xs ys i
  have aw:=zct g xs ys i
  obtain ⟨R,U,T⟩:=ai
  generalize (jS g xs ys i).1=l at *
  generalize (jS g xs ys i).2=ci at *
  generalize xs.getD i 0=xi at *
  generalize ys.getD i 0=yi at *
  generalize ax:g xi yi ci=gg at *
  obtain ⟨d,q⟩:=gg
  obtain ⟨Z,W,ap,f,ar,ah,-⟩:=hz.app1 Y.nx Nat.one_pos (x:=[uv d]) (fun y hy=>by rw [kak.1 hy];exact qG _ _) rfl (by rw [jo];omega)
  have au:Ext b W:=za2 Y ar (D:=fun c=>qi (gp 7 tm)=some c) ah fun c X=>(hz.blk X).1
  have H:IntKind.i64.wrap ((i:Int)+1)=((i+1:Nat):Int):=by rw [z8 (by omega) (by omega)];omega
  have t:∀ (c:Go.Ev.K→Nat→S→Go.Ev.A),Go.Ev.newRow s 169 [uv d] false c=c s.nx 1 (zY s (.row [uv d] 1 169 false 0 0 0)):=fun c=>zU s 169 _ false c
  have up:∀ z:V,upd [z] 0 (rep [iv .u64 0] 1)=[z]:=fun _=>rfl
  have step:∀ F,gp 0 F=x→gp 1 F=y→gp 2 F=fv→gp 13 F=iv .i64 ((max xs.length ys.length+1:Nat):Int)→gp 240 F=.bad→gp 14 F=iv .i64 ((i+1:Nat):Int)→gp 8 F=uv q→gp 7 F=Z→EaX.post ⟨x,y,fv,xs,ys,g,K,b⟩ (r.code zi4 zeP F W):=by
   intro F k0 u Q al G an k k7
   refine E ⟨x,y,fv,xs,ys,g,K,b⟩ F W (by rw [al,an,aa,ad,zp,zp,zp];omega) ⟨hB,au,⟨k0,u,Q,al,G⟩,i+1,O,an,?_⟩
   simp only [done]
   refine ⟨k,U,fun z hz=>?_,by rw [k7];simpa [us] using f⟩
   rcases kaq.1 hz with hz | hz
   ·exact ae z hz
   ·rw [kak.1 hz];exact R
  have C:((i:Int)<((max xs.length ys.length+1:Nat):Int))=True:=eq_true (by omega)
  generalize max xs.length ys.length+1=n at *
  rcases hX with ⟨p,a1,a2,a3⟩ | ⟨a1,rfl⟩<;>rcases hY with ⟨p',e,j,b3⟩ | ⟨e,rfl⟩<;>simp only [uv,Int.natCast_zero] at T<;>simp -implicitDefEqProofs [zk0, *]<;>apply step<;>simp [h0,I,J,aa,N]
 ·obtain rfl:i=max xs.length ys.length+1:=by omega
  simp -implicitDefEqProofs [zk0,aa,ad]
  exact ⟨_,s,rfl,Y,by simp [N],ae,by simpa [EaX.n] using hz⟩
theorem zn8:zo Tryz.prog KP 297:=by
 have e:=zCH
 have J:=zk (zh (L:=fun _=>ltI EaX.pre EaX.post) ziO) (X:=V × List Nat) rfl
 refine zr (L:=fun _=>ltI EaX.pre EaX.post) zt (X:=EaX) rfl ?_
 rintro ⟨x,y,fv,xs,ys,g,K,b⟩ a s ⟨rfl,C,hB⟩
 generalize Rk Tryz.prog _ _=r at e J ⊢
 simp only at C
 subst C
 obtain ⟨⟨M,hy⟩,-,o,v⟩:=id hB
 simp only [EaX.n] at M hy o
 have k:Mx=1000000:=rfl
 have O:0<K:=by rcases v with ⟨_,_,_,h,_⟩ | ⟨_,h,_⟩ | ⟨_,h,_⟩<;>simp only at h<;>omega
 have R:∀ c:V→Go.Ev.A,zm x c=c (iv .i64 (xs.length:Int)):=fun c=>qS M c
 have E:∀ c:V→Go.Ev.A,zm y c=c (iv .i64 (ys.length:Int)):=fun c=>qS hy c
 have P:=fun c=>zD1 ys.length xs.length c
 have F:IntKind.i64.wrap (((max xs.length ys.length:Nat):Int)+1)=((max xs.length ys.length+1:Nat):Int):=by rw [z8 (by omega) (by omega)];omega
 generalize t:(fnC zf 297).run r _ _=D
 simp -implicitDefEqProofs [zgn,R,E,P,F] at t
 generalize f:zcc.run r _ s=U at t
 obtain ⟨N,s1,rfl,Y,G,H,hz⟩:=f▸e ⟨x,y,fv,xs,ys,g,K,s⟩ _ s ⟨hB,Ext.refl s,⟨by simp,by simp,by simp,by simp [EaX.n],by simp⟩,0,Nat.zero_le _,by simp,(by simp [jS];rfl),O,(fun _ h=>by cases h),.inl ⟨by simp,rfl⟩⟩
 obtain ⟨I,Q⟩:=zgQ hz
 have S:=zct g xs ys (max xs.length ys.length+1)
 obtain ⟨z,W,T,j,d⟩:=J (gp 7 N,_) _ s1 ⟨rfl,I,Q,by simp only [EaX.n];omega⟩
 rw [j,d] at T
 simp -implicitDefEqProofs [G,T] at t
 exact ⟨_,s1,t.symm,Y,gp 7 N,_,rfl,H,hz,rfl⟩
theorem zAw (s:S) (el:Nat) {x:V} (M:x≠.bad):∀ U,Ext (zY s (.row [x] 1 el false 0 0 0)) U→∀ f:V→S→Go.Ev.A,zd false 1 (.ptr s.nx 0 0) U f=f x U:=fun U e f =>
 ((zDb s el 1 [x] rfl).ext e (fun a v o h=>by cases h;show s.nx.toNat<s.nx.succ.toNat;rw [K.toNat_succ];omega)).load1 Nat.zero_lt_one M f
theorem zAY:zo Tryz.prog KP 293:=by
 have D:=zk (zh (L:=fun _=>ltI EaX.pre EaX.post) zn8) (X:=EaX) rfl
 refine zr (L:=fun _=>ltI EaX.pre EaX.post) zt (X:=V × List Nat × Nat) rfl ?_
 rintro ⟨x,xs,k⟩ a s ⟨rfl,M,H,F,p,O⟩
 generalize Rk Tryz.prog _ _=r at D ⊢
 have j:=yc s (.row [uv k] 1 169 false 0 0 0)
 have C:=zAw s 169 (x:=uv k) (qG _ _)
 have t:∀ (c:Go.Ev.K→Nat→S→Go.Ev.A),Go.Ev.newRow s 169 [uv k] false c=c s.nx 1 (zY s (.row [uv k] 1 169 false 0 0 0)):=fun c=>zU s 169 _ false c
 generalize zY s (.row [uv k] 1 169 false 0 0 0)=s1 at *
 obtain ⟨y,W,T,w,V0,L,e,-,hz,rfl⟩:=D ⟨x,.nil 1,.fn (.func 316) [] [.ptr s.nx 0 0],xs,[],scG k,k,s1⟩ _ s1 ⟨rfl,rfl,⟨wD M j,zCI s1⟩,⟨H,fun _ h=>(List.not_mem_nil h).elim⟩,by show max xs.length 0+1≤2*Mx;unfold Mx at *;omega,.inl ⟨_,rfl,C,F,p,rfl⟩⟩
 have n:L=zBg k xs:=by rw [e];show (jS (scG k) xs [] (max xs.length 0+1)).1=_;rw [zjM,Nat.max_eq_left (Nat.zero_le _)];rfl
 rw [n] at hz T
 refine ⟨_,W,?_,j.trans w,V0,hz.base j.nx,rfl⟩
 simp -implicitDefEqProofs [zyy,t,T]
abbrev zva:Nat→Lt:=fun _=>⟨fun _ _=>False,fun _ _ _=>True⟩
theorem zzz:zo Tryz.prog KP 139:=by
 refine zr (L:=zva) zt (X:=Int) rfl ?_
 rintro z a s rfl
 exact ⟨_,s,by simp -implicitDefEqProofs [zAC],rfl,rfl⟩
theorem zAO:zo Tryz.prog KP 320:=by
 refine zr (L:=zva) zt (X:=Int) rfl ?_
 rintro z a s rfl
 exact ⟨_,s,by simp -implicitDefEqProofs [zzO],rfl,rfl⟩
theorem zzW:V.neg .i64 0=iv .i64 (-1):=rfl
theorem zAo:zo Tryz.prog KP 107:=by
 have D:=zk (zh (L:=zva) zzz) (X:=Int) rfl
 refine zr (L:=zva) zt (X:=Int × Int) rfl ?_
 rintro ⟨x,y⟩ a s rfl
 generalize Rk Tryz.prog _ _=r at D ⊢
 have e:∀ z,r.call 139 [iv .i64 z] s=.ret (.bool false) s:=fun z=>by
  obtain ⟨v,s1,T,j,d⟩:=D z _ s rfl
  rw [T,j,d]
 refine ⟨_,s,?_,rfl,rfl⟩
 unfold NatB.cmpZ
 by_cases I:x<y
 ·simp -implicitDefEqProofs [zot,e,I,zzW]
 ·by_cases J:y<x
  ·simp -implicitDefEqProofs [zot,e,I,J]
  ·simp -implicitDefEqProofs [zot,e,I,J]
theorem zzI:zo Tryz.prog KP 299:=by
 have D:=zk (zh (L:=zva) zAO) (X:=Int) rfl
 refine zr (L:=zva) zt (X:=Int × Int) rfl ?_
 rintro ⟨x,y⟩ a s rfl
 generalize Rk Tryz.prog _ _=r at D ⊢
 have e:∀ z,r.call 320 [iv .u64 z] s=.ret (.bool false) s:=fun z=>by
  obtain ⟨v,s1,T,j,d⟩:=D z _ s rfl
  rw [T,j,d]
 refine ⟨_,s,?_,rfl,rfl⟩
 unfold NatB.cmpZ
 by_cases I:x<y
 ·simp -implicitDefEqProofs [zn0,e,I,zzW]
 ·by_cases J:y<x
  ·simp -implicitDefEqProofs [zn0,e,I,J]
  ·simp -implicitDefEqProofs [zn0,e,I,J]
structure CpX where
 x:V
 y:V
 xs:List Nat
 ys:List Nat
 s0:S
def CpX.pre (c:CpX) (tm:T) (s:S):Prop:=s=c.s0∧(Nu s c.x c.xs∧Nu s c.y c.ys∧Bl c.xs∧Bl c.ys∧c.xs.length≤Mx∧c.xs.length=c.ys.length)∧gp 0 tm=c.x∧gp 1 tm=c.y∧gp 8 tm=iv .i64 (c.xs.length:Int)∧gp 240 tm=.bad ∧
 ∃ i:Nat,i≤c.xs.length∧gp 9 tm=iv .i64 (i:Int)∧∀ j,c.xs.length - i≤j→j<c.xs.length→c.xs.getD j 0=c.ys.getD j 0
def CpX.post (c:CpX) (a:Go.Ev.A):Prop:=(c.xs=c.ys∧∃ N,a=.ext 0 N c.s0∧gp 240 N=.bad)∨∃ N,a=.ret N c.s0∧gp 240 N=.bad∧gp 4 N=iv .i64 (NatB.cmpZ (NatB.val 1000000000 c.xs:Nat) (NatB.val 1000000000 c.ys:Nat))
theorem zCW:∀ (c:CpX) tm s,c.pre tm s→c.post (zeh.run (Rk Tryz.prog KP fun _=>ltI CpX.pre CpX.post) tm s):=by
 have o:=zk (zh (L:=fun _=>ltI CpX.pre CpX.post) zzI) (X:=Int × Int) rfl
 refine zL (L:=fun _=>ltI CpX.pre CpX.post) zt zvo rfl (fun tm _=>(toI (gp 8 tm)).toNat - (toI (gp 9 tm)).toNat) (fun x a h=>by rcases h with ⟨-,_,h,_⟩ | ⟨_,h,_⟩<;>(rw [h];exact fun h=>h)) ?_
 rintro ⟨x,y,xs,ys,s0⟩ tm s ⟨t,⟨M,hy,bx,w,C,f⟩,h0,I,R,N,i,hi,K,H⟩ E
 show CpX.post _ (zeh.run _ tm _)
 generalize Rk Tryz.prog _ _=r at E o ⊢
 simp only at t M hy bx w C f h0 I R hi K H
 subst t
 have W:Mx=1000000:=rfl
 have S:∀ c:V→Go.Ev.A,zm x c=c (iv .i64 (xs.length:Int)):=fun c=>qS M c
 by_cases O:i<xs.length
 ·have G:xs.length - 1 - i<xs.length:=by omega
  obtain ⟨p,Z,F⟩:=zak M G
  obtain ⟨q,U,P⟩:=zak hy (show xs.length - 1 - i<ys.length by omega)
  have e:IntKind.i64.wrap ((xs.length:Int) - 1)=(xs.length:Int) - 1:=z8 (by omega) (by omega)
  have D:IntKind.i64.wrap ((xs.length:Int) - 1 - i)=((xs.length - 1 - i:Nat):Int):=by rw [z8 (by omega) (by omega)];omega
  have n:IntKind.i64.wrap ((i:Int)+1)=((i+1:Nat):Int):=by rw [z8 (by omega) (by omega)];omega
  obtain ⟨v,s1,T,j,d⟩:=o ((xs.getD (xs.length - 1 - i) 0:Int),(ys.getD (xs.length - 1 - i) 0:Int)) _ s rfl
  rw [j,d] at T
  have aa:=NatB.cmp_block (B:=1000000000) (by decide) bx w f G (fun k I J=>H k (by omega) J)
  obtain ⟨a,l⟩:∃ a,xs.getD (xs.length - 1 - i) 0=a:=⟨_,rfl⟩
  obtain ⟨b,hb⟩:∃ b,ys.getD (xs.length - 1 - i) 0=b:=⟨_,rfl⟩
  rw [l] at F T aa
  rw [hb] at P T aa
  by_cases Y:a=b
  ·subst Y
   have hz:=NatB.cmpZ_self (a:Int)
   rw [hz] at T
   simp -implicitDefEqProofs [zhn,h0,I,R,K,O,S,e,D,n,Z,F,U,P,T]
   refine E ⟨x,y,xs,ys,s⟩ _ s (by rw [R,K];simp [R,zp];omega) ⟨rfl,⟨M,hy,bx,w,C,f⟩,by simp [h0],by simp [I],by simp [R],by simp [N],i+1,by show i+1≤xs.length;omega,by simp,fun k u Q=>?_⟩
   show xs.getD k 0=ys.getD k 0
   by_cases g:k=xs.length - 1 - i
   ·rw [g,l,hb]
   ·have ad:k<xs.length:=Q
    have ah:xs.length - (i+1)≤k:=u
    exact H k (by omega) ad
  ·have aa:=aa Y
   have hz:=NatB.cmpZ_ne (a:=(a:Int)) (b:=(b:Int)) (by omega)
   rw [←aa] at T hz
   generalize ae:NatB.cmpZ (NatB.val 1000000000 xs:Nat) (NatB.val 1000000000 ys:Nat)=cz at T hz
   simp -implicitDefEqProofs [zhn,h0,I,R,K,O,S,e,D,Z,F,U,P,T,hz]
   refine .inr ⟨_,rfl,by simp [N],?_⟩
   show gp 4 _=iv .i64 (NatB.cmpZ (NatB.val 1000000000 xs:Nat) (NatB.val 1000000000 ys:Nat))
   rw [ae];simp
 ·obtain rfl:i=xs.length:=by omega
  simp -implicitDefEqProofs [zhn,R,K]
  refine .inl ⟨?_,_,rfl,by simp [N]⟩
  apply kaL
  intro k
  show xs[k]?=ys[k]?
  by_cases g:k<xs.length
  ·have:=H k (by omega) g
   rw [kaa,kaa,kab g,kab (show k<ys.length by omega)] at this
   rw [kab g,kab (show k<ys.length by omega)]
   simpa using this
  ·rw [kal (by omega),kal (by omega)]
theorem zou:zo Tryz.prog KP 261:=by
 have P:=zCW
 have Q:=zk (zh (L:=fun _=>ltI CpX.pre CpX.post) zAo) (X:=Int × Int) rfl
 refine zr (L:=fun _=>ltI CpX.pre CpX.post) zt (X:=V × V × List Nat × List Nat) rfl ?_
 rintro ⟨x,y,xs,ys⟩ a s ⟨rfl,M,hy,bx,w,tx,ty,n,Y⟩
 generalize Rk Tryz.prog _ _=r at P Q ⊢
 have R:∀ c:V→Go.Ev.A,zm x c=c (iv .i64 (xs.length:Int)):=fun c=>qS M c
 have C:∀ c:V→Go.Ev.A,zm y c=c (iv .i64 (ys.length:Int)):=fun c=>qS hy c
 refine ⟨_,s,?_,rfl,rfl⟩
 by_cases f:xs.length=ys.length
 ·have E:((xs.length:Int)=(ys.length:Int))=True:=eq_true (by omega)
  generalize t:(fnC zf 261).run r _ _=k
  simp -implicitDefEqProofs [zdo,R,C,E] at t
  generalize p:zeh.run r _ s=U at t
  rcases p▸P ⟨x,y,xs,ys,s⟩ _ s ⟨rfl,⟨M,hy,bx,w,n,f⟩,by simp,by simp,by simp,by simp,0,Nat.zero_le _,by simp,fun j I J=>by simp only at I J;omega⟩ with ⟨O,N,rfl,G⟩ | ⟨N,rfl,G,u⟩
  ·simp only at O
   subst O
   rw [NatB.cmpZ_self]
   simp -implicitDefEqProofs [G] at t
   exact t.symm
  ·simp only at u
   simp -implicitDefEqProofs [G,u] at t
   exact t.symm
 ·obtain ⟨v,s1,T,D,d⟩:=Q ((xs.length:Int),(ys.length:Int)) _ s rfl
  rw [D,d] at T
  have E:((xs.length:Int)=(ys.length:Int))=False:=eq_false (by omega)
  have e:NatB.cmpZ (xs.length:Int) (ys.length:Int)=NatB.cmpZ (NatB.val 1000000000 xs:Nat) (NatB.val 1000000000 ys:Nat):=by
   unfold NatB.cmpZ
   rcases kaK xs.length ys.length with g | g
   ·have:=NatB.cmp_len (B:=1000000000) (by decide) bx ty g
    rw [if_pos (by omega),if_pos (by omega)]
   ·have:=NatB.cmp_len (B:=1000000000) (by decide) w tx (show ys.length<xs.length by omega)
    rw [if_neg (by omega),if_pos (by omega),if_neg (by omega),if_pos (by omega)]
  rw [e] at T
  simp -implicitDefEqProofs [zdo,R,C,E,T]
structure AdX where
 u:V
 v:V
 us:List Nat
 ys:List Nat
 m:Nat
 s0:S
def AdX.base (c:AdX):Prop:=Nu c.s0 c.u c.us∧Nu c.s0 c.v c.ys∧Bl c.us∧Bl c.ys∧c.ys.length=c.m+1∧c.us.length=c.m+2∧c.m≤Mx∧300000000≤c.ys.getD c.m 0∧NatB.val 1000000000 c.us<1000000000*NatB.val 1000000000 c.ys
def AdX.fr (c:AdX) (tm:T):Prop:=gp 0 tm=c.u∧gp 1 tm=c.v∧gp 5 tm=iv .i64 ((c.m+1:Nat):Int)∧gp 240 tm=.bad
def AdX.pre (c:AdX) (tm:T) (s:S):Prop:=s=c.s0∧c.base∧c.fr tm∧∃ q rest:Nat,gp 7 tm=uv q∧gp 8 tm=uv rest∧c.us.getD (c.m+1) 0*1000000000+c.us.getD c.m 0=q*c.ys.getD c.m 0+rest∧NatB.val 1000000000 c.us<(q+1)*NatB.val 1000000000 c.ys
def AdX.post (c:AdX) (a:Go.Ev.A):Prop:=∃ N,∃ q:Nat,a=.ext 0 N c.s0∧c.fr N∧gp 7 N=uv q∧q<1000000000∧NatB.val 1000000000 c.us<(q+1)*NatB.val 1000000000 c.ys∧q*NatB.val 1000000000 c.ys≤NatB.val 1000000000 c.us+NatB.val 1000000000 c.ys
def zgT:V→Nat→Nat→Nat→V
 | .so a w _ _ _,o,len,e=>.so a w o len e
 | v,_,_,_=>v
variable {L:List Nat}
theorem zoo (h:i<L.length):(us L)[i]?=some [uv (L.getD i 0)]:=by
 simp [us,kab h]
theorem zn1 (L:List Nat) (i x:Nat):(us L).set i [uv x]=us (L.set i x):=by simp [us,List.map_set]
variable {len:Nat}
theorem zns {b:S} {V0:V} (hz:Gz 169 1 b s V0 (us L)) (P:0<L.length) (o:Nat) (e:Nat) (hi:i<len) (k:IntKind) (c:V→Go.Ev.A):ze 1 (zgT V0 o len e) (iv k (i:Int)) c=c (zlp V0 (o+i)):=by
 obtain ⟨a,W,rfl,-⟩:=hz.pos (i:=0) (by rw [jo];exact P)
 show (Bool.rec (motive:=fun _=>Go.Ev.A) _ _ (Nat.blt i len):Go.Ev.A)=_
 rw [show Nat.blt i len=true by rw [Nat.blt_eq];exact hi]
 show fN (Nat.add o (Nat.mul i 1)) (fun o=>c (.ptr a _ o))=_
 rw [zE,show Nat.add o (Nat.mul i 1)=o+i by show o+i*1=_;omega];rfl
def Oth (s0 s:S) (V0:V):Prop:=s.nx=s0.nx∧∀ c,qi V0≠some c→Tr.get B.none c s.h=Tr.get B.none c s0.h
structure SbX where
 V0:V
 v:V
 o:Nat
 e:Nat
 L:List Nat
 ys:List Nat
 q:Nat
 b:S
 s0:S
def SbX.base (c:SbX):Prop:=(∀ s,Oth c.s0 s c.V0→Nu s c.v c.ys)∧Bl c.L∧Bl c.ys∧0<c.ys.length∧c.ys.length≤Mx∧c.o+c.ys.length+1≤c.L.length∧c.q<1000000000
def SbX.fr (c:SbX) (tm:T):Prop:=gp 0 tm=zgT c.V0 c.o (c.ys.length+1) c.e∧gp 1 tm=c.v∧gp 5 tm=iv .i64 (c.ys.length:Int)∧gp 7 tm=uv c.q∧gp 240 tm=.bad
def SbX.pre (c:SbX) (tm:T) (s:S):Prop:=c.base∧Oth c.s0 s c.V0∧c.fr tm∧gp 18 tm=iv .i64 ((c.ys.length+1:Nat):Int)∧∃ (i k C:Nat) (R:List Nat),i≤c.ys.length+1∧R.length=i∧Bl R∧gp 19 tm=iv .i64 (i:Int)∧gp 9 tm=uv C∧gp 10 tm=uv k∧C≤1∧k<1000000000 ∧
 (i=c.ys.length+1→k=0)∧Gz 169 1 c.b s c.V0 (us (NatB.rep c.L c.o R))∧NatB.val 1000000000 R+c.q*NatB.val 1000000000 (c.ys.take i)=NatB.val 1000000000 ((c.L.drop c.o).take i)+(k+C)*1000000000 ^ i
def SbX.post (c:SbX) (a:Go.Ev.A):Prop:=∃ N s,∃ (C:Nat) (R:List Nat),a=.ext 2 N s∧Oth c.s0 s c.V0∧c.fr N∧R.length=c.ys.length+1∧Bl R∧gp 9 N=uv C∧C≤1∧Gz 169 1 c.b s c.V0 (us (NatB.rep c.L c.o R)) ∧
 NatB.val 1000000000 R+c.q*NatB.val 1000000000 c.ys=NatB.val 1000000000 ((c.L.drop c.o).take (c.ys.length+1))+C*1000000000 ^ (c.ys.length+1)
def SbX.preA (c:SbX) (tm:T) (s:S):Prop:=c.base∧Oth c.s0 s c.V0∧c.fr tm∧gp 23 tm=iv .i64 ((c.ys.length+1:Nat):Int)∧∃ (i k:Nat) (R:List Nat),i≤c.ys.length+1∧R.length=i∧Bl R∧gp 24 tm=iv .i64 (i:Int)∧gp 10 tm=uv k∧k≤1 ∧
 Gz 169 1 c.b s c.V0 (us (NatB.rep c.L c.o R))∧NatB.val 1000000000 R+k*1000000000 ^ i=NatB.val 1000000000 ((c.L.drop c.o).take i)+NatB.val 1000000000 (c.ys.take i)
def SbX.postA (c:SbX) (a:Go.Ev.A):Prop:=∃ N s,∃ (k:Nat) (R:List Nat),a=.ext 4 N s∧Oth c.s0 s c.V0∧c.fr N∧R.length=c.ys.length+1∧Bl R∧k≤1∧Gz 169 1 c.b s c.V0 (us (NatB.rep c.L c.o R)) ∧
 NatB.val 1000000000 R+k*1000000000 ^ (c.ys.length+1)=NatB.val 1000000000 ((c.L.drop c.o).take (c.ys.length+1))+NatB.val 1000000000 c.ys
noncomputable def LD:Nat→Lt
 | 62=>ltI AdX.pre AdX.post
 | 66=>ltI SbX.pre SbX.post
 | _=>ltI SbX.preA SbX.postA
theorem zC1:∀ (c:AdX) tm s,c.pre tm s→c.post (zce.run (Rk Tryz.prog K0 LD) tm s):=by
 refine zL (L:=LD) zt zvA rfl (fun tm _=>(toI (gp 7 tm)).toNat) (fun x a ⟨_,_,h,_⟩=>by rw [h];exact fun h=>h) ?_
 rintro ⟨u,v,us,ys,m,s0⟩ tm s ⟨t,hb,⟨h0,I,d,N⟩,q,rest,g,R,Q,U⟩ J
 show AdX.post _ (zce.run _ tm _)
 generalize Rk Tryz.prog _ _=r at J ⊢
 have hB:=hb
 obtain ⟨hu,E,bu,K,ly,lu,w,aw,aA⟩:=hb
 simp only at t hu E bu K ly lu w aw aA h0 I d Q U
 subst t
 have aH:Mx=1000000:=rfl
 have tB:us.getD (m+1) 0<1000000000:=jN bu _
 have aJ:us.getD m 0<1000000000:=jN bu _
 have vB:ys.getD m 0<1000000000:=jN K _
 have aD:q*300000000≤q*ys.getD m 0:=Nat.mul_le_mul_left _ aw
 obtain ⟨p1,ai,ah⟩:=zak E (show m<ys.length by omega)
 have P:IntKind.i64.wrap (m:Int)=(m:Int):=z8 (by omega) (by omega)
 -- aG is one less
 have dec:0<q→NatB.val 1000000000 us<q*NatB.val 1000000000 ys→∀ F,gp 0 F=u→gp 1 F=v→gp 5 F=iv .i64 ((m+1:Nat):Int)→gp 240 F=.bad→gp 7 F=uv (q - 1)→gp 8 F=uv (rest+ys.getD m 0)→AdX.post ⟨u,v,us,ys,m,s⟩ (r.code zap zf0 F s):=by
  intro aj O F S n i G f l
  refine J ⟨u,v,us,ys,m,s⟩ F s (by rw [f,g,zp,zp];omega) ⟨rfl,hB,⟨S,n,i,G⟩,q - 1,rest+ys.getD m 0,f,l,?_,?_⟩
  ·show us.getD (m+1) 0*1000000000+us.getD m 0=(q - 1)*ys.getD m 0+(rest+ys.getD m 0)
   obtain ⟨p,rfl⟩:∃ p,q=p+1:=⟨q - 1,by omega⟩
   rw [Q,Nat.add_sub_cancel,Nat.add_mul];omega
  ·show NatB.val 1000000000 us<(q - 1+1)*NatB.val 1000000000 ys
   rw [show q - 1+1=q by omega];exact O
 have aa:0<q→NatB.val 1000000000 us<q*NatB.val 1000000000 ys→1000000000≤rest+ys.getD m 0→q - 1<1000000000→∀ F,gp 0 F=u→gp 1 F=v→gp 5 F=iv .i64 ((m+1:Nat):Int)→gp 240 F=.bad→gp 7 F=uv (q - 1)→AdX.post ⟨u,v,us,ys,m,s⟩ (.ext 0 F s):=by
  intro aj O aB aE F S n i G f
  refine ⟨F,q - 1,rfl,⟨S,n,i,G⟩,f,aE,?_,?_⟩
  ·show NatB.val 1000000000 us<(q - 1+1)*NatB.val 1000000000 ys
   rw [show q - 1+1=q by omega];exact O
  ·have:=NatB.adj_rest (B:=1000000000) (by decide) bu K ly lu (q:=q - 1) (by omega) (rest:=rest+ys.getD m 0) (by
    obtain ⟨p,rfl⟩:∃ p,q=p+1:=⟨q - 1,by omega⟩
    rw [Q,Nat.add_sub_cancel,Nat.add_mul];omega) (.inl aB)
   show (q - 1)*NatB.val 1000000000 ys≤NatB.val 1000000000 us+NatB.val 1000000000 ys
   omega
 generalize ax:ys.getD m 0=y1 at ah vB aD dec aa Q aw
 have T:0<q→IntKind.u64.wrap ((q:Int) - 1)=((q - 1:Nat):Int):=fun h=>by rw [wa (by omega) (by omega)];omega
 have D:IntKind.u64.wrap ((rest:Int)+(y1:Int))=((rest+y1:Nat):Int):=by rw [wa (by omega) (by omega)];omega
 generalize aB:rest+y1=re at D dec aa
 generalize aK:q - 1=qd at T dec aa
 by_cases cA:1000000000≤q
 ·have ad:((1000000000:Int)≤(q:Int))=True:=eq_true (by omega)
  have O:NatB.val 1000000000 us<q*NatB.val 1000000000 ys:=kan aA (kag _ cA)
  have dec:=dec (by omega) O
  have aa:=aa (by omega) O
  have T:=T (by omega)
  by_cases cB:1000000000≤re
  ·have ae:((1000000000:Int)≤(re:Int))=True:=eq_true (by omega)
   by_cases cC:qd<1000000000
   ·have ak:((qd:Int)<(1000000000:Int))=True:=eq_true (by omega)
    simp -implicitDefEqProofs [jT,yG,I,d,g,R,ad,ae,ak,P,ai,ah,T,D]
    exact aa (by omega) cC _ (by simp [h0]) (by simp [I]) (by simp [d]) (by simp [N]) (by simp)
   ·have ak:((qd:Int)<(1000000000:Int))=False:=eq_false (by omega)
    simp -implicitDefEqProofs [jT,yG,I,d,g,R,ad,ae,ak,P,ai,ah,T,D]
    apply dec<;>simp [h0,I,d,N]
  ·have ae:((1000000000:Int)≤(re:Int))=False:=eq_false (by omega)
   simp -implicitDefEqProofs [jT,yG,I,d,g,R,ad,ae,P,ai,ah,T,D]
   apply dec<;>simp [h0,I,d,N]
 ·have ad:((1000000000:Int)≤(q:Int))=False:=eq_false (by omega)
  have out:q*NatB.val 1000000000 ys≤NatB.val 1000000000 us+NatB.val 1000000000 ys→∀ F,gp 0 F=u→gp 1 F=v→gp 5 F=iv .i64 ((m+1:Nat):Int)→gp 240 F=.bad→gp 7 F=uv q→AdX.post ⟨u,v,us,ys,m,s⟩ (.ext 0 F s):=fun h F S n i G f =>
   ⟨F,q,rfl,⟨S,n,i,G⟩,f,by omega,U,h⟩
  have al:=NatB.adj_rest (B:=1000000000) (by decide) bu K ly lu (q:=q) (by omega) (rest:=rest) (by rw [Q,ax])
  by_cases aF:m=0
  ·have o:((1:Int)<(m:Int)+1)=False:=eq_false (by omega)
   simp -implicitDefEqProofs [jT,yG,d,g,R,ad,o]
   apply out (by have:=al (.inr aF);omega)<;>simp [h0,I,d,g,N]
  ·obtain ⟨k,H⟩:∃ k,m=k+1:=⟨m - 1,by omega⟩
   have o:((1:Int)<(m:Int)+1)=True:=eq_true (by omega)
   by_cases cR:rest<1000000000
   ·have an:((rest:Int)<(1000000000:Int))=True:=eq_true (by omega)
    obtain ⟨p2,ay,ao⟩:=zak E (show k<ys.length by omega)
    obtain ⟨p3,az,aq⟩:=zak hu (show k<us.length by omega)
    have j:IntKind.i64.wrap ((m:Int)+1 - 2)=(k:Int):=by rw [z8 (by omega) (by omega)];omega
    have aC:us.getD (k+2) 0*1000000000+us.getD (k+1) 0=q*ys.getD (k+1) 0+rest:=by
     rw [show k+2=m+1 by omega,show k+1=m by omega,ax]
     exact Q
    have hi:=NatB.adj_high (B:=1000000000) (by decide) bu K (m:=k) (by omega) (by omega) (q:=q) (rest:=rest) aC
    have lo:=NatB.adj_low (B:=1000000000) (by decide) bu K (m:=k) (by omega) (by omega) (by rw [show k+1=m by omega,ax];omega) (q:=q) (by omega) (rest:=rest) aC
    have W:ys.getD k 0<1000000000:=jN K _
    have b3:us.getD k 0<1000000000:=jN bu _
    generalize ys.getD k 0=C at ao hi lo W
    generalize us.getD k 0=M at aq hi lo b3
    have bX:q*C<18446744073709551616:=by
     have:q*C≤1000000000*1000000000:=Nat.mul_le_mul (by omega) (by omega)
     omega
    have ar:∀ y cst (c:V→Go.Ev.A),zw y cst .mul (uv q) (uv C) c=c (uv (q*C)):=fun y cst c=>zhC y cst c bX
    have au:∀ y cst (c:V→Go.Ev.A),zw y cst .mul (uv rest) (iv .u64 1000000000) c=c (uv (rest*1000000000)):=fun y cst c=>zwa y cst c (by omega)
    generalize q*C=X at ar hi lo bX
    generalize hY:rest*1000000000=Y at au hi lo
    have wZ:IntKind.u64.wrap ((Y:Int)+(M:Int))=((Y+M:Nat):Int):=by rw [wa (by omega) (by omega)];omega
    generalize Y+M=Z at wZ hi lo
    by_cases cX:Z<X
    ·have av:((Z:Int)<(X:Int))=True:=eq_true (by omega)
     have O:=hi cX
     have aj:0<q:=by
      rcases Nat.eq_zero_or_pos q with e | e
      ·subst e;simp at O
      ·exact e
     have dec:=dec aj O
     have aa:=aa aj O
     have T:=T aj
     by_cases cB:1000000000≤re
     ·have ae:((1000000000:Int)≤(re:Int))=True:=eq_true (by omega)
      have ak:((qd:Int)<(1000000000:Int))=True:=eq_true (by omega)
      simp -implicitDefEqProofs [jT,yG,h0,I,d,g,R,ad,o,an,j,ay,ao,az,aq,ar,au,wZ,av,ae,ak,P,ai,ah,T,D]
      exact aa (by omega) (by omega) _ (by simp [h0]) (by simp [I]) (by simp [d]) (by simp [N]) (by simp)
     ·have ae:((1000000000:Int)≤(re:Int))=False:=eq_false (by omega)
      simp -implicitDefEqProofs [jT,yG,h0,I,d,g,R,ad,o,an,j,ay,ao,az,aq,ar,au,wZ,av,ae,P,ai,ah,T,D]
      apply dec<;>simp [h0,I,d,N]
    ·have av:((Z:Int)<(X:Int))=False:=eq_false (by omega)
     simp -implicitDefEqProofs [jT,yG,h0,I,d,g,R,ad,o,an,j,ay,ao,az,aq,ar,au,wZ,av]
     apply out (lo (by omega))<;>simp [h0,I,d,g,N]
   ·have an:((rest:Int)<(1000000000:Int))=False:=eq_false (by omega)
    simp -implicitDefEqProofs [jT,yG,h0,I,d,g,R,ad,o,an]
    apply out (by have:=al (.inl (by omega));omega)<;>simp [h0,I,d,g,N]
theorem zDu:∀ (c:SbX) tm s,c.pre tm s→c.post (zdX.run (Rk Tryz.prog K0 LD) tm s):=by
 refine zL (L:=LD) zt zvL rfl (fun tm _=>(toI (gp 18 tm)).toNat - (toI (gp 19 tm)).toNat) (fun x a ⟨_,_,_,_,h,_⟩=>by rw [h];exact fun h=>h) ?_
 rintro ⟨V0,v,o,e,L,ys,q,b,s0⟩ tm s ⟨hb,hO,⟨h0,I,g,Y,N⟩,aa,i,k,bo,R,hi,hR,bR,ae,l,D,aj,H,ao,hz,inv⟩ T
 show SbX.post _ (zdX.run _ tm _)
 generalize Rk Tryz.prog _ _=r at T ⊢
 have hB:=hb
 obtain ⟨E,bL,w,j,Q,az,J⟩:=hb
 simp only at E bL w j Q az J hO h0 I g Y aa hi ao hz inv
 have aK:Mx=1000000:=rfl
 by_cases O:i<ys.length+1
 ·have W:((i:Int)<(ys.length:Int)+1)=True:=eq_true (by omega)
  have aA:(NatB.rep L o R).length=L.length:=NatB.rep_len (by omega)
  have ak:=NatB.rep_get (L:=L) (o:=o) (r:=R) (by omega)
  rw [hR] at ak
  have aq:L.getD (o+i) 0<1000000000:=jN bL _
  have aL:ys.getD i 0<1000000000:=jN w _
  have ix:∀ (kk:IntKind) (c:V→Go.Ev.A),ze 1 (zgT V0 o (ys.length+1) e) (iv kk (i:Int)) c=c (zlp V0 (o+i)):=fun kk c=>zns hz (by omega) o e O kk c
  have ld:∀ kk:V→S→Go.Ev.A,zd false 1 (zlp V0 (o+i)) s kk=kk (uv (L.getD (o+i) 0)) s:=fun kk=>hz.load1 (by rw [zoo (by omega),ak]) (qG _ _) kk
  have hU:NatB.val 1000000000 ((L.drop o).take (i+1))=NatB.val 1000000000 ((L.drop o).take i)+1000000000 ^ i*L.getD (o+i) 0:=by
   rw [NatB.val_take_succ]
   congr 2
   rw [kaa,List.getElem?_drop,←kaa]
  have hY:NatB.val 1000000000 (ys.take (i+1))=NatB.val 1000000000 (ys.take i)+1000000000 ^ i*ys.getD i 0:=NatB.val_take_succ _ _ _
  have ad:=NatB.sub_inv' (B:=1000000000) (q:=q) (x:=L.getD (o+i) 0) (y:=ys.getD i 0) (by decide) hR inv aq aj
  rw [←hU,←hY] at ad
  obtain ⟨-,ar,au,aM⟩:=NatB.sub_step (B:=1000000000) (q:=q) (u:=L.getD (o+i) 0) (v:=ys.getD i 0) (carry:=k) (by decide) aq aj
  have hM:q*ys.getD i 0≤999999999*999999999:=Nat.mul_le_mul (by omega) (by omega)
  have aB:(k+q*ys.getD i 0) / 1000000000<1000000000:=by omega
  have ai:i+1=ys.length+1→(k+q*ys.getD i 0) / 1000000000=0:=fun h=>by
   have e0:ys.getD i 0=0:=by rw [kaa,kal (by omega)];rfl
   rw [e0,Nat.mul_zero];omega
  have al:o+i<(us (NatB.rep L o R)).length:=by rw [jo,aA];omega
  obtain ⟨U,st,C,aC,an⟩:=hz.store1 al (y:=uv ((L.getD (o+i) 0+1000000000 - (k+q*ys.getD i 0) % 1000000000 - bo) % 1000000000)) (fun c=>by rw [yP])
  rw [zn1,←hR,NatB.rep_set (by omega),hR] at C
  have aD:Oth s0 U V0:=⟨aC.trans hO.1,fun c X=>(an c X).trans (hO.2 c X)⟩
  have av:Bl (R++[(L.getD (o+i) 0+1000000000 - (k+q*ys.getD i 0) % 1000000000 - bo) % 1000000000]):=fun z hz=>by
   rcases kaq.1 hz with hz | hz
   ·exact bR z hz
   ·rw [kak.1 hz];exact au
  have step:∀ F,gp 0 F=zgT V0 o (ys.length+1) e→gp 1 F=v→gp 5 F=iv .i64 (ys.length:Int)→gp 7 F=uv q→gp 240 F=.bad→gp 18 F=iv .i64 ((ys.length+1:Nat):Int)→gp 19 F=iv .i64 ((i+1:Nat):Int) →
    gp 9 F=uv (1 - (L.getD (o+i) 0+1000000000 - (k+q*ys.getD i 0) % 1000000000 - bo) / 1000000000)→gp 10 F=uv ((k+q*ys.getD i 0) / 1000000000)→SbX.post ⟨V0,v,o,e,L,ys,q,b,s0⟩ (r.code zap zgt F U):=by
   intro F k0 n t k7 G aw ax k9 aE
   exact T ⟨V0,v,o,e,L,ys,q,b,s0⟩ F U (by rw [aw,ax,aa,ae,zp,zp,zp];omega) ⟨hB,aD,⟨k0,n,t,k7,G⟩,aw,i+1,_,_,_,by show i+1≤ys.length+1;omega,by rw [kae,hR];rfl,av,ax,k9,aE,ar,aB,ai,C,ad⟩
  have aF:i<ys.length→∃ p,(∀ (kk:IntKind) (c:V→Go.Ev.A),ze 1 v (iv kk (i:Int)) c=c p)∧∀ kk:V→S→Go.Ev.A,zd false 1 p s kk=kk (uv (ys.getD i 0)) s:=fun h=>zak (E s hO) h
  have aG:¬i<ys.length→ys.getD i 0=0:=fun h=>by rw [kaa,kal (by omega)];rfl
  clear inv ad ai ar au av C T hU hY ak
  generalize L.getD (o+i) 0=x at *
  generalize ys.getD i 0=y at *
  have em:∀ q' cst (c:V→Go.Ev.A),zw q' cst .mul (uv q) (uv y) c=c (uv (q*y)):=fun q' cst c=>zhC q' cst c (by omega)
  generalize aH:q*y=M at *
  have wp:IntKind.u64.wrap ((k:Int)+(M:Int))=((k+M:Nat):Int):=by rw [wa (by omega) (by omega)];omega
  generalize K:k+M=P at *
  have er:∀ q' cst (c:V→Go.Ev.A),zw q' cst .rem (uv P) (iv .u64 1000000000) c=c (uv (P % 1000000000)):=fun q' cst c=>zh9 q' cst c
  have ay:∀ q' cst (c:V→Go.Ev.A),zw q' cst .quo (uv P) (iv .u64 1000000000) c=c (uv (P / 1000000000)):=fun q' cst c=>zhZ q' cst c (by omega)
  have aN:P % 1000000000<1000000000:=Nat.mod_lt _ (by decide)
  generalize P % 1000000000=m1 at *
  generalize P / 1000000000=p2 at *
  have w4:IntKind.u64.wrap ((x:Int)+1000000000)=((x+1000000000:Nat):Int):=by rw [wa (by omega) (by omega)];omega
  have w7:IntKind.u64.wrap (((x+1000000000:Nat):Int) - (m1:Int))=((x+1000000000 - m1:Nat):Int):=by rw [wa (by omega) (by omega)];omega
  have aO:1000000000≤x+1000000000∧x+1000000000<2000000000:=by omega
  generalize x+1000000000=t4 at *
  have w9:IntKind.u64.wrap (((t4 - m1:Nat):Int) - (bo:Int))=((t4 - m1 - bo:Nat):Int):=by rw [wa (by omega) (by omega)];omega
  have aP:t4 - m1 - bo<2000000000:=by omega
  generalize t4 - m1=t7 at *
  generalize t7 - bo=d at *
  have ed:∀ q' cst (c:V→Go.Ev.A),zw q' cst .rem (uv d) (iv .u64 1000000000) c=c (uv (d % 1000000000)):=fun q' cst c=>zh9 q' cst c
  have eD:∀ q' cst (c:V→Go.Ev.A),zw q' cst .quo (uv d) (iv .u64 1000000000) c=c (uv (d / 1000000000)):=fun q' cst c=>zhZ q' cst c (by omega)
  have aQ:d / 1000000000≤1:=by omega
  generalize d % 1000000000=d1 at *
  generalize d / 1000000000=d2 at *
  have w1:IntKind.u64.wrap (1 - (d2:Int))=((1 - d2:Nat):Int):=by rw [wa (by omega) (by omega)];omega
  have f:IntKind.i64.wrap ((i:Int)+1)=((i+1:Nat):Int):=by rw [z8 (by omega) (by omega)];omega
  by_cases ah:i<ys.length
  ·obtain ⟨p,Z,aJ⟩:=aF ah
   simp -implicitDefEqProofs [zhd,h0,I,g,Y,l,D,aa,ae,W,ah,Z,aJ,em,wp,ix,ld,w4,er,w7,w9,ed,eD,w1,ay,st,f]
   apply step<;>simp [h0,I,g,Y,aa,N]
  ·have:M=0:=by rw [←aH,aG ah,Nat.mul_zero]
   obtain rfl:P=k:=by omega
   simp -implicitDefEqProofs [zhd,h0,I,g,Y,l,D,aa,ae,W,ah,ix,ld,w4,er,w7,w9,ed,eD,w1,ay,st,f]
   apply step<;>simp [h0,I,g,Y,aa,N]
 ·obtain rfl:i=ys.length+1:=by omega
  simp -implicitDefEqProofs [zhd,aa,ae]
  refine ⟨_,s,bo,R,rfl,hO,⟨by simp [h0],by simp [I],by simp [g],by simp [Y],by simp [N]⟩,hR,bR,by simp [l],aj,hz,?_⟩
  rw [ao rfl,kas,List.take_of_length_le (by omega)] at inv
  exact inv
theorem zBZ:∀ (c:SbX) tm s,c.preA tm s→c.postA (zdB.run (Rk Tryz.prog K0 LD) tm s):=by
 refine zL (L:=LD) zt zvO rfl (fun tm _=>(toI (gp 23 tm)).toNat - (toI (gp 24 tm)).toNat) (fun x a ⟨_,_,_,_,h,_⟩=>by rw [h];exact fun h=>h) ?_
 rintro ⟨V0,v,o,e,L,ys,q,b,s0⟩ tm s ⟨hb,hO,⟨h0,I,d,g,N⟩,aa,i,k,R,hi,Q,bR,ae,D,H,hz,inv⟩ T
 show SbX.postA _ (zdB.run _ tm _)
 generalize Rk Tryz.prog _ _=r at T ⊢
 have hB:=hb
 obtain ⟨E,bL,K,j,Y,av,J⟩:=hb
 simp only at E bL K j Y av J hO h0 I d g aa hi hz inv
 have aC:Mx=1000000:=rfl
 by_cases O:i<ys.length+1
 ·have W:((i:Int)<(ys.length:Int)+1)=True:=eq_true (by omega)
  have aw:(NatB.rep L o R).length=L.length:=NatB.rep_len (by omega)
  have ai:=NatB.rep_get (L:=L) (o:=o) (r:=R) (by omega)
  rw [Q] at ai
  have aD:L.getD (o+i) 0<1000000000:=jN bL _
  have aE:ys.getD i 0<1000000000:=jN K _
  have ix:∀ (M:IntKind) (c:V→Go.Ev.A),ze 1 (zgT V0 o (ys.length+1) e) (iv M (i:Int)) c=c (zlp V0 (o+i)):=fun M c=>zns hz (by omega) o e O M c
  have ld:∀ M:V→S→Go.Ev.A,zd false 1 (zlp V0 (o+i)) s M=M (uv (L.getD (o+i) 0)) s:=fun M=>hz.load1 (by rw [zoo (by omega),ai]) (qG _ _) M
  have hU:NatB.val 1000000000 ((L.drop o).take (i+1))=NatB.val 1000000000 ((L.drop o).take i)+1000000000 ^ i*L.getD (o+i) 0:=by
   rw [NatB.val_take_succ]
   congr 2
   rw [kaa,List.getElem?_drop,←kaa]
  have hY:NatB.val 1000000000 (ys.take (i+1))=NatB.val 1000000000 (ys.take i)+1000000000 ^ i*ys.getD i 0:=NatB.val_take_succ _ _ _
  have ad:=NatB.add_inv' (B:=1000000000) (x:=L.getD (o+i) 0) (y:=ys.getD i 0) (by decide) Q inv
  rw [←hU,←hY] at ad
  have al:(L.getD (o+i) 0+k+ys.getD i 0) / 1000000000≤1:=by omega
  have an:(L.getD (o+i) 0+k+ys.getD i 0) % 1000000000<1000000000:=Nat.mod_lt _ (by decide)
  have aj:o+i<(us (NatB.rep L o R)).length:=by rw [jo,aw];omega
  obtain ⟨U,st,f,ax,ak⟩:=hz.store1 aj (y:=uv ((L.getD (o+i) 0+k+ys.getD i 0) % 1000000000)) (fun c=>by rw [yP])
  rw [zn1,←Q,NatB.rep_set (by omega),Q] at f
  have ay:Oth s0 U V0:=⟨ax.trans hO.1,fun c X=>(ak c X).trans (hO.2 c X)⟩
  have ao:Bl (R++[(L.getD (o+i) 0+k+ys.getD i 0) % 1000000000]):=fun z hz=>by
   rcases kaq.1 hz with hz | hz
   ·exact bR z hz
   ·rw [kak.1 hz];exact an
  have step:∀ F,gp 0 F=zgT V0 o (ys.length+1) e→gp 1 F=v→gp 5 F=iv .i64 (ys.length:Int)→gp 7 F=uv q→gp 240 F=.bad→gp 23 F=iv .i64 ((ys.length+1:Nat):Int)→gp 24 F=iv .i64 ((i+1:Nat):Int) →
    gp 10 F=uv ((L.getD (o+i) 0+k+ys.getD i 0) / 1000000000)→SbX.postA ⟨V0,v,o,e,L,ys,q,b,s0⟩ (r.code zap zg5 F U):=by
   intro F k0 u P k7 G aq ar C
   exact T ⟨V0,v,o,e,L,ys,q,b,s0⟩ F U (by rw [aq,ar,aa,ae,zp,zp,zp];omega) ⟨hB,ay,⟨k0,u,P,k7,G⟩,aq,i+1,_,_,by show i+1≤ys.length+1;omega,by rw [kae,Q];rfl,ao,ar,C,al,f,ad⟩
  have az:i<ys.length→∃ p,(∀ (M:IntKind) (c:V→Go.Ev.A),ze 1 v (iv M (i:Int)) c=c p)∧∀ M:V→S→Go.Ev.A,zd false 1 p s M=M (uv (ys.getD i 0)) s:=fun h=>zak (E s hO) h
  have aA:¬i<ys.length→ys.getD i 0=0:=fun h=>by rw [kaa,kal (by omega)];rfl
  clear inv ad ao f T hU hY ai al an
  generalize L.getD (o+i) 0=x at *
  generalize ys.getD i 0=y at *
  have w4:IntKind.u64.wrap ((x:Int)+(k:Int))=((x+k:Nat):Int):=by rw [wa (by omega) (by omega)];omega
  have aF:x+k≤1000000000:=by omega
  generalize hT:x+k=t at *
  have w5:IntKind.u64.wrap ((t:Int)+(y:Int))=((t+y:Nat):Int):=by rw [wa (by omega) (by omega)];omega
  generalize hW:t+y=w at *
  have er:∀ q' cst (c:V→Go.Ev.A),zw q' cst .rem (uv w) (iv .u64 1000000000) c=c (uv (w % 1000000000)):=fun q' cst c=>zh9 q' cst c
  have au:∀ q' cst (c:V→Go.Ev.A),zw q' cst .quo (uv w) (iv .u64 1000000000) c=c (uv (w / 1000000000)):=fun q' cst c=>zhZ q' cst c (by omega)
  generalize w % 1000000000=d1 at *
  generalize w / 1000000000=d2 at *
  have n:IntKind.i64.wrap ((i:Int)+1)=((i+1:Nat):Int):=by rw [z8 (by omega) (by omega)];omega
  by_cases ah:i<ys.length
  ·obtain ⟨p,Z,aB⟩:=az ah
   simp -implicitDefEqProofs [zhr,h0,I,d,D,aa,ae,W,ah,Z,aB,ix,ld,w4,w5,er,au,st,n]
   apply step<;>simp [h0,I,d,g,aa,N]
  ·have:=aA ah
   obtain rfl:w=t:=by omega
   simp -implicitDefEqProofs [zhr,h0,I,d,D,aa,ae,W,ah,ix,ld,w4,er,au,st,n]
   apply step<;>simp [h0,I,d,g,aa,N]
 ·obtain rfl:i=ys.length+1:=by omega
  simp -implicitDefEqProofs [zhr,aa,ae]
  refine ⟨_,s,k,R,rfl,hO,⟨by simp [h0],by simp [I],by simp [d],by simp [g],by simp [N]⟩,Q,bR,H,hz,?_⟩
  rw [List.take_of_length_le (l:=ys) (by omega)] at inv
  exact inv
theorem Oth.refl (s:S) (V0:V):Oth s s V0:=⟨rfl,fun _ _=>rfl⟩
theorem Oth.trans {a b c:S} {V0:V} (h:Oth a b V0) (k:Oth b c V0):Oth a c V0:=⟨k.1.trans h.1,fun x M=>(k.2 x M).trans (h.2 x M)⟩
variable {o:Nat}
theorem zBQ {b:S} {V0:V} (hz:Gz 169 1 b s V0 (us L)) (e:Nat) (O:0<len) (C:o+len≤L.length):Nu s (zgT V0 o len e) ((L.drop o).take len):=by
 obtain ⟨a,W,rfl,I,-,J,Q,K⟩:=hz.pos (i:=0) (by rw [jo];omega)
 have f:((L.drop o).take len).length=len:=by rw [List.length_take,List.length_drop];omega
 refine ⟨.inr ⟨a,_,o,len,.inr ⟨e,rfl⟩,I,_,_,169,true,W,0,0,Q,wY K,ql.2 (.inl ⟨rfl,J,kad _,by rw [jo];omega⟩)⟩,by rw [f];rfl,fun j G=>?_⟩
 rw [f] at G
 have T:((L.drop o).take len).getD j 0=L.getD (o+j) 0:=by
  rw [kaa,List.getElem?_take_of_lt G,List.getElem?_drop,kaa]
 rw [T]
 show (yR (Tr.get B.none a s.h)).getD (o+j) .bad=_
 rw [Q]
 show (us L).flatten.getD (o+j) .bad=_
 have:=zeo K (i:=o+j) (j:=0) (by rw [jo];omega) Nat.one_pos
 rw [kaz,Nat.add_zero] at this
 rw [this,kaa (l:=us L),zoo (by omega)]
 rfl
structure DgX where
 V0:V
 v:V
 o:Nat
 e:Nat
 L:List Nat
 ys:List Nat
 b:S
def DgX.seg (c:DgX):List Nat:=(c.L.drop c.o).take (c.ys.length+1)
def DgX.pre (c:DgX) (a:List V) (s:S):Prop:=a=[zgT c.V0 c.o (c.ys.length+1) c.e,c.v]∧Gz 169 1 c.b s c.V0 (us c.L)∧(∀ U,Oth s U c.V0→Nu U c.v c.ys)∧Bl c.L∧Bl c.ys∧0<c.ys.length∧c.ys.length≤Mx∧c.o+c.ys.length+1≤c.L.length ∧
 300000000≤c.ys.getD (c.ys.length - 1) 0∧NatB.val 1000000000 c.seg<1000000000*NatB.val 1000000000 c.ys
def DgX.post (c:DgX) (s:S) (v:V) (U:S):Prop:=v=uv (NatB.val 1000000000 c.seg / NatB.val 1000000000 c.ys)∧Oth s U c.V0∧∃ R,R.length=c.ys.length+1∧Bl R∧NatB.val 1000000000 R=NatB.val 1000000000 c.seg % NatB.val 1000000000 c.ys∧Gz 169 1 c.b U c.V0 (us (NatB.rep c.L c.o R))
noncomputable def KQ:Nat→Ct
 | 294=>ctI DgX.pre DgX.post
 | f=>KP f
theorem zCm:zo Tryz.prog KQ 294:=by
 have f:=zC1 (K0:=KQ)
 have l:=zDu (K0:=KQ)
 have hB:=zBZ (K0:=KQ)
 refine zr (L:=LD) zt (X:=DgX) rfl ?_
 rintro ⟨V0,v,o,e,L,ys,b⟩ a s ⟨rfl,hz,E,bL,w,j,Y,aB,aa,ak⟩
 generalize Rk Tryz.prog _ _=r at f l hB ⊢
 simp only [DgX.seg] at hz E bL w j Y aB aa ak
 have aQ:Mx=1000000:=rfl
 obtain ⟨m,aj⟩:∃ m,ys.length=m+1:=⟨ys.length - 1,by omega⟩
 have hu:=zBQ hz e (o:=o) (len:=ys.length+1) (by omega) (by omega)
 generalize hU:(L.drop o).take (ys.length+1)=u at hu ak
 have ao:u.length=ys.length+1:=by rw [←hU,List.length_take,List.length_drop];omega
 have bu:Bl u:=fun x M=>bL x (List.mem_of_mem_drop (List.mem_of_mem_take (hU▸M)))
 have al:=E s (Oth.refl s V0)
 have aC:∀ c:V→Go.Ev.A,zm v c=c (iv .i64 (ys.length:Int)):=fun c=>qS al c
 obtain ⟨p0,aD,aq⟩:=zak hu (show ys.length<u.length by omega)
 rw [show u.getD ys.length 0=u.getD (m+1) 0 by rw [aj]] at aq
 obtain ⟨p1,aE,aF⟩:=zak hu (show m<u.length by omega)
 obtain ⟨p2,aG,aH⟩:=zak al (show m<ys.length by omega)
 have b0:u.getD (m+1) 0<1000000000:=jN bu _
 have Z:u.getD m 0<1000000000:=jN bu _
 have p:ys.getD m 0<1000000000:=jN w _
 rw [show ys.length - 1=m by omega] at aa
 have ar:=Nat.div_add_mod (u.getD (m+1) 0*1000000000+u.getD m 0) (ys.getD m 0)
 have ad:=NatB.adj_init (B:=1000000000) (by decide) bu aj (by omega) (show 0<ys.getD m 0 by omega)
 have au:∀ N,AdX.fr ⟨zgT V0 o (ys.length+1) e,v,u,ys,m,s⟩ N→gp 7 N=uv ((u.getD (m+1) 0*1000000000+u.getD m 0) / ys.getD m 0)→gp 8 N=uv ((u.getD (m+1) 0*1000000000+u.getD m 0) % ys.getD m 0)→AdX.post ⟨zgT V0 o (ys.length+1) e,v,u,ys,m,s⟩ (zce.run r N s):=fun N I J Q =>
  f ⟨zgT V0 o (ys.length+1) e,v,u,ys,m,s⟩ N s ⟨rfl,⟨hu,al,bu,w,aj,by show u.length=m+2;omega,by show m≤Mx;omega,aa,ak⟩,I,_,_,J,Q,(by rw [Nat.mul_comm _ (ys.getD m 0)];exact ar.symm),ad⟩
 clear ar ad f
 have em:∀ y cst (c:V→Go.Ev.A),zw y cst .mul (uv (u.getD (m+1) 0)) (iv .u64 1000000000) c=c (uv (u.getD (m+1) 0*1000000000)):=fun y cst c=>zwa y cst c (by omega)
 generalize u.getD (m+1) 0=O at *
 generalize u.getD m 0=u0 at *
 generalize ys.getD m 0=y0 at *
 have wA:IntKind.u64.wrap (((O*1000000000:Nat):Int)+(u0:Int))=((O*1000000000+u0:Nat):Int):=by rw [wa (by omega) (by omega)];omega
 have aJ:O*1000000000+u0<18446744073709551616:=by omega
 generalize O*1000000000+u0=TT at *
 generalize O*1000000000=t1 at *
 have aK:∀ y cst (c:V→Go.Ev.A),zw y cst .quo (uv TT) (uv y0) c=c (uv (TT / y0)):=fun y cst c=>znV y cst c (by omega) aJ
 have er:∀ y cst (c:V→Go.Ev.A),zw y cst .rem (uv TT) (uv y0) c=c (uv (TT % y0)):=fun y cst c=>zsb y cst c (by omega)
 generalize TT / y0=q0 at *
 generalize TT % y0=r0 at *
 have P:IntKind.i64.wrap ((ys.length:Int) - 1)=(m:Int):=by rw [z8 (by omega) (by omega)];omega
 have ec:(ys.length:Int)=((m+1:Nat):Int):=by omega
 generalize g:(fnC zf 294).run r _ _=d
 simp -implicitDefEqProofs [yG,aC,aD,aq,aE,aF,aG,aH,em,wA,aK,er,P] at g
 generalize hX:zce.run r _ s=X1 at g
 obtain ⟨N,q,rfl,⟨U,K,i,G⟩,t,aL,av,aw⟩:=hX▸au _ ⟨by simp,by simp,by simp [ec],by simp⟩ (by simp) (by simp)
 simp only at U K i av aw
 rw [←aj] at i
 have wn:IntKind.i64.wrap ((ys.length:Int)+1)=((ys.length+1:Nat):Int):=by rw [z8 (by omega) (by omega)];omega
 simp -implicitDefEqProofs [i,wn] at g
 have base:∀ L',Bl L'→L'.length=L.length→SbX.base ⟨V0,v,o,e,L',ys,q,b,s⟩:=fun L' I J=>⟨E,I,w,j,Y,by show o+ys.length+1≤L'.length;omega,aL⟩
 generalize aM:zdX.run r _ s=X2 at g
 obtain ⟨aR,W,bo,R,rfl,hO,⟨j0,j1,j5,j7,H⟩,ae,bR,j9,aN,C,inv⟩:=aM▸l ⟨V0,v,o,e,L,ys,q,b,s⟩ _ s ⟨base L bL rfl,Oth.refl s V0,⟨by simp [U],by simp [K],by simp [i],by simp [t],by simp [G]⟩,by simp,0,0,0,[],Nat.zero_le _,rfl,(fun _ h=>by cases h),by simp,(by simp;rfl),(by simp;rfl),by omega,by decide,(fun _=>rfl),by rw [NatB.rep_nil];exact hz,by simp [NatB.val]⟩
 simp only at hO j0 j1 j5 j7 ae C inv
 rw [hU] at inv
 have aO:0<NatB.val 1000000000 ys:=by
  have:=Nat.zero_le (NatB.val 1000000000 u);omega
 obtain ⟨d0,d1⟩:=NatB.digit_done (B:=1000000000) (m:=ys.length+1) (q:=q) (c:=0) (b:=bo) (by decide) bR ae ao bu aO rfl aN (by rw [kas];exact inv) av aw
 by_cases ax:bo=0
 ·obtain ⟨T,D⟩:=d0 ax
  subst ax
  simp -implicitDefEqProofs [j9,j7,H] at g
  refine ⟨_,W,g.symm,?_,hO,R,ae,bR,?_,C⟩
  ·show uv q=uv (NatB.val 1000000000 ((L.drop o).take (ys.length+1)) / NatB.val 1000000000 ys)
   rw [hU,T]
  ·show NatB.val 1000000000 R=NatB.val 1000000000 ((L.drop o).take (ys.length+1)) % NatB.val 1000000000 ys
   rw [hU,D]
 ·obtain rfl:bo=1:=by omega
  obtain ⟨T,D⟩:=d1 rfl
  simp -implicitDefEqProofs [j9,j7,j5,wn] at g
  generalize aP:zdB.run r _ W=X3 at g
  have S:(NatB.rep L o R).length=L.length:=NatB.rep_len (by omega)
  obtain ⟨aS,n,k,R',rfl,ay,⟨i0,i1,i5,i7,i240⟩,ah,az,F,an,ai⟩:=aP▸hB ⟨V0,v,o,e,NatB.rep L o R,ys,q,b,s⟩ _ W ⟨base _ (NatB.rep_lt bL bR) S,hO,⟨by simp [j0],by simp [j1],by simp [j5],by simp [j7],by simp [H]⟩,by simp,0,0,[],Nat.zero_le _,rfl,(fun _ h=>by cases h),by simp,(by simp;rfl),by omega,by rw [NatB.rep_nil];exact C,by simp [NatB.val]⟩
  simp only at ay i7 ah an ai
  rw [←ae,NatB.rep_seg (by omega),ae] at ai
  rw [NatB.rep_rep (by omega) (by omega)] at an
  have aA:=NatB.back_done (B:=1000000000) (m:=ys.length+1) (by decide) az ah F ai D (by
   have I:=Nat.mod_le (NatB.val 1000000000 u) (NatB.val 1000000000 ys)
   have J:=NatB.val_lt (B:=1000000000) (by decide) bu
   rw [ao] at J;omega)
  have aT:0<q:=by rw [T];exact Nat.succ_pos _
  have wq:IntKind.u64.wrap ((q:Int) - 1)=((q - 1:Nat):Int):=by rw [wa (by omega) (by omega)];omega
  simp -implicitDefEqProofs [i7,i240,wq] at g
  refine ⟨_,n,g.symm,?_,ay,R',ah,az,?_,an⟩
  ·show uv (q - 1)=uv (NatB.val 1000000000 ((L.drop o).take (ys.length+1)) / NatB.val 1000000000 ys)
   rw [hU,show q - 1=NatB.val 1000000000 u / NatB.val 1000000000 ys by rw [T,Nat.add_sub_cancel]]
  ·show NatB.val 1000000000 R'=NatB.val 1000000000 ((L.drop o).take (ys.length+1)) % NatB.val 1000000000 ys
   rw [hU,aA]
variable {el:Nat}
theorem zCQ {b:S} {V0:V} {l:List (List V)} (h:Gz el 1 b s V0 l) (p:m<l.length) {y:V} (hy:∀ c:List V→Go.Ev.A,zg 1 y c=c [y]) (E:y≠.bad) :
  ∃ U,(∀ k:V→S→Go.Ev.A,zN el 1 (shr V0 m) (.sl s.nx 0 0 1 1) (zY s (.row [y] 1 el false 0 0 0)) k=k (shr V0 (m+1)) U)∧Gz el 1 b U V0 (l.set m [y])∧s.nx.toNat≤U.nx.toNat∧∀ c,c.toNat<s.nx.toNat→qi V0≠some c→Tr.get B.none c U.h=Tr.get B.none c s.h:=by
 have Y:=yc s (.row [y] 1 el false 0 0 0)
 have hz:=h.ext Y
 obtain ⟨U,I,J,Q,K⟩:=hz.store1 p hy
 obtain ⟨a,W,D,-,-,-,C,-⟩:=hz.pos p
 refine ⟨U,fun k=>?_,J,by rw [Q];exact Y.nx,fun c X o=>by rw [K c o,Y.get c X]⟩
 show qA 1 (.sl s.nx 0 0 1 1) _ _=_
 rw [zBt el 1 (x:=[y]) (fun z hz=>by rw [kak.1 hz];exact E) rfl]
 have d:=I (fun _ s=>k (shr V0 (m+1)) s)
 rw [←d]
 subst D
 show (_:Go.Ev.A)=zg 1 y (fun xs=>qc _ a (l.length*1) m 1 xs (fun s=>k (.so a (l.length*1) 0 (m+1) 0) s))
 rw [hy]
 show fN (Nat.add m 1) _=_
 rw [zE]
 show qk _ a _=_
 rw [qb,C]
 show fN (Nat.add 0 (Nat.mul m 1)) _=_
 rw [zE]
 show (Bool.rec (motive:=fun _=>Go.Ev.A) _ _ (zB (Nat.beq el el) true):Go.Ev.A)=_
 rw [show Nat.beq el el=true from kaF el]
 have T:Nat.add 0 (Nat.mul m 1)=m:=by show 0+m*1=m;omega
 show (Bool.rec (motive:=fun _=>Go.Ev.A) _ _ (zB (Nat.beq (l.length*1) (l.length*1)) (Nat.ble (Nat.add (Nat.add 0 (Nat.mul m 1)) (Nat.mul 1 1)) (l.length*1))):Go.Ev.A)=_
 rw [T,show Nat.beq (l.length*1) (l.length*1)=true from kaF _,show Nat.ble (Nat.add m (Nat.mul 1 1)) (l.length*1)=true from kah (by show m+1*1≤l.length*1;omega)]
 rfl
theorem zwM {b:S} {V0:V} {l:List (List V)} (h:Gz 169 1 b s V0 l) (f:0<l.length):shr V0 l.length=V0∧∀ m,shr V0 m=zgT V0 0 m 0:=by
 obtain ⟨a,W,rfl,-⟩:=h.pos f
 exact ⟨rfl,fun m=>rfl⟩
def QR (b s:S) (v:V) (qs:List Nat):Prop:=∃ a,v=.sl a 0 0 qs.length qs.length∧b.nx.toNat≤a.toNat∧a.toNat<s.nx.toNat∧Tr.get B.none a s.h=.row (qs.map uv) qs.length 169 false 0 0 0
variable {qs:List Nat}
theorem QR.nu {b:S} {v:V} (h:QR b s v qs):Nu s v qs∧zqu s v:=by
 obtain ⟨a,rfl,I,J,Q⟩:=h
 refine ⟨⟨.inr ⟨a,0,0,qs.length,.inl ⟨qs.length,rfl,kad _⟩,J,_,_,_,_,_,_,_,Q,by simp,ql.2 (.inr ⟨rfl,by omega⟩)⟩,rfl,fun j G=>?_⟩,.inl trivial⟩
 show (yR (Tr.get B.none a s.h)).getD (0+j) .bad=_
 rw [Q]
 show (qs.map uv).getD (0+j) .bad=_
 rw [kas]
 simp [kab G]
theorem QR.store {b:S} {v:V} (h:QR b s v qs) (hi:i<qs.length) (y:Nat):∃ p U,(∀ k c,ze 1 v (iv k (i:Int)) c=c p)∧(∀ k:V→S→Go.Ev.A,zA 1 p (uv y) s k=k Go.Ev.undef U)∧QR b U v (qs.set i y)∧U.nx=s.nx∧∀ c,qi v≠some c→Tr.get B.none c U.h=Tr.get B.none c s.h:=by
 obtain ⟨a,rfl,I,J,Q⟩:=h
 have e:∀ (qs:List Nat) i,i<qs.length→upd [uv y] i (qs.map uv)=(qs.set i y).map uv:=by
  intro qs
  induction qs with
  | nil=>intro i h;cases h
  | cons x qs D =>
   intro i h
   cases i with
   | zero=>rfl
   | succ i =>
    show uv x::upd [uv y] i (qs.map uv)=uv x::(qs.set i y).map uv
    rw [D i (Nat.lt_of_succ_lt_succ h)]
 refine ⟨.ptr a 0 i,yI s a (.row (upd [uv y] i (qs.map uv)) qs.length 169 false 0 0 0),fun k c=>?_,fun k=>js Q i (uv y) (fun c=>by rw [yP]) hi k,⟨a,by rw [List.length_set],I,J,by rw [z9,if_pos rfl,e _ _ hi,List.length_set]⟩,rfl,fun c X=>by rw [z9,if_neg (fun e=>X (by rw [e];rfl))]⟩
 show (Bool.rec (motive:=fun _=>Go.Ev.A) _ _ (Nat.blt i qs.length):Go.Ev.A)=_
 rw [show Nat.blt i qs.length=true by rw [Nat.blt_eq];exact hi]
 show fN (Nat.add 0 (Nat.mul i 1)) (fun o=>c (.ptr a 0 o))=_
 rw [zE,show Nat.add 0 (Nat.mul i 1)=i by show 0+i*1=i;omega]
variable {U:S}
theorem QR.keep {b:S} {v:V} (h:QR b s v qs) (o:s.nx.toNat≤U.nx.toNat) (F:∀ c,qi v=some c→Tr.get B.none c U.h=Tr.get B.none c s.h):QR b U v qs:=by
 obtain ⟨a,rfl,I,J,Q⟩:=h
 exact ⟨a,rfl,I,by omega,(F a rfl).trans Q⟩
variable {sz:Nat}
theorem QR.ne {b b':S} {v V0:V} {l:List (List V)} (h:QR b s v qs) (hz:Gz el sz b' s V0 l):(∀ c,qi v=some c→qi V0≠some c)∧∀ c,qi V0=some c→qi v≠some c:=by
 obtain ⟨a,rfl,-,-,Q⟩:=h
 have:=hz.ne_row Q
 exact ⟨fun c X=>by cases X;exact this,fun c X A=>by cases A;exact this X⟩
theorem QR.new (s:S) (n:Nat) (o:n≤1000000000):∃ v U,(∀ k:V→S→Go.Ev.A,yH 169 8 [uv 0] (iv .i64 (n:Int)) (iv .i64 (n:Int)) s k=k v U)∧QR s U v (List.replicate n 0)∧Ext s U:=by
 refine ⟨_,zY s (.row ((List.replicate n 0).map uv) (List.replicate n 0).length 169 false 0 0 0),fun k=>?_,⟨s.nx,rfl,kad _,?_,by rw [qQ]⟩,yc _ _⟩
 ·have e:∀ n,rep [uv 0] n=(List.replicate n 0).map uv:=by
   intro n
   induction n with
   | zero=>rfl
   | succ n X =>
    show uv 0::rep [uv 0] n=_
    rw [X];rfl
  rw [zzu 169 8 [uv 0] n (by omega) (by omega),zg1,e]
  simp
 ·show s.nx.toNat<s.nx.succ.toNat
  rw [K.toNat_succ];omega
theorem zzy {b:S} {V0:V} (hz:Gz 169 1 b s V0 (us L)) {n:Nat} (h:o+n+1≤L.length) (k H:IntKind) (c:V→Go.Ev.A):qu 169 1 V0 (some (iv k (o:Int))) (some (iv H ((o+n+1:Nat):Int))) none s c=c (zgT V0 o (n+1) o):=by
 obtain ⟨a,W,rfl,I,-,J,Q,K⟩:=hz.pos (i:=0) (by rw [jo];omega)
 rw [jo] at Q
 show qk s a _=_
 rw [qb,Q]
 show fN (Bool.rec (us L).length (Nat.div (Nat.sub (L.length*1) 0) 1) (zB true (Nat.beq ((us L).length*1) (L.length*1)))) _=_
 rw [jo,show Nat.beq (L.length*1) (L.length*1)=true from kaF _,zE]
 show (Bool.rec (motive:=fun _=>Go.Ev.A) _ _ (zB (Nat.ble o (o+n+1)) (Nat.ble (o+n+1) ((L.length*1 - 0) / 1))):Go.Ev.A)=_
 rw [show zB (Nat.ble o (o+n+1)) (Nat.ble (o+n+1) ((L.length*1 - 0) / 1))=true by
  rw [kah (show o≤o+n+1 by omega),kah (show o+n+1≤(L.length*1 - 0) / 1 by omega)];rfl]
 show (Bool.rec (motive:=fun _=>Go.Ev.A) (fN (Nat.sub (o+n+1) o) _) _ (Nat.beq o (o+n+1)):Go.Ev.A)=_
 rw [show Nat.beq o (o+n+1)=false by
  cases e:Nat.beq o (o+n+1) with
  | true=>have:=kac e;omega
  | false=>rfl]
 show fN (Nat.sub (o+n+1) o) _=_
 rw [show Nat.sub (o+n+1) o=n+1 by show o+n+1 - o=_;omega,zE]
 show fN (Nat.add 0 o) _=_
 rw [zE]
 show fN (Nat.add 0 (Nat.mul o 1)) _=_
 rw [zE]
 show c (.so a _ (Nat.add 0 (Nat.mul o 1)) (n+1) (Nat.add 0 o))=c (.so a _ o (n+1) o)
 rw [show Nat.add 0 (Nat.mul o 1)=o by show 0+o*1=o;omega,show Nat.add 0 o=o from kas o]
structure DvX where
 x:V
 qv:V
 V0:V
 V1:V
 xs:List Nat
 W:List Nat
 U:List Nat
 n:Nat
 Q:Nat
 k:Nat
 M:Nat
 b:S
def DvX.st (c:DvX) (s:S):Prop:=Ext c.b s∧Gz 169 1 c.b s c.V1 (us c.W)∧∀ d,qi c.V1=some d→qi c.V0≠some d
def DvX.pre18 (c:DvX) (tm:T) (s:S):Prop:=c.st s∧Nu c.b c.x c.xs∧c.xs.length≤Mx∧c.U.length=c.xs.length+1∧(gp 0 tm=c.x∧gp 6 tm=iv .i64 (c.n:Int)∧gp 7 tm=uv c.k∧gp 9 tm=shr c.V1 c.n∧gp 240 tm=.bad) ∧
 ∃ m:Nat,m≤c.xs.length+1∧gp 8 tm=shr c.V0 m∧(∀ i,m≤i→c.U.getD i 0=0)∧Gz 169 1 c.b s c.V0 (us c.U)
def DvX.post18 (c:DvX) (a:Go.Ev.A):Prop:=∃ N s,a=.ext 0 N s∧c.st s∧(gp 6 N=iv .i64 (c.n:Int)∧gp 7 N=uv c.k∧gp 9 N=shr c.V1 c.n∧gp 240 N=.bad)∧gp 8 N=c.V0∧Gz 169 1 c.b s c.V0 (us c.U)
def DvX.V (c:DvX):Nat:=NatB.val 1000000000 (c.W.take c.n)
def DvX.inv (c:DvX) (s:S) (L qs:List Nat):Prop:=c.st s∧Gz 169 1 c.b s c.V0 (us L)∧L.length=c.Q+c.n∧Bl L∧QR c.b s c.qv qs∧qs.length=c.Q
def DvX.base (c:DvX):Prop:=Bl c.W∧c.n≤c.W.length∧0<c.n∧c.n≤Mx∧c.Q≤Mx+1∧300000000≤(c.W.take c.n).getD (c.n - 1) 0
def DvX.pre33 (c:DvX) (tm:T) (s:S):Prop:=c.base∧(gp 4 tm=c.qv∧gp 6 tm=iv .i64 (c.n:Int)∧gp 7 tm=uv c.k∧gp 8 tm=c.V0∧gp 9 tm=shr c.V1 c.n∧gp 17 tm=iv .i64 (c.Q:Int)∧gp 240 tm=.bad) ∧
 ∃ (i:Nat) (L qs:List Nat),i≤c.Q∧gp 18 tm=iv .i64 (i:Int)∧c.inv s L qs∧NatB.val 1000000000 (L.drop (c.Q - i))<c.V∧NatB.val 1000000000 L % c.V=c.M
def DvX.post33 (c:DvX) (a:Go.Ev.A):Prop:=∃ N s L qs,a=.ext 2 N s∧(gp 4 N=c.qv∧gp 7 N=uv c.k∧gp 8 N=c.V0∧gp 240 N=.bad)∧c.inv s L qs∧NatB.val 1000000000 L<c.V∧NatB.val 1000000000 L % c.V=c.M
def DvX.pre56 (c:DvX) (tm:T) (s:S):Prop:=(0<c.k∧c.k≤500000000∧Bl c.U∧c.n≤c.U.length∧c.U.length≤3*Mx)∧(gp 4 tm=c.qv∧gp 5 tm=shr c.V0 c.n∧gp 7 tm=uv c.k∧gp 20 tm=iv .i64 (c.n:Int)∧gp 240 tm=.bad) ∧
 ∃ (i left:Nat) (D qs:List Nat),i≤c.n∧D.length=i∧Bl D∧left<c.k∧gp 21 tm=iv .i64 (i:Int)∧gp 12 tm=uv left∧Ext c.b s∧Gz 169 1 c.b s c.V0 (us (NatB.rep c.U (c.n - i) D))∧QR c.b s c.qv qs∧qs.length=c.Q∧NatB.val 1000000000 D*c.k+left=NatB.val 1000000000 ((c.U.drop (c.n - i)).take i)
def DvX.post56 (c:DvX) (a:Go.Ev.A):Prop:=∃ N s,∃ (left:Nat) (D qs:List Nat),a=.ext 4 N s∧(gp 4 N=c.qv∧gp 5 N=shr c.V0 c.n∧gp 240 N=.bad)∧D.length=c.n∧Bl D∧left<c.k∧Ext c.b s∧Gz 169 1 c.b s c.V0 (us (NatB.rep c.U 0 D))∧QR c.b s c.qv qs∧qs.length=c.Q∧NatB.val 1000000000 D*c.k+left=NatB.val 1000000000 (c.U.take c.n)
noncomputable def LV:Nat→Lt
 | 18=>ltI DvX.pre18 DvX.post18
 | 39=>ltI DvX.pre33 DvX.post33
 | _=>ltI DvX.pre56 DvX.post56
theorem zCY:∀ (c:DvX) tm s,c.pre18 tm s→c.post18 (zet.run (Rk Tryz.prog K0 LV) tm s):=by
 refine zL (L:=LV) zt zuv rfl (fun tm _=>Mx+1 - qm (gp 8 tm)) (fun x a ⟨_,_,h,_⟩=>by rw [h];exact fun h=>h) ?_
 rintro ⟨x,qv,V0,V1,xs,W,U,n,Q,k,M,b⟩ tm s ⟨⟨Y,e,Z⟩,E,p,d,⟨h0,t,j,H,N⟩,m,aa,R,hzero,hz⟩ J
 show DvX.post18 _ (zet.run _ tm _)
 generalize Rk Tryz.prog _ _=r at J ⊢
 simp only at Y e Z E p d h0 t j H aa R hzero hz
 have u:Mx=1000000:=rfl
 have I:=(zgQ hz).1
 have ad:=zb0 I (m:=m) (by omega)
 have G:∀ c:V→Go.Ev.A,zm x c=c (iv .i64 (xs.length:Int)):=fun c=>qS (wD E Y) c
 have o:∀ c:V→Go.Ev.A,zm (shr V0 m) c=c (iv .i64 (m:Int)):=fun c=>by rw [qS ad,List.length_take,Nat.min_eq_left (by omega)]
 by_cases O:m≤xs.length
 ·obtain ⟨C,ap,T,f,P⟩:=zCQ hz (m:=m) (by rw [jo];omega) (y:=uv 0) (fun c=>by rw [yP]) (qG _ _)
  have wV:U.set m 0=U:=by
   apply kaL
   intro i
   rw [List.getElem?_set]
   by_cases g:m=i
   ·have:=hzero i (by omega)
    rw [kaa,kab (by omega)] at this
    rw [if_pos g,if_pos (by omega),kab (by omega)]
    exact congrArg some this.symm
   ·rw [if_neg g]
  rw [zn1,wV] at T
  have l:∀ (c:Go.Ev.K→Nat→S→Go.Ev.A),Go.Ev.newRow s 169 [uv 0] false c=c s.nx 1 (zY s (.row [uv 0] 1 169 false 0 0 0)):=fun c=>zU s 169 _ false c
  have up:upd [uv 0] 0 (rep [iv .u64 0] 1)=[uv 0]:=rfl
  have w:Ext b C:=za2 Y f (D:=fun c=>qi V0=some c) P fun c X=>(hz.blk X).1
  have l:∀ (c:Go.Ev.K→Nat→S→Go.Ev.A),Go.Ev.newRow s 169 [iv .u64 0] false c=c s.nx 1 (zY s (.row [uv 0] 1 169 false 0 0 0)):=l
  have up:upd [iv .u64 0] 0 (rep [iv .u64 0] 1)=[iv .u64 0]:=rfl
  simp -implicitDefEqProofs [zmi,h0,R,G,o,O,l,up,ap]
  refine J ⟨x,qv,V0,V1,xs,W,U,n,Q,k,M,b⟩ _ C ?_ ⟨⟨w,e.keep f fun c X=>P c (e.blk X).2 (Z c X),Z⟩,E,p,d,⟨by simp [h0],by simp [t],by simp [j],by simp [H],by simp [N]⟩,m+1,by show m+1≤xs.length+1;omega,by simp,fun i hi=>hzero i (by omega),T⟩
  rw [R,ze4 (by rw [I.2.1];omega)]
  simp [ze4 (v:=V0) (m:=m+1) (by rw [I.2.1];omega)]
  omega
 ·obtain rfl:m=xs.length+1:=by omega
  have F:((xs.length:Int)+1≤(xs.length:Int))=False:=eq_false (by omega)
  simp -implicitDefEqProofs [zmi,h0,R,G,o,F]
  refine ⟨_,s,rfl,⟨Y,e,Z⟩,⟨by simp [t],by simp [j],by simp [H],by simp [N]⟩,?_,hz⟩
  have:=(zwM hz (by rw [jo];omega)).1
  rw [jo,d] at this
  simp [R,this]
theorem zCL (hD:zo Tryz.prog K0 294) (hK:K0 294=ctI DgX.pre DgX.post):∀ (c:DvX) tm s,c.pre33 tm s→c.post33 (zeg.run (Rk Tryz.prog K0 LV) tm s):=by
 have av:=zk (zh (L:=LV) hD) (X:=DgX) hK
 refine zL (L:=LV) zt zuC rfl (fun tm _=>(toI (gp 17 tm)).toNat - (toI (gp 18 tm)).toNat) (fun x a ⟨_,_,_,_,h,_⟩=>by rw [h];exact fun h=>h) ?_
 rintro ⟨x,qv,V0,V1,xs,W,U,n,Q,k,M,b⟩ tm s ⟨hb,⟨K,t,S,P,h9,ad,N⟩,i,L,qs,hi,aj,⟨⟨w,ao,u⟩,hz,v,bL,E,ak⟩,ae,ah⟩ J
 show DvX.post33 _ (zeg.run _ tm _)
 generalize Rk Tryz.prog _ _=r at J av ⊢
 have hB:=hb
 obtain ⟨bW,aw,e,hm,hQ,al⟩:=hb
 simp only [DvX.V] at bW aw e hm hQ al w ao u hz v E ak hi K t S P h9 ad aj ae ah
 have aN:Mx=1000000:=rfl
 have aD:∀ c:V→Go.Ev.A,zm qv c=c (iv .i64 (Q:Int)):=fun c=>by rw [←ak];exact qS E.nu.1 c
 have bT:Bl (W.take n):=fun z hz=>bW z (List.mem_of_mem_take hz)
 have aa:(W.take n).length=n:=by rw [List.length_take];omega
 have aE:NatB.val 1000000000 (W.take n)≤1000000000 ^ n:=by
  have:=NatB.val_lt (B:=1000000000) (by decide) bT
  rw [aa] at this;omega
 by_cases O:i<Q
 ·have w1:IntKind.i64.wrap ((Q:Int) - 1)=(Q:Int) - 1:=z8 (by omega) (by omega)
  have w2:IntKind.i64.wrap ((Q:Int) - 1 - (i:Int))=((Q - 1 - i:Nat):Int):=by rw [z8 (by omega) (by omega)];omega
  obtain ⟨at_,aF⟩:∃ a,Q - 1 - i=a:=⟨_,rfl⟩
  have ax:Q - i=at_+1:=by omega
  rw [aF] at w2
  rw [ax] at ae
  have w3:IntKind.i64.wrap ((at_:Int)+(n:Int))=(at_:Int)+n:=z8 (by omega) (by omega)
  have w4:IntKind.i64.wrap ((at_:Int)+(n:Int)+1)=(at_:Int)+n+1:=z8 (by omega) (by omega)
  obtain ⟨d,f,l⟩:=NatB.step_seg (B:=1000000000) (n:=n) (by decide) bL (i:=at_) (by omega) aE ae
  have aG:∀ (k k':IntKind) (c:V→Go.Ev.A),qu 169 1 V0 (some (iv k (at_:Int))) (some (iv k' ((at_:Int)+n+1))) none s c=c (zgT V0 at_ (n+1) at_):=fun k k' c=>by
   rw [←zzy hz (o:=at_) (n:=n) (by omega) k k' c,show ((at_+n+1:Nat):Int)=(at_:Int)+n+1 by omega]
  have ay:∀ C,Oth s C V0→Gz 169 1 b C V1 (us W):=fun C h=>ao.keep (by rw [h.1];exact kad _) fun c g=>h.2 c (u c g)
  obtain ⟨y,s1,T,j,hO,R,az,bR,aA,aq⟩:=av ⟨V0,shr V1 n,at_,at_,L,W.take n,b⟩ _ s ⟨rfl,hz,fun C h=>zb0 (zgQ (ay C h)).1 aw,bL,bT,by rw [aa];exact e,by rw [aa];exact hm,by rw [aa];show at_+n+1≤L.length;omega,by rw [aa];exact al,by show NatB.val 1000000000 ((L.drop at_).take ((W.take n).length+1))<_;rw [aa];exact d⟩
  simp only [DgX.seg,aa] at T j hO az aA aq
  obtain ⟨d1,d2⟩:=NatB.step_done (B:=1000000000) (V:=NatB.val 1000000000 (W.take n)) (by omega) (by omega) az aA f l
  rw [ah] at d2
  rw [j] at T
  generalize NatB.val 1000000000 ((L.drop at_).take (n+1)) / NatB.val 1000000000 (W.take n)=dg at T
  have ar:QR b s1 qv qs:=E.keep (by rw [hO.1];exact kad _) fun c g=>hO.2 c ((E.ne hz).1 c g)
  obtain ⟨p,H,Z,Y,aH,ai,au⟩:=ar.store (i:=at_) (by omega) dg
  have aJ:Gz 169 1 b H V0 (us (NatB.rep L at_ R)):=aq.keep (by rw [ai];exact kad _) fun c g=>au c ((ar.ne aq).2 c g)
  have an:=ay s1 hO
  have aK:Gz 169 1 b H V1 (us W):=an.keep (by rw [ai];exact kad _) fun c g=>au c ((ar.ne an).2 c g)
  have aL:Ext b s1:=za2 w (by rw [hO.1];exact kad _) (D:=fun c=>qi V0=some c) (fun c _ g=>hO.2 c g) fun c g=>(hz.blk g).1
  have aM:Ext b H:=za2 aL (by rw [ai];exact kad _) (D:=fun c=>qi qv=some c) (fun c _ g=>au c g) fun c g=>by
   obtain ⟨a,rfl,I,-,-⟩:=E
   cases g;exact I
  have w5:IntKind.i64.wrap ((i:Int)+1)=((i+1:Nat):Int):=by rw [z8 (by omega) (by omega)];omega
  have step:∀ F,gp 4 F=qv→gp 6 F=iv .i64 (n:Int)→gp 7 F=uv k→gp 8 F=V0→gp 9 F=shr V1 n→gp 17 F=iv .i64 (Q:Int)→gp 240 F=.bad→gp 18 F=iv .i64 ((i+1:Nat):Int)→DvX.post33 ⟨x,qv,V0,V1,xs,W,U,n,Q,k,M,b⟩ (r.code zc7 zf8 F H):=by
   intro F k4 k6 k7 k8 k9 aB G aC
   refine J ⟨x,qv,V0,V1,xs,W,U,n,Q,k,M,b⟩ F H (by rw [ad,aj,aB,aC,zp,zp,zp];omega) ⟨hB,⟨k4,k6,k7,k8,k9,aB,G⟩,i+1,NatB.rep L at_ R,_,O,aC,⟨⟨aM,aK,u⟩,aJ,?_,NatB.rep_lt bL bR,aH,by rw [List.length_set];exact ak⟩,?_,d2⟩
   ·rw [NatB.rep_len (by omega)];exact v
   ·show NatB.val 1000000000 ((NatB.rep L at_ R).drop (Q - (i+1)))<_
    rw [show Q - (i+1)=at_ by omega]
    exact d1
  simp -implicitDefEqProofs [zmF,K,t,P,h9,ad,aj,O,aD,w1,w2,w3,w4,aG,T,Z,Y,w5]
  apply step<;>simp [K,t,S,P,h9,ad,N]
 ·obtain rfl:i=Q:=by omega
  simp -implicitDefEqProofs [zmF,ad,aj]
  rw [Nat.sub_self,List.drop_zero] at ae
  exact ⟨_,s,L,qs,rfl,⟨by simp [K],by simp [S],by simp [P],by simp [N]⟩,⟨⟨w,ao,u⟩,hz,v,bL,E,ak⟩,ae,ah⟩
theorem zCB:∀ (c:DvX) tm s,c.pre56 tm s→c.post56 (zd5.run (Rk Tryz.prog K0 LV) tm s):=by
 refine zL (L:=LV) zt zv5 rfl (fun tm _=>(toI (gp 20 tm)).toNat - (toI (gp 21 tm)).toNat) (fun x a ⟨_,_,_,_,_,h,_⟩=>by rw [h];exact fun h=>h) ?_
 rintro ⟨x,qv,V0,V1,xs,W,U,n,Q,k,M,b⟩ tm s ⟨⟨ae,ak,bU,al,an⟩,⟨K,d,g,ad,N⟩,i,left,D,qs,hi,hD,bD,aa,ah,au,Y,hz,J,ai,inv⟩ T
 show DvX.post56 _ (zd5.run _ tm _)
 generalize Rk Tryz.prog _ _=r at T ⊢
 simp only at ae ak bU al an K d g ad hi aa Y hz J ai inv
 have av:left*1000000000<1000000000000000000:=by clear inv;omega
 have aD:Mx=1000000:=rfl
 have I:(NatB.rep U (n - i) D).length=U.length:=NatB.rep_len (by omega)
 by_cases O:i<n
 ·have e:IntKind.i64.wrap ((n:Int) - 1)=(n:Int) - 1:=z8 (by omega) (by omega)
  have j:IntKind.i64.wrap ((n:Int) - 1 - (i:Int))=((n - 1 - i:Nat):Int):=by rw [z8 (by omega) (by omega)];omega
  obtain ⟨at_,aw⟩:∃ a,n - 1 - i=a:=⟨_,rfl⟩
  have ao:n - i=at_+1:=by omega
  rw [aw] at j
  rw [ao] at hz I inv
  have aq:=(zwM hz (by rw [jo,I];omega)).2 n
  have ax:∀ c:V→Go.Ev.A,zm (shr V0 n) c=c (iv .i64 (n:Int)):=fun c=>by rw [qS (zb0 (zgQ hz).1 (m:=n) (by omega)),List.length_take,Nat.min_eq_left (by omega)]
  have H:∀ (l:IntKind) (c:V→Go.Ev.A),ze 1 (shr V0 n) (iv l (at_:Int)) c=c (zlp V0 at_):=fun l c=>by
   have:=zns hz (by omega) 0 0 (show at_<n by omega) l c
   rw [kas] at this
   rw [aq];exact this
  obtain ⟨c1,c2⟩:=NatB.rep_cons (L:=U) (D:=D) (i:=at_) (by omega) ((left*1000000000+U.getD at_ 0) / k)
  have E:U.getD at_ 0<1000000000:=jN bU _
  have ld:∀ l:V→S→Go.Ev.A,zd false 1 (zlp V0 at_) s l=l (uv (U.getD at_ 0)) s:=fun l=>hz.load1 (by rw [zoo (by omega),c2]) (qG _ _) l
  obtain ⟨w,t2,t3,t4⟩:=NatB.small_step (B:=1000000000) (by decide) E aa inv
  obtain ⟨C,st,f,u,v⟩:=hz.store1 (i:=at_) (y:=uv ((left*1000000000+U.getD at_ 0) / k)) (by rw [jo,I];omega) (fun c=>by rw [yP])
  rw [zn1,c1] at f
  have R:NatB.val 1000000000 ((U.drop at_).take (i+1))=U.getD at_ 0+1000000000*NatB.val 1000000000 ((U.drop (at_+1)).take i):=by
   rw [NatB.drop_get U at_ (by omega),List.take_succ_cons];rfl
  have ay:QR b C qv qs:=J.keep (by rw [u];exact kad _) fun c X=>v c ((J.ne hz).1 c X)
  have az:Ext b C:=za2 Y (by rw [u];exact kad _) (D:=fun c=>qi V0=some c) (fun c _ X=>v c X) fun c X=>(hz.blk X).1
  have aj:∀ F,gp 4 F=qv→gp 5 F=shr V0 n→gp 7 F=uv k→gp 20 F=iv .i64 (n:Int)→gp 240 F=.bad→gp 21 F=iv .i64 ((i+1:Nat):Int)→gp 12 F=uv ((left*1000000000+U.getD at_ 0) % k)→DvX.post56 ⟨x,qv,V0,V1,xs,W,U,n,Q,k,M,b⟩ (r.code zc7 zgW F C):=by
   intro F p P o k20 G ar aA
   refine T ⟨x,qv,V0,V1,xs,W,U,n,Q,k,M,b⟩ F C (by rw [ad,ah,k20,ar,zp,zp,zp];omega) ⟨⟨ae,ak,bU,al,an⟩,⟨p,P,o,k20,G⟩,i+1,_,(left*1000000000+U.getD at_ 0) / k::D,qs,O,by simp [hD],fun z hz=>?_,t3,ar,aA,az,?_,ay,ai,?_⟩
   ·rcases kaj.1 hz with rfl | hz
    ·exact t2
    ·exact bD z hz
   ·show Gz 169 1 b C V0 (us (NatB.rep U (n - (i+1)) _))
    rw [show n - (i+1)=at_ by omega];exact f
   ·show NatB.val 1000000000 ((left*1000000000+U.getD at_ 0) / k::D)*k+_=NatB.val 1000000000 ((U.drop (n - (i+1))).take (i+1))
    rw [show n - (i+1)=at_ by omega,R]
    exact t4
  clear f T t4 R t2 t3 w inv c1 c2
  generalize U.getD at_ 0=u0 at *
  have em:∀ Z cst (c:V→Go.Ev.A),zw Z cst .mul (uv left) (iv .u64 1000000000) c=c (uv (left*1000000000)):=fun Z cst c=>zwa Z cst c (Nat.lt_trans av (by decide))
  generalize left*1000000000=t at *
  have wA:IntKind.u64.wrap ((t:Int)+(u0:Int))=((t+u0:Nat):Int):=by rw [wa (by omega) (by omega)];omega
  have aB:t+u0<18446744073709551616:=by omega
  generalize t+u0=TT at *
  have aC:∀ Z cst (c:V→Go.Ev.A),zw Z cst .quo (uv TT) (uv k) c=c (uv (TT / k)):=fun Z cst c=>znV Z cst c ae aB
  have er:∀ Z cst (c:V→Go.Ev.A),zw Z cst .rem (uv TT) (uv k) c=c (uv (TT % k)):=fun Z cst c=>zsb Z cst c ae
  generalize TT / k=d1 at *
  generalize TT % k=d2 at *
  have w5:IntKind.i64.wrap ((i:Int)+1)=((i+1:Nat):Int):=by rw [z8 (by omega) (by omega)];omega
  simp -implicitDefEqProofs [zm4,d,g,au,ad,ah,O,ax,e,j,H,ld,em,wA,aC,er,st,w5]
  apply aj<;>simp [K,d,g,ad,N]
 ·obtain rfl:i=n:=by omega
  simp -implicitDefEqProofs [zm4,ad,ah]
  rw [Nat.sub_self] at hz inv
  rw [List.drop_zero] at inv
  exact ⟨_,s,left,D,qs,rfl,⟨by simp [K],by simp [d],by simp [N]⟩,hD,bD,aa,Y,hz,J,ai,inv⟩
structure DdX where
 x:V
 y:V
 xs:List Nat
 ys:List Nat
def DdX.pre (c:DdX) (a:List V) (s:S):Prop:=a=[c.x,c.y]∧Nu s c.x c.xs∧Nu s c.y c.ys∧Bl c.xs∧Bl c.ys∧NatB.trimL c.xs=c.xs∧NatB.trimL c.ys=c.ys∧c.xs.length≤Mx∧c.ys.length≤Mx∧0<c.ys.length
def DdX.post (c:DdX) (s:S) (v:V) (U:S):Prop:=Ext s U∧∃ q r rs,v=.ls 1 [q,r]∧Nu U r rs∧Bl rs∧NatB.trimL rs=rs∧rs.length≤c.ys.length∧NatB.val 1000000000 rs=NatB.val 1000000000 c.xs % NatB.val 1000000000 c.ys
noncomputable def KR:Nat→Ct
 | 258=>ctI DdX.pre DdX.post
 | f=>KQ f
theorem zC0:zo Tryz.prog KR 258:=by
 have az:=zCY (K0:=KR)
 have aA:=zCL (K0:=KR) zCm rfl
 have aB:=zCB (K0:=KR)
 have ae:=zk (zh (L:=LV) (show zo Tryz.prog KR 212 from ziO)) (X:=V × List Nat) rfl
 have al:=zk (zh (L:=LV) (show zo Tryz.prog KR 293 from zAY)) (X:=V × List Nat × Nat) rfl
 have an:=zk (zh (L:=LV) (show zo Tryz.prog KR 261 from zou)) (X:=V × V × List Nat × List Nat) rfl
 refine zr (L:=LV) zt (K:=KR) (X:=DdX) rfl ?_
 rintro ⟨x,y,xs,ys⟩ a s ⟨rfl,M,hy,bx,aa,tx,ty,lx,ly,e⟩
 generalize Rk Tryz.prog _ _=r at az aA aB ae al an ⊢
 simp only at M hy bx aa tx ty lx ly e
 have bp:Mx=1000000:=rfl
 obtain ⟨cv,s1,T,j,o⟩:=an (x,y,xs,ys) _ s ⟨rfl,M,hy,bx,aa,tx,ty,lx,ly⟩
 rw [j,o] at T
 clear j o an
 by_cases O:NatB.val 1000000000 xs<NatB.val 1000000000 ys
 ·have ec:NatB.cmpZ (NatB.val 1000000000 xs:Nat) (NatB.val 1000000000 ys:Nat)=-1:=by
   unfold NatB.cmpZ;rw [if_pos (by omega)]
  rw [ec] at T
  refine ⟨_,s,?_,Ext.refl s,.nil 1,x,xs,rfl,M,bx,tx,?_,(Nat.mod_eq_of_lt O).symm⟩
  ·simp -implicitDefEqProofs [zbC,T]
  ·apply Nat.le_of_not_lt
   intro h
   have:=NatB.cmp_len (B:=1000000000) (by decide) aa tx h
   omega
 ·have ec:¬NatB.cmpZ (NatB.val 1000000000 xs:Nat) (NatB.val 1000000000 ys:Nat)<0:=by
   unfold NatB.cmpZ
   rw [if_neg (by omega)]
   by_cases g:((NatB.val 1000000000 ys:Nat):Int)<(NatB.val 1000000000 xs:Nat)
   ·rw [if_pos g];omega
   ·rw [if_neg g];omega
  generalize NatB.cmpZ (NatB.val 1000000000 xs:Nat) (NatB.val 1000000000 ys:Nat)=cz at T ec
  have aV:(cz<0)=False:=eq_false ec
  have C:ys.length≤xs.length:=by
   apply Nat.le_of_not_lt
   intro h
   have:=NatB.cmp_len (B:=1000000000) (by decide) bx ty h
   omega
  obtain ⟨m,hm⟩:∃ m,ys.length=m+1:=⟨ys.length - 1,by omega⟩
  obtain ⟨t0,t1,t2⟩:=NatB.top_of (B:=1000000000) (by decide) aa hm ty
  have tB:ys.getD m 0<1000000000:=jN aa _
  have aW:∀ c:V→Go.Ev.A,zm y c=c (iv .i64 (ys.length:Int)):=fun c=>qS hy c
  obtain ⟨p,Z,Y⟩:=zak hy (show m<ys.length by omega)
  obtain ⟨nk,nV,n3,aX⟩:=NatB.norm (B:=1000000000) (k:=1000000000 / (ys.getD m 0+1)) rfl t0 tB rfl t1 t2 rfl
  generalize ys.getD m 0=y0 at *
  have w1:IntKind.i64.wrap ((ys.length:Int) - 1)=(m:Int):=by rw [z8 (by omega) (by omega)];omega
  have w2:IntKind.u64.wrap ((y0:Int)+1)=(y0:Int)+1:=wa (by omega) (by omega)
  have aY:∀ q' cst (c:V→Go.Ev.A),zw q' cst .quo (iv .u64 1000000000) (iv .u64 ((y0:Int)+1)) c=c (uv (1000000000 / (y0+1))):=fun q' cst c=>znV (a:=1000000000) q' cst c (by omega) (by decide)
  have hU:=NatB.scal_val (B:=1000000000) (k:=1000000000 / (y0+1)) (by decide) nk.1 (by omega) bx
  have hW:=NatB.scal_val (B:=1000000000) (k:=1000000000 / (y0+1)) (by decide) nk.1 (by omega) aa
  have bU:=NatB.scalP_lt (B:=1000000000) (k:=1000000000 / (y0+1)) (by decide) xs (xs.length+1)
  have bW:=NatB.scalP_lt (B:=1000000000) (k:=1000000000 / (y0+1)) (by decide) ys (ys.length+1)
  have lU:=NatB.scalP_len 1000000000 (1000000000 / (y0+1)) xs (xs.length+1)
  have lW:=NatB.scalP_len 1000000000 (1000000000 / (y0+1)) ys (ys.length+1)
  generalize 1000000000 / (y0+1)=k at *
  obtain ⟨u,s1,f1,w,V0,ao,hu⟩:=al (x,xs,k) _ s ⟨rfl,M,bx,nk.1,by omega,lx⟩
  obtain ⟨v,H,f2,F,V1,aq,E⟩:=al (y,ys,k) _ s1 ⟨rfl,wD hy w,aa,nk.1,by omega,ly⟩
  simp only [zBg] at ao hu aq E
  rw [hu] at f1
  rw [E] at f2
  clear hu E
  generalize (NatB.scalP 1000000000 k xs (xs.length+1)).1=U at *
  generalize (NatB.scalP 1000000000 k ys (ys.length+1)).1=W at *
  obtain ⟨aZ,br,ba,-⟩:=NatB.trim_take U
  obtain ⟨aC,ar,-,bb⟩:=NatB.trim_take W
  obtain ⟨nl,ai⟩:=NatB.norm_len (B:=1000000000) (v:=NatB.trimL W) (by decide) (NatB.trim_lt bW) bb ((NatB.trimL_val _ _).trans hW) nV 300000000 (by decide) n3
  rw [←hm] at nl
  rw [nl] at f2 aC ar
  rw [←ar] at ai
  have hV:NatB.val 1000000000 (W.take ys.length)=NatB.val 1000000000 ys*k:=by rw [ar,NatB.trimL_val,hW]
  have aj:∀ d,qi V1=some d→qi V0≠some d:=fun d I J=>by
   have:=(aq.blk I).1
   have:=(ao.blk J).2
   omega
  have bc:=w.trans F
  generalize t:(fnC zf 258).run r _ _=F0
  simp -implicitDefEqProofs [zbC,T,aV,aW,w1,Z,Y,w2,aY,f1,f2] at t
  generalize hX:zet.run r _ H=X1 at t
  obtain ⟨N,n,rfl,⟨E3,aD,-⟩,⟨k6,k7,k9,G⟩,k8,au⟩:=hX▸az ⟨x,.bad,V0,V1,xs,W,U,ys.length,0,k,0,s⟩ _ H ⟨⟨bc,aq.base w.nx,aj⟩,M,lx,lU,⟨by simp,by simp,by simp,by simp,by simp⟩,_,by rw [←lU];exact aZ,by simp,ba,ao.ext F⟩
  simp only at E3 aD k6 k7 k9 k8 au
  have aE:∀ c:V→Go.Ev.A,zm V0 c=c (iv .i64 ((xs.length+1:Nat):Int)):=fun c=>by rw [←lU];exact qS (zgQ au).1 c
  obtain ⟨Q,hQ⟩:∃ Q,xs.length+1=Q+ys.length:=⟨xs.length+1 - ys.length,by omega⟩
  have wQ:IntKind.i64.wrap ((xs.length:Int)+1 - (ys.length:Int))=(Q:Int):=by rw [z8 (by omega) (by omega)];omega
  obtain ⟨qv,l,mk,aF,E4⟩:=QR.new n Q (by omega)
  have mk':yH 169 8 [iv .u64 0] (iv .i64 (Q:Int)) (iv .i64 (Q:Int)) n (fun v s=>.nrm (sp 4 v N) s)=.nrm (sp 4 qv N) l:=mk _
  have bd:∀ c:V→Go.Ev.A,zm qv c=c (iv .i64 (Q:Int)):=fun c=>by
   have:=qS aF.nu.1 c
   rw [List.length_replicate] at this;exact this
  simp -implicitDefEqProofs [k6,k8,aE,wQ,mk',bd] at t
  have aG:QR s l qv (List.replicate Q 0):=by
   obtain ⟨a,g0,R,f,i⟩:=aF
   exact ⟨a,g0,kaB E3.nx R,f,i⟩
  generalize bg:zeg.run r _ l=X2 at t
  have up:=NatB.upper_lt (B:=1000000000) (U:=U) (Q:=Q) (m:=m) (X:=xs.length) (V:=NatB.val 1000000000 ys*k) (by decide) nk.1 lU (by omega) hU (NatB.val_lt (by decide) bx) aX
  obtain ⟨bt,s5,L,qs,rfl,⟨j4,j7,j8,aH⟩,⟨⟨E5,-,-⟩,av,lL,bL,aJ,aK⟩,aL,aw⟩:=bg▸aA ⟨x,qv,V0,V1,xs,W,U,ys.length,Q,k,NatB.val 1000000000 U % NatB.val 1000000000 (W.take ys.length),s⟩ _ l ⟨⟨bW,aC,e,ly,by show Q≤Mx+1;omega,by show 300000000≤(W.take ys.length).getD (ys.length - 1) 0;rw [show ys.length - 1=m by omega];exact ai⟩,⟨by simp,by simp [k6],by simp [k7],by simp [k8],by simp [k9],by simp,by simp [G]⟩,0,U,List.replicate Q 0,Nat.zero_le _,by simp,⟨⟨E3.trans E4,aD.ext E4,aj⟩,au.ext E4,by show U.length=Q+ys.length;omega,bU,aG,by simp⟩,by show _<NatB.val 1000000000 (W.take ys.length);rw [hV];exact up,rfl⟩
  simp only [DvX.V,hV] at j4 j7 j8 E5 av lL aJ aK aL aw
  rw [hU] at aw
  have P:NatB.val 1000000000 L=NatB.val 1000000000 xs % NatB.val 1000000000 ys*k:=NatB.mod_scale aw aL
  have ax:=zgQ av
  obtain ⟨y5,bu,f5,R,f⟩:=ae (V0,L) _ s5 ⟨rfl,ax.1,ax.2,by omega⟩
  rw [R,f] at f5
  obtain ⟨aM,aN,-,-⟩:=NatB.trim_take L
  have bh:∀ c:V→Go.Ev.A,zm (shr V0 (NatB.trimL L).length) c=c (iv .i64 ((NatB.trimL L).length:Int)):=fun c=>by rw [qS (zb0 ax.1 aM),aN]
  simp -implicitDefEqProofs [j8,f5,bh] at t
  generalize bj:zd5.run r _ s5=X3 at t
  have aO:NatB.val 1000000000 (L.take (NatB.trimL L).length)=NatB.val 1000000000 xs % NatB.val 1000000000 ys*k:=by rw [aN,NatB.trimL_val,P]
  obtain ⟨bw,s6,left,D,bk,rfl,⟨i4,i5,i240⟩,aP,bD,ad,E6,aQ,ay,aR,inv⟩:=bj▸aB ⟨x,qv,V0,V1,xs,W,L,(NatB.trimL L).length,Q,k,0,s⟩ _ s5 ⟨⟨nk.1,nk.2,bL,aM,by show L.length≤3*Mx;omega⟩,⟨by simp [j4],by simp,by simp [j7],by simp,by simp [aH]⟩,0,0,[],qs,Nat.zero_le _,rfl,(fun _ h=>by cases h),nk.1,by simp,(by simp;rfl),E5,by rw [NatB.rep_nil];exact av,aJ,aK,by simp [NatB.val]⟩
  simp only at i4 i5 aP ad E6 aQ ay aR inv
  rw [aO] at inv
  obtain ⟨-,bl⟩:=NatB.mul_rest ad inv
  have aS:=zgQ aQ
  have bo:(NatB.rep L 0 D).length=L.length:=NatB.rep_len (by omega)
  have ah:=zb0 aS.1 (m:=D.length) (by omega)
  rw [NatB.rep0_take] at ah
  rw [aP] at ah
  obtain ⟨y6,bz,f6,R,f⟩:=ae (qv,bk) _ s6 ⟨rfl,ay.nu.1,ay.nu.2,by omega⟩
  rw [R,f] at f6
  obtain ⟨y7,bA,f7,i,S⟩:=ae (shr V0 (NatB.trimL L).length,D) _ s6 ⟨rfl,ah,zua aS.2 _,by omega⟩
  rw [i,S,zn4] at f7
  obtain ⟨bm,bn,-,aT⟩:=NatB.trim_take D
  simp -implicitDefEqProofs [i4,i5,i240,f6,f7] at t
  have ak:=zb0 ah bm
  rw [zn4,bn] at ak
  have aU:NatB.val 1000000000 (NatB.trimL D)=NatB.val 1000000000 xs % NatB.val 1000000000 ys:=by rw [NatB.trimL_val,bl]
  refine ⟨_,s6,t.symm,E6,_,_,NatB.trimL D,rfl,ak,NatB.trim_lt bD,aT,?_,aU⟩
  apply Nat.le_of_not_lt
  intro h
  have I:=NatB.cmp_len (B:=1000000000) (by decide) aa aT h
  have J:=Nat.mod_lt (NatB.val 1000000000 xs) (kan (Nat.mul_pos t0 (Nat.pow_pos (by decide))) t1)
  omega
open NatB
variable {z:Int}
theorem w64 {n:Nat} (h:z=n:=by omega) (u:n<9223372036854775808:=by omega):IntKind.i64.wrap z=n:=by rw [h];exact z8 (by omega) (by omega)
theorem u64 {n:Nat} (h:z=n:=by omega) (u:n<18446744073709551616:=by omega):IntKind.u64.wrap z=n:=by rw [h];exact wa (by omega) (by omega)
theorem yj (n:Nat) (cst:Bool) (a b:List Nat) (c:V→Go.Ev.A):zw ⟨n,[]⟩ cst .eql (.str a) (.str b) c=c (.bool (decide (a=b))):=by
 show fB (eqS a b) c=_
 rw [znj,za1]
structure VaX where
 l:List Nat
 s0:S
def VaX.pre (c:VaX) (tm:T) (s:S):Prop:=s=c.s0∧c.l.length≤1000∧gp 0 tm=.str c.l∧gp 5 tm=iv .i64 (c.l.length:Int)∧gp 240 tm=.bad∧∃ i:Nat,i≤c.l.length∧gp 6 tm=iv .i64 (i:Int)∧∀ j,j<i→48≤c.l.getD j 0∧c.l.getD j 0≤57
def VaX.post (c:VaX) (a:Go.Ev.A):Prop:=((∀ b∈c.l,48≤b∧b≤57)∧∃ N,a=.ext 0 N c.s0∧gp 240 N=.bad)∨(¬(∀ b∈c.l,48≤b∧b≤57)∧∃ N,a=.ret N c.s0∧gp 240 N=.bad∧gp 2 N=.bool false)
theorem zDp:∀ (c:VaX) tm s,c.pre tm s→c.post (zcq.run (Rk Tryz.prog K0 fun _=>ltI VaX.pre VaX.post) tm s):=by
 refine zL (L:=fun _=>ltI VaX.pre VaX.post) zt zuE rfl (fun tm _=>(toI (gp 5 tm)).toNat - (toI (gp 6 tm)).toNat) (fun x a h=>by rcases h with ⟨-,_,h,_⟩ | ⟨-,_,h,_⟩<;>(rw [h];exact fun h=>h)) ?_
 rintro ⟨l,s0⟩ tm s ⟨C,f,h0,d,N,i,hi,W,u⟩ J
 show VaX.post _ (zcq.run _ tm _)
 generalize Rk Tryz.prog _ _=r at J ⊢
 simp only at C f h0 d hi W u
 subst C
 by_cases O:i<l.length
 ·have U:∀ (k:IntKind) (c:V→Go.Ev.A),zD (.str l) (iv k (i:Int)) c=c (iv .u8 (l.getD i 0:Nat)):=fun k c=>we l k O c
  have M:l.getD i 0∈l:=by rw [kaa,kab O];exact kai _
  obtain ⟨x,H⟩:∃ x,l.getD i 0=x:=⟨_,rfl⟩
  rw [H] at U M
  have n:IntKind.i64.wrap ((i:Int)+1)=((i+1:Nat):Int):=w64
  have bad:¬(48≤x∧x≤57)→¬∀ b∈l,48≤b∧b≤57:=fun h X=>h (X x M)
  by_cases c1:x<48
  ·have I:((x:Int)<48)=True:=eq_true (by omega)
   simp -implicitDefEqProofs [zfe,zar,h0,d,W,O,U,I]
   exact .inr ⟨bad (by omega),_,rfl,by simp [N],by simp⟩
  ·have I:((x:Int)<48)=False:=eq_false (by omega)
   by_cases c2:57<x
   ·have K:((57:Int)<(x:Int))=True:=eq_true (by omega)
    simp -implicitDefEqProofs [zfe,zar,h0,d,W,O,U,I,K]
    exact .inr ⟨bad (by omega),_,rfl,by simp [N],by simp⟩
   ·have K:((57:Int)<(x:Int))=False:=eq_false (by omega)
    simp -implicitDefEqProofs [zfe,zar,h0,d,W,O,U,I,K,n]
    refine J ⟨l,s⟩ _ s (by rw [d,W];simp [d,zp];omega) ⟨rfl,f,by simp [h0],by simp [d],by simp [N],i+1,O,by simp,fun j G=>?_⟩
    by_cases g:j=i
    ·rw [g]
     show 48≤l.getD i 0∧l.getD i 0≤57
     omega
    ·exact u j (by omega)
 ·obtain rfl:i=l.length:=by omega
  simp -implicitDefEqProofs [zfe,zar,d,W]
  refine .inl ⟨fun b hb=>?_,_,rfl,by simp [N]⟩
  obtain ⟨j,G,rfl⟩:=List.getElem_of_mem hb
  have:=u j G
  rwa [kaa,kab G] at this
noncomputable def KS:Nat→Ct
 | 205=>ctI (X:=List Nat) (fun l a _=>a=[.str l]) (fun l s v U=>U=s∧v=.bool (zaq l))
 | f=>KR f
theorem zhj:zo Tryz.prog KS 205:=by
 have P:=zDp (K0:=KS)
 refine zr (L:=fun _=>ltI VaX.pre VaX.post) zt (K:=KS) (X:=List Nat) rfl ?_
 rintro l a s rfl
 generalize Rk Tryz.prog _ _=r at P ⊢
 refine ⟨_,s,?_,rfl,rfl⟩
 have O:=yE l
 by_cases h0:l=[]
 ·subst h0
  simp -implicitDefEqProofs [zar,yj]
  rfl
 ·have Z:0<l.length:=Nat.pos_of_ne_zero fun h=>h0 (kap.1 h)
  by_cases I:1000<l.length
  ·have e:zaq l=false:=decide_eq_false fun h=>by omega
   have E:((1000:Int)<(l.length:Int))=True:=eq_true (by omega)
   rw [e]
   simp -implicitDefEqProofs [zar,yj,h0,O,E]
  ·have E:((1000:Int)<(l.length:Int))=False:=eq_false (by omega)
   have fin:(1<l.length→l.getD 0 0≠48)→∀ N,gp 0 N=.str l→gp 5 N=iv .i64 (l.length:Int)→gp 240 N=.bad→gp 6 N=iv .i64 0→zF (zx (fun N s=>zae (gp 240 N) (A.fin (gp 2 N) s)) (za (fun N s=>A.ret (sp 2 (V.bool true) N) s) (zn 0 (zcq.run r N s))))=.ret (.bool (zaq l)) s:=by
    intro hz N p i G d
    generalize f:zcq.run r N s=o
    rcases f▸P ⟨l,s⟩ N s ⟨rfl,by show l.length≤1000;omega,p,i,G,0,Nat.zero_le _,d,fun j D=>by omega⟩ with ⟨u,F,rfl,H⟩ | ⟨u,F,rfl,H,R⟩
    ·have e:zaq l=true:=decide_eq_true ⟨h0,by omega,hz,u⟩
     rw [e]
     simp -implicitDefEqProofs [H]
    ·have e:zaq l=false:=decide_eq_false fun h=>u h.2.2.2
     rw [e]
     simp -implicitDefEqProofs [H,R]
   by_cases J:1<l.length
   ·have Y:((1:Int)<(l.length:Int))=True:=eq_true (by omega)
    have U:∀ (k:IntKind) (c:V→Go.Ev.A),zD (.str l) (iv k 0) c=c (iv .u8 (l.getD 0 0:Nat)):=fun k c=>we l k Z c
    obtain ⟨x,M⟩:∃ x,l.getD 0 0=x:=⟨_,rfl⟩
    rw [M] at U fin
    by_cases Q:x=48
    ·have e:zaq l=false:=decide_eq_false fun h=>h.2.2.1 J (M.trans Q)
     subst Q
     rw [e]
     simp -implicitDefEqProofs [zar,yj,h0,O,E,Y,U]
    ·have v:((x:Int)=48)=False:=eq_false (by omega)
     simp -implicitDefEqProofs [zar,yj,h0,O,E,Y,U,v]
     apply fin (fun _=>Q)<;>simp
   ·have Y:((1:Int)<(l.length:Int))=False:=eq_false (by omega)
    simp -implicitDefEqProofs [zar,yj,h0,O,E,Y]
    apply fin (fun h=>absurd h J)<;>simp
theorem zEz (z:Int) (c:V→Go.Ev.A):yV false [iv .i64 z] (iv .i64 0) c=c (iv .i64 (max z 0)):=by
 cases z with
 | ofNat n =>
  rw [show max (Int.ofNat n) 0=(n:Int) by show max (n:Int) 0=n;omega];rfl
 | negSucc n =>
  rw [show max (Int.negSucc n) 0=0 by omega];rfl
def Dig (l:List Nat):Prop:=∀ b∈l,48≤b∧b≤57
theorem Dig.at_ (h:Dig l) (hi:i<l.length):48≤l.getD i 0∧l.getD i 0≤57:=by
 rw [kaa,kab hi];exact h _ (kai _)
structure IbX where
 w:List Nat
 cut:Nat
 v3:V
 s0:S
def IbX.pre (c:IbX) (tm:T) (s:S):Prop:=s=c.s0∧(Dig c.w∧c.cut≤c.w.length∧c.w.length≤c.cut+9∧c.w.length≤1000)∧(gp 0 tm=.str c.w∧gp 3 tm=c.v3∧gp 4 tm=iv .i64 (c.cut:Int)∧gp 240 tm=.bad)∧∃ i:Nat,c.cut≤i∧i≤c.w.length∧gp 6 tm=iv .i64 (i:Int)∧gp 5 tm=uv (zS ((c.w.take i).drop c.cut))
def IbX.post (c:IbX) (a:Go.Ev.A):Prop:=∃ N,a=.ext 2 N c.s0∧(gp 0 N=.str c.w∧gp 3 N=c.v3∧gp 4 N=iv .i64 (c.cut:Int)∧gp 240 N=.bad)∧gp 5 N=uv (zS (c.w.drop c.cut))
structure ObX where
 l:List Nat
 b:S
def ObX.pre (c:ObX) (tm:T) (s:S):Prop:=Ext c.b s∧(Dig c.l∧c.l.length≤1000)∧gp 240 tm=.bad∧∃ (m:Nat) (L:List Nat),m+L.length≤c.l.length∧gp 0 tm=.str (c.l.take m)∧Gz 169 1 c.b s (gp 3 tm) (us L)∧Bl L∧val 1000000000 L+1000000000 ^ L.length*zS (c.l.take m)=zS c.l
def ObX.post (c:ObX) (a:Go.Ev.A):Prop:=∃ N s L,a=.ext 0 N s∧Ext c.b s∧gp 240 N=.bad∧L.length≤c.l.length∧Gz 169 1 c.b s (gp 3 N) (us L)∧Bl L∧val 1000000000 L=zS c.l
noncomputable def LB:Nat→Lt
 | 27=>ltI IbX.pre IbX.post
 | _=>ltI ObX.pre ObX.post
theorem zBL:∀ (c:IbX) tm s,c.pre tm s→c.post (zdK.run (Rk Tryz.prog K0 LB) tm s):=by
 refine zL (L:=LB) zt zvu rfl (fun tm _=>1000 - (toI (gp 6 tm)).toNat) (fun x a ⟨_,h,_⟩=>by rw [h];exact fun h=>h) ?_
 rintro ⟨w,cut,v3,s0⟩ tm s ⟨C,⟨E,X,D,H⟩,⟨h0,Q,K,N⟩,i,v,hi,W,g⟩ T
 show IbX.post _ (zdK.run _ tm _)
 generalize Rk Tryz.prog _ _=r at T ⊢
 simp only at C E X D H h0 Q K v hi W g
 subst C
 have o:=yE w
 by_cases O:i<w.length
 ·have U:∀ (k:IntKind) (c:V→Go.Ev.A),zD (.str w) (iv k (i:Int)) c=c (iv .u8 (w.getD i 0:Nat)):=fun k c=>we w k O c
  have M:=E.at_ O
  have Z:=zlY O cut v
  have hb:zS ((w.take i).drop cut)<1000000000:=by
   have I:=zeD (l:=(w.take i).drop cut) fun b hb=>E b (List.mem_of_mem_take (List.mem_of_mem_drop hb))
   have J:(10:Nat) ^ ((w.take i).drop cut).length≤10 ^ 9:=Nat.pow_le_pow_right (by decide) (by rw [List.length_drop,List.length_take];omega)
   exact kan I J
  have next:∀ F,gp 0 F=.str w→gp 3 F=v3→gp 4 F=iv .i64 (cut:Int)→gp 240 F=.bad→gp 6 F=iv .i64 ((i+1:Nat):Int)→gp 5 F=uv (10*zS ((w.take i).drop cut)+(w.getD i 0 - 48))→IbX.post ⟨w,cut,v3,s⟩ (r.code zfA zg4 F s):=fun F S y p G R P =>
   T ⟨w,cut,v3,s⟩ F s (by rw [W,R,zp,zp];omega) ⟨rfl,⟨E,X,D,H⟩,⟨S,y,p,G⟩,i+1,by show cut≤i+1;omega,O,R,by rw [P,←Z]⟩
  clear Z T
  generalize zS ((w.take i).drop cut)=n at *
  obtain ⟨x,Y⟩:∃ x,w.getD i 0=x:=⟨_,rfl⟩
  rw [Y] at U M next
  obtain ⟨d,rfl⟩:∃ d,x=d+48:=⟨x - 48,by omega⟩
  rw [Nat.add_sub_cancel] at next
  have em:∀ q cst (c:V→Go.Ev.A),zw q cst .mul (iv .u64 10) (uv n) c=c (uv (10*n)):=fun q cst c=>zhC (a:=10) q cst c (by omega)
  have e:IntKind.u8.wrap (d:Int)=(d:Int):=by
   unfold IntKind.wrap;simp [IntKind.bits,IntKind.signed];omega
  have cv:∀ c:V→Go.Ev.A,zW .u64 (iv .u8 (d:Int)) c=c (uv d):=fun c=>yM .u64 .u8 (by show d<18446744073709551616;omega) c
  have j:IntKind.u64.wrap (((10*n:Nat):Int)+(d:Int))=((10*n+d:Nat):Int):=u64
  have f:IntKind.i64.wrap ((i:Int)+1)=((i+1:Nat):Int):=w64
  generalize 10*n=t at *
  generalize t+d=u at *
  simp -implicitDefEqProofs [zmo,h0,g,W,o,O,U,em,e,cv,j,f]
  apply next<;>simp [h0,Q,K,N]
 ·obtain rfl:i=w.length:=by omega
  rw [List.take_length] at g
  simp -implicitDefEqProofs [zmo,h0,W,o]
  exact ⟨_,rfl,⟨by simp [h0],by simp [Q],by simp [K],by simp [N]⟩,by simp [g]⟩
theorem zCb:∀ (c:ObX) tm s,c.pre tm s→c.post (ze9.run (Rk Tryz.prog K0 LB) tm s):=by
 have P:=zBL (K0:=K0)
 refine zL (L:=LB) zt zwJ rfl (fun tm _=>match gp 0 tm with | .str w=>w.length | _=>0) (fun x a ⟨_,_,_,h,_⟩=>by rw [h];exact fun h=>h) ?_
 rintro ⟨l,b⟩ tm s ⟨O,⟨u,H⟩,N,m,L,Q,h0,hz,bL,inv⟩ T
 show ObX.post _ (ze9.run _ tm _)
 generalize Rk Tryz.prog _ _=r at T P ⊢
 simp only at O u H Q h0 hz bL inv
 have f:(l.take m).length=m:=by rw [List.length_take];omega
 have o:=yE (l.take m)
 rw [f] at o
 by_cases ae:m=0
 ·subst ae
  simp -implicitDefEqProofs [zqH,h0]
  refine ⟨_,s,L,rfl,O,by simp [N],by show L.length≤l.length;omega,by simpa using hz,bL,?_⟩
  simpa [zS,zfB] using inv
 ·have ah:0<m:=by omega
  have e:IntKind.i64.wrap ((m:Int) - 9)=(m:Int) - 9:=z8 (by omega) (by omega)
  obtain ⟨cut,al⟩:∃ c,m - 9=c:=⟨_,rfl⟩
  have W:max ((m:Int) - 9) 0=(cut:Int):=by omega
  generalize t:ze9.run r tm s=k
  simp -implicitDefEqProofs [zqH,h0,o,ah,e,zEz,W] at t
  generalize hX:zdK.run r _ s=X1 at t
  obtain ⟨an,rfl,⟨M,d,p,G⟩,i⟩:=hX▸P ⟨l.take m,cut,gp 3 tm,s⟩ _ s ⟨rfl,⟨fun z hz=>u z (List.mem_of_mem_take hz),by rw [f];show cut≤m;omega,by rw [f];show m≤cut+9;omega,by rw [f];omega⟩,⟨by simp [h0],by simp,by simp,by simp [N]⟩,cut,kad _,by rw [f];show cut≤m;omega,by simp,by
   show gp 5 _=uv (zS (((l.take m).take cut).drop cut))
   rw [List.drop_of_length_le (by rw [List.length_take];omega)]
   simp;rfl⟩
  simp only at M d p i
  have hB:zS ((l.take m).drop cut)<1000000000:=by
   have I:=zeD (l:=(l.take m).drop cut) fun b hb=>u b (List.mem_of_mem_take (List.mem_of_mem_drop hb))
   have J:(10:Nat) ^ ((l.take m).drop cut).length≤10 ^ 9:=Nat.pow_le_pow_right (by decide) (by rw [List.length_drop,f];omega)
   exact kan I J
  have aa:=zoZ (l.take m) cut (by omega)
  rw [f,List.take_take,Nat.min_eq_left (show cut≤m by omega)] at aa
  have ad:val 1000000000 (L++[zS ((l.take m).drop cut)])+1000000000 ^ (L++[zS ((l.take m).drop cut)]).length*zS (l.take cut)=zS l:=by
   rw [za0,kae,Nat.pow_add,←inv,kaI,Nat.mul_assoc,←Nat.mul_add]
   congr 2
   rw [aa]
   by_cases g:9≤m
   ·rw [show m - cut=9 by omega]
    generalize zS (l.take cut)=X
    generalize zS ((l.take m).drop cut)=Y
    show Y+1000000000*X=X*1000000000+Y
    omega
   ·obtain rfl:cut=0:=by omega
    simp [zS,zfB]
  generalize zS ((l.take m).drop cut)=n at *
  obtain ⟨Z,U,ap,j,ai,v,-⟩:=hz.app1 O.nx Nat.one_pos (x:=[uv n]) (fun y hy=>by rw [kak.1 hy];exact qG _ _) rfl (by rw [jo];omega)
  have aj:Ext b U:=za2 O ai (D:=fun c=>qi (gp 3 tm)=some c) v fun c C=>(hz.blk C).1
  have R:∀ (c:Go.Ev.K→Nat→S→Go.Ev.A),Go.Ev.newRow s 169 [uv n] false c=c s.nx 1 (zY s (.row [uv n] 1 169 false 0 0 0)):=fun c=>zU s 169 _ false c
  have up:∀ z:V,upd [z] 0 (rep [iv .u64 0] 1)=[z]:=fun _=>rfl
  have sl:∀ c:V→Go.Ev.A,qa (.str (l.take m)) none (some (iv .i64 (cut:Int))) c=c (.str (l.take cut)):=fun c=>by
   rw [jb (l.take m) (a:=0) (b:=cut) (.inl ⟨rfl,rfl⟩) (.inr ⟨.i64,rfl⟩) (Nat.zero_le _) (by omega),List.drop_zero,Nat.sub_zero,List.take_take,Nat.min_eq_left (by omega)]
  have ak:us L++[[uv n]]=us (L++[n]):=by simp [us]
  rw [ak] at j
  have next:∀ F,gp 240 F=.bad→gp 0 F=.str (l.take cut)→gp 3 F=Z→ObX.post ⟨l,b⟩ (r.code zfA ziQ F U):=by
   intro F E j0 j3
   refine T ⟨l,b⟩ F U (by rw [h0,j0];simp only [List.length_take];omega) ⟨aj,⟨u,H⟩,E,cut,_,?_,j0,by rw [j3];exact j,fun z hz=>?_,ad⟩
   ·rw [kae];show cut+(L.length+1)≤l.length;omega
   ·rcases kaq.1 hz with hz | hz
    ·exact bL z hz
    ·rw [kak.1 hz];exact hB
  simp -implicitDefEqProofs [M,d,p,i,R,up,ap,sl] at t
  rw [←t]
  apply next<;>simp [G]
noncomputable def KT:Nat→Ct
 | 210=>ctI (X:=List Nat) (fun l a _=>a=[.str l]∧Dig l∧l.length≤1000) (fun l s v U=>Ext s U∧∃ xs,Nu U v xs∧Bl xs∧trimL xs=xs∧xs.length≤Mx∧val 1000000000 xs=zS l)
 | f=>KS f
theorem zju:zo Tryz.prog KT 210:=by
 have e:=zCb (K0:=KT)
 have J:=zk (zh (L:=LB) (show zo Tryz.prog KT 212 from ziO)) (X:=V × List Nat) rfl
 refine zr (L:=LB) zt (K:=KT) (X:=List Nat) rfl ?_
 rintro l a s ⟨rfl,u,f⟩
 generalize Rk Tryz.prog _ _=r at e J ⊢
 have k:Mx=1000000:=rfl
 generalize g:(fnC zf 210).run r _ _=D
 simp -implicitDefEqProofs [zgU] at g
 generalize Z:ze9.run r _ s=H at g
 obtain ⟨N,s1,L,rfl,Y,G,R,hz,A,E⟩:=Z▸e ⟨l,s⟩ _ s ⟨Ext.refl s,⟨u,f⟩,by simp,l.length,[],by simp,by simp,.inl ⟨by simp,rfl⟩,(fun _ h=>by cases h),by simp [val]⟩
 simp only at Y R hz E
 obtain ⟨I,Q⟩:=zgQ hz
 obtain ⟨y,W,T,j,d⟩:=J (gp 3 N,L) _ s1 ⟨rfl,I,Q,by omega⟩
 rw [j,d] at T
 obtain ⟨w,P,-,C⟩:=trim_take L
 simp -implicitDefEqProofs [G,T] at g
 have F:=zb0 I w
 rw [P] at F
 exact ⟨_,s1,g.symm,Y,trimL L,F,trim_lt A,C,by omega,(trimL_val _ _).trans E⟩
def zxB (l:List Nat):Prop:=∀ x∈l,x<256
def u8s (w:List Nat):List V:=w.map fun n:Nat=>iv .u8 (n:Int)
def zsB:List Nat:=[0,1,2,2,3,3,3,3,4,4,4,4,4,4,4,4,5,5,5,5,5,5,5,5,5,5,5,5,5,5,5,5,6,6,6,6,6,6,6,6,6,6,6,6,6,6,6,6,6,6,6,6,6,6,6,6,6,6,6,6,6,6,6,6,7,7,7,7,7,7,7,7,7,7,7,7,7,7,7,7,7,7,7,7,7,7,7,7,7,7,7,7,7,7,7,7,7,7,7,7,7,7,7,7,7,7,7,7,7,7,7,7,7,7,7,7,7,7,7,7,7,7,7,7,7,7,7,7,8,8,8,8,8,8,8,8,8,8,8,8,8,8,8,8,8,8,8,8,8,8,8,8,8,8,8,8,8,8,8,8,8,8,8,8,8,8,8,8,8,8,8,8,8,8,8,8,8,8,8,8,8,8,8,8,8,8,8,8,8,8,8,8,8,8,8,8,8,8,8,8,8,8,8,8,8,8,8,8,8,8,8,8,8,8,8,8,8,8,8,8,8,8,8,8,8,8,8,8,8,8,8,8,8,8,8,8,8,8,8,8,8,8,8,8,8,8,8,8,8,8,8,8,8,8,8,8]
def l8 (x:Nat):Nat:=zsB.getD x 0
def b8 (x:Nat):Nat:=if 256≤x then 8+l8 (x / 256) else l8 x
def b16 (x:Nat):Nat:=if 65536≤x then 16+b8 (x / 65536) else b8 x
def nd (n:Nat):Nat:=b16 n*78913 / 262144+if 10 ^ (b16 n*78913 / 262144)≤n then 1 else 0
def ds:Nat→Nat→List Nat
 | 0,_=>[]
 | k+1,n=>ds k (n / 10)++[48+n % 10]
def yd (s:S):Prop:=∃ el f2,Tr.get B.none .h s.h=.row (zzR.map fun n:Nat=>uv n) 20 el false 0 0 f2∧1<s.nx.toNat
theorem yd.ext (h:yd s) (e:Ext s U):yd U:=by
 obtain ⟨el,f2,I,J⟩:=h
 exact ⟨el,f2,(e.get .h J).trans I,kan J e.nx⟩
noncomputable def KF:Nat→Ct
 | 144=>ctI (X:=Nat) (fun n a _=>a=[uv n]∧n<4294967296) (fun n s v U=>U=s∧v=iv .i64 (b16 n:Nat))
 | 143=>ctI (X:=Nat) (fun n a _=>a=[iv .i64 (n:Int)]∧n≤64) (fun n s v U=>U=s∧v=iv .i64 ((n*78913 / 262144:Nat):Int))
 | 145=>ctI (X:=Bool) (fun b a _=>a=[.bool b]) (fun b s v U=>U=s∧v=iv .i64 ((if b=true then 1 else 0:Nat):Int))
 | 120=>ctI (X:=Nat) (fun n a s=>a=[uv n]∧0<n∧n<4294967296∧yd s) (fun n s v U=>U=s∧v=iv .i64 (nd n:Nat))
 | 119=>ctI (X:=Nat) (fun n a _=>a=[iv .i64 (n:Int)]∧n<100) (fun n s v U=>U=s∧v=.str (wG n))
 | 121=>ctI (X:=Go.Ev.K × Nat × Nat × Nat × List V) (fun ⟨A,k,cap,u,l⟩ a s=>a=[.sl A 0 0 k cap,uv u]∧Tr.get B.none A s.h=.row l 24 168 false 0 0 0∧l.length=24∧k≤23∧u<4294967296∧u<10 ^ k)
   (fun ⟨A,k,_,u,_⟩ s _ U=>∃ Z,Tr.get B.none A U.h=.row Z 24 168 false 0 0 0∧U.nx=s.nx∧(∀ c,c≠A→Tr.get B.none c U.h=Tr.get B.none c s.h)∧Z.length=24∧∀ j,j<k→Z.getD j .bad=iv .u8 ((ds k u).getD j 0:Nat))
 | f=>KT f
abbrev noL:Nat→Lt:=fun _=>⟨fun _ _=>True,fun _ _ _=>True⟩
def Bt (f:Nat→Nat) (m:Nat):Prop:=∀ x,x<2 ^ m→f x≤m∧(0<x→1≤f x∧2 ^ (f x - 1)≤x∧x<2 ^ f x)
theorem zCi:(List.range 256).all (fun x=>decide (l8 x≤8) && (decide (x=0) || (decide (1≤l8 x) && decide (2 ^ (l8 x - 1)≤x) && decide (x<2 ^ l8 x))))=true:=by decide
theorem zBD:Bt l8 8:=by
 intro x M
 have:=kao.1 zCi x (by simpa using M)
 simp only [kaf,Bool.or_eq_true,decide_eq_true_eq] at this
 exact ⟨this.1,fun h=>by rcases this.2 with u | u;omega;exact ⟨u.1.1,u.1.2,u.2⟩⟩
theorem zxh {f:Nat→Nat} (h:Bt f m):Bt (fun x=>if 2 ^ m≤x then m+f (x / 2 ^ m) else f x) (m+m):=by
 intro x M
 dsimp only
 have Z:0<2 ^ m:=Nat.two_pow_pos m
 by_cases g:2 ^ m≤x
 ·rw [if_pos g]
  have hy:x / 2 ^ m<2 ^ m:=by rw [Nat.div_lt_iff_lt_mul Z,←Nat.pow_add];exact M
  have C:0<x / 2 ^ m:=Nat.div_pos g Z
  obtain ⟨I,J⟩:=h _ hy
  obtain ⟨Q,K,d⟩:=J C
  generalize f (x / 2 ^ m)=b at *
  refine ⟨by omega,fun _=>⟨by omega,?_,?_⟩⟩
  ·rw [show m+b - 1=(b - 1)+m by omega,Nat.pow_add]
   exact (Nat.le_div_iff_mul_le Z).1 K
  ·rw [show m+b=b+m by omega,Nat.pow_add]
   exact (Nat.div_lt_iff_lt_mul Z).1 d
 ·rw [if_neg g]
  obtain ⟨I,J⟩:=h x (by omega)
  exact ⟨by omega,J⟩
theorem zx5:Bt b16 32:=zxh (m:=16) (zxh (m:=8) zBD)
theorem zB9:(List.range 33).all (fun b=>decide (b=0) || (decide (b*78913 / 262144≤9) && decide (2 ^ b≤10 ^ (b*78913 / 262144+1)) && (decide (b*78913 / 262144=0) || decide (10 ^ (b*78913 / 262144 - 1)≤2 ^ (b - 1)))))=true:=by decide
theorem zBw {n:Nat} (h0:0<n) (h:n<4294967296):1≤nd n∧nd n≤10∧10 ^ (nd n - 1)≤n∧n<10 ^ nd n:=by
 obtain ⟨I,J⟩:=zx5 n h
 obtain ⟨Q,K,d⟩:=J h0
 have:=kao.1 zB9 (b16 n) (by simp;omega)
 simp only [kaf,Bool.or_eq_true,decide_eq_true_eq] at this
 rcases this with u | ⟨⟨W,S⟩,R⟩
 ·omega
 unfold nd
 generalize b16 n*78913 / 262144=k at *
 by_cases g:10 ^ k≤n
 ·rw [if_pos g]
  exact ⟨by omega,by omega,by simpa using g,by omega⟩
 ·rw [if_neg g]
  rcases R with rfl | R
  ·simp at g;omega
  ·have F:k≠0:=fun e=>by subst e;simp at g;omega
   refine ⟨by omega,by omega,?_,by rw [Nat.add_zero];omega⟩
   rw [Nat.add_zero]
   exact kaB R K
theorem zhv:∀ (k n:Nat),(ds k n).length=k
 | 0,_=>rfl
 | k+1,n=>by unfold ds;rw [kae,zhv k];rfl
theorem zAg:∀ (k n:Nat),10 ^ k≤n→n<10 ^ (k+1)→ds (k+1) n=wG n:=by
 intro k
 induction k with
 | zero =>
  intro n I J
  have:n<10:=by simpa using J
  unfold wG
  rw [if_pos this]
  simp [ds,Nat.mod_eq_of_lt this]
 | succ k X =>
  intro n I J
  have Q:¬n<10:=by
   have:10≤10 ^ (k+1):=by rw [Nat.pow_succ];have:0<10 ^ k:=Nat.pow_pos (by omega);omega
   omega
  unfold wG
  rw [if_neg Q]
  show ds (k+1) (n / 10)++_=_
  rw [X (n / 10) (by rw [Nat.pow_succ] at I;omega) (by rw [Nat.pow_succ] at J;omega)]
theorem zAL {n:Nat} (h0:0<n) (h:n<4294967296):ds (nd n) n=wG n:=by
 obtain ⟨I,J,Q,K⟩:=zBw h0 h
 obtain ⟨k,F⟩:∃ k,nd n=k+1:=⟨nd n - 1,by omega⟩
 rw [F] at Q K ⊢
 exact zAg k n (by simpa using Q) K
theorem znn (q:EK) (cst:Bool) (k:IntKind) {a b:Nat} (h:a*b<lim k) (c:V→Go.Ev.A):zw q cst .mul (iv k (a:Int)) (iv k (b:Int)) c=c (iv k ((a*b:Nat):Int)):=by
 show zw q cst .mul (.nat k a) (.nat k b) c=_
 rw [yD]
 show zdz k (a*b) c=_
 rw [jh,yp h];rfl
theorem zul {b:Nat} (hb:0<b):Nat.beq b 0=false:=by
 cases e:Nat.beq b 0 with
 | true=>have:=kac e;omega
 | false=>rfl
theorem zbD (q:EK) (cst:Bool) (k:IntKind) {a b:Nat} (hb:0<b) (h:a<lim k) (c:V→Go.Ev.A):zw q cst .quo (iv k (a:Int)) (iv k (b:Int)) c=c (iv k ((a / b:Nat):Int)):=by
 show zw q cst .quo (.nat k a) (.nat k b) c=_
 rw [yD]
 show (Bool.rec (motive:=fun _=>Go.Ev.A) (zdz k (a / b) c) eA (Nat.beq b 0))=_
 rw [zul hb]
 show zdz k (a / b) c=_
 rw [jh,yp (Nat.lt_of_le_of_lt (Nat.div_le_self a b) h)];rfl
theorem zbB (q:EK) (cst:Bool) (k:IntKind) {a b:Nat} (hb:0<b) (c:V→Go.Ev.A):zw q cst .rem (iv k (a:Int)) (iv k (b:Int)) c=c (iv k ((a % b:Nat):Int)):=by
 show zw q cst .rem (.nat k a) (.nat k b) c=_
 rw [yD]
 show (Bool.rec (motive:=fun _=>Go.Ev.A) (fN (a % b) (fun n=>c (.nat k n))) eA (Nat.beq b 0))=_
 rw [zul hb]
 show fN (a % b) (fun n=>c (.nat k n))=_
 rw [zE];rfl
theorem zAW:zo Tryz.prog KF 143:=by
 refine zr (L:=noL) zt (X:=Nat) rfl ?_
 rintro n a s ⟨rfl,o⟩
 refine ⟨_,s,?_,rfl,rfl⟩
 generalize Rk Tryz.prog _ _=r
 have T:∀ c:V→Go.Ev.A,zw ⟨9,[]⟩ false .mul (iv .i64 (n:Int)) (iv .i64 78913) c=c (iv .i64 ((n*78913:Nat):Int)):=fun c=>znn _ _ .i64 (a:=n) (b:=78913) (by show n*78913<9223372036854775808;omega) c
 have D:∀ c:V→Go.Ev.A,wb .shr (iv .i64 ((n*78913:Nat):Int)) (iv .u64 18) c=c (iv .i64 ((n*78913 / 262144:Nat):Int)):=fun c=>zta .i64 .u64 (b:=18) (by decide) c
 simp [-Int.natCast_mul,-Int.natCast_ediv,zzN,qK,yz,T,D]
theorem zyH:zo Tryz.prog KF 145:=by
 refine zr (L:=noL) zt (X:=Bool) rfl ?_
 rintro b a s rfl
 refine ⟨_,s,?_,rfl,rfl⟩
 generalize Rk Tryz.prog _ _=r
 cases b<;>simp [zza,qK,yz]
theorem zEb (h:x<256) (c:V→Go.Ev.A):zD (.str zsB) (iv .u8 (x:Int)) c=c (iv .u8 (l8 x:Nat)):=we zsB .u8 (i:=x) (by have:zsB.length=256:=rfl;omega) c
theorem zyF:zo Tryz.prog KF 144:=by
 refine zr (L:=noL) zt (X:=Nat) rfl ?_
 rintro n a s ⟨rfl,o⟩
 refine ⟨_,s,?_,rfl,rfl⟩
 generalize Rk Tryz.prog _ _=r
 have N:∀ (x m:Nat),x<256→m≤56→∀ c:V→Go.Ev.A,zW .u8 (iv .u64 (x:Int)) (fun C=>zD (.str zsB) C fun v3=>zW .i64 v3 fun l=>zw ⟨9,[]⟩ false .add (iv .i64 (m:Int)) l c)=c (iv .i64 ((m+l8 x:Nat):Int)):=fun x m M Y c=>by
  have f:=(zBD x M).1
  rw [yM .u8 .u64 (show x<256 from M),zEb M,yM .i64 .u8 (show l8 x<9223372036854775808 by omega),qj,z8 (by omega) (by omega)]
  rw [Int.natCast_add]
 have Q:∀ (x m:Nat) (W:Int),W=m→x<256→m≤56→∀ c:V→Go.Ev.A,zW .u8 (iv .u64 (x:Int)) (fun C=>zD (.str zsB) C fun v3=>zW .i64 v3 fun l=>zw ⟨9,[]⟩ false .add (iv .i64 W) l c)=c (iv .i64 ((m+l8 x:Nat):Int)):=fun x m W e M Y c=>by subst e;exact N x m M Y c
 unfold zsB at Q
 clear N
 have Z:∀ (x y:Nat) (k:Nat),y=x / 2 ^ k→k≤64→∀ c:V→Go.Ev.A,wb .shr (iv .u64 (x:Int)) (iv .u64 (k:Int)) c=c (iv .u64 (y:Int)):=fun x y k e F c=>by subst e;exact zta .u64 .u64 (b:=k) F c
 have j:∀ c:V→Go.Ev.A,zw ⟨9,[]⟩ false .add (iv .i64 32) (iv .i64 16) c=c (iv .i64 48):=fun c=>by rw [qj];rfl
 have O:∀ c:V→Go.Ev.A,zw ⟨9,[]⟩ false .add (iv .i64 0) (iv .i64 16) c=c (iv .i64 16):=fun c=>by rw [qj];rfl
 have d:∀ c:V→Go.Ev.A,zw ⟨9,[]⟩ false .add (iv .i64 48) (iv .i64 8) c=c (iv .i64 56):=fun c=>by rw [qj];rfl
 have S:∀ c:V→Go.Ev.A,zw ⟨9,[]⟩ false .add (iv .i64 32) (iv .i64 8) c=c (iv .i64 40):=fun c=>by rw [qj];rfl
 have T:∀ c:V→Go.Ev.A,zw ⟨9,[]⟩ false .add (iv .i64 16) (iv .i64 8) c=c (iv .i64 24):=fun c=>by rw [qj];rfl
 have w:∀ c:V→Go.Ev.A,zw ⟨9,[]⟩ false .add (iv .i64 0) (iv .i64 8) c=c (iv .i64 8):=fun c=>by rw [qj];rfl
 have E:¬(4294967296:Int)≤n:=by omega
 by_cases R:65536≤n
 ·have D:(65536:Int)≤n:=by omega
  obtain ⟨v,G⟩:∃ x,x=n / 65536:=⟨_,rfl⟩
  have K:=Z n v 16 (by rw [G]) (by omega)
  simp only [Int.cast_ofNat_Int] at K
  by_cases U:256≤v
  ·have t:(256:Int)≤v:=by omega
   obtain ⟨J,I⟩:∃ x,x=v / 256:=⟨_,rfl⟩
   have P:=Z v J 8 (by rw [I]) (by omega)
   simp only [Int.cast_ofNat_Int] at P
   have hb:b16 n=24+l8 J:=by subst I G;unfold b16;rw [if_pos R];unfold b8;rw [if_pos U]<;>omega
   have H:=Q J 24 24 rfl (by omega) (by omega)
   rw [hb]
   simp [-Int.natCast_add,zgf,qK,yz,jr,E,D,t,K,P,O,T,H]
  ·have t:¬(256:Int)≤v:=by omega
   have hb:b16 n=16+l8 v:=by subst G;unfold b16;rw [if_pos R];unfold b8;rw [if_neg U]<;>omega
   have H:=Q v 16 16 rfl (by omega) (by omega)
   rw [hb]
   simp [-Int.natCast_add,zgf,qK,yz,jr,E,D,t,K,O,H]
 ·have D:¬(65536:Int)≤n:=by omega
  by_cases U:256≤n
  ·have t:(256:Int)≤n:=by omega
   obtain ⟨J,I⟩:∃ x,x=n / 256:=⟨_,rfl⟩
   have P:=Z n J 8 (by rw [I]) (by omega)
   simp only [Int.cast_ofNat_Int] at P
   have hb:b16 n=8+l8 J:=by subst I;unfold b16;rw [if_neg R];unfold b8;rw [if_pos U]<;>omega
   have H:=Q J 8 8 rfl (by omega) (by omega)
   rw [hb]
   simp [-Int.natCast_add,zgf,qK,yz,jr,E,D,t,P,w,H]
  ·have t:¬(256:Int)≤n:=by omega
   have hb:b16 n=0+l8 n:=by unfold b16;rw [if_neg R];unfold b8;rw [if_neg U];omega
   have H:=Q n 0 0 rfl (by omega) (by omega)
   rw [hb]
   simp [-Int.natCast_add,zgf,qK,yz,jr,E,D,t,H]
theorem zBV (v:yd s) {b:Nat} (hb:b<20) (k:V→S→Go.Ev.A):zd false 1 (.ptr .h 0 b) s k=k (iv .u64 ((10 ^ b:Nat):Int)) s:=by
 obtain ⟨el,f2,h,-⟩:=v
 have F:=zBJ h (by simp [zzR]) (o:=b) (m:=1) (by omega)
 have e:(zzR.map fun n:Nat=>uv n).getD (b+0) .bad=iv .u64 ((10 ^ b:Nat):Int):=by
  rw [kaa]
  simp [zzR,hb,uv]
 have:=F.load1 Nat.zero_lt_one (by rw [e];exact qG _ _) k
 rw [e] at this
 exact this
theorem zuQ:zo Tryz.prog KF 120:=by
 have C:=zk (zh (L:=noL) zyF) (X:=Nat) rfl
 have hLog:=zk (zh (L:=noL) zAW) (X:=Nat) rfl
 have G:=zk (zh (L:=noL) zyH) (X:=Bool) rfl
 refine zr (L:=noL) zt (X:=Nat) rfl ?_
 rintro n a s ⟨rfl,h0,o,v⟩
 refine ⟨_,s,?_,rfl,rfl⟩
 generalize Rk Tryz.prog _ _=r at C hLog G ⊢
 obtain ⟨M,W⟩:=zx5 n o
 obtain ⟨_,s,T,rfl,rfl⟩:=C n _ s ⟨rfl,o⟩
 obtain ⟨_,s,D,rfl,rfl⟩:=hLog (b16 n) _ s ⟨rfl,by omega⟩
 have F:b16 n*78913 / 262144<20:=by omega
 have Y:nd n=b16 n*78913 / 262144+if 10 ^ (b16 n*78913 / 262144)≤n then 1 else 0:=rfl
 rw [Y]
 clear Y
 generalize b16 n*78913 / 262144=k at *
 have f:=fun c=>zBV v F c
 have hi:∀ c:V→Go.Ev.A,zcw 20 1 (.ptr .h 0 0) (iv .i64 (k:Int)) c=c (.ptr .h 0 k):=fun c=>by rw [zC3 20 1 _ 0 0 k .i64 F];simp
 generalize Z:10 ^ k=p at *
 obtain ⟨_,s,N,rfl,rfl⟩:=G (decide ((p:Int)≤n)) _ s rfl
 by_cases g:p≤n
 ·have K:(p:Int)≤n:=by omega
  rw [decide_eq_true K] at N
  have E:∀ c:V→Go.Ev.A,zw ⟨9,[]⟩ false .add (iv .i64 (k:Int)) (iv .i64 1) c=c (iv .i64 ((k:Int)+1)):=fun c=>by rw [qj,z8 (by omega) (by omega)]
  simp at N
  simp [zlz,qK,yz,T,D,hi,f,jr,g,K,N,E]
 ·have K:¬(p:Int)≤n:=by omega
  rw [decide_eq_false K] at N
  have E:∀ c:V→Go.Ev.A,zw ⟨9,[]⟩ false .add (iv .i64 (k:Int)) (iv .i64 0) c=c (iv .i64 (k:Int)):=fun c=>by rw [qj,Int.add_zero,z8 (by omega) (by omega)]
  simp at N
  simp [zlz,qK,yz,T,D,hi,f,jr,g,K,N,E]
theorem zuM:(List.range 100).all (fun n=>decide (wG n=if n<10 then [48+n] else [48+n / 10,48+n % 10]))=true:=by
 rw [kao]
 intro n o
 have o:n<100:=by simpa using o
 rw [decide_eq_true_eq]
 unfold wG
 by_cases g:n<10
 ·rw [if_pos g,if_pos g]
 ·rw [if_neg g,if_neg g]
  unfold wG
  rw [if_pos (by omega)];rfl
def zqE:List Nat:=[48,49,50,51,52,53,54,55,56,57,97,98,99,100,101,102,103,104,105,106,107,108,109,110,111,112,113,114,115,116,117,118,119,120,121,122]
def wy:List Nat:=[48,48,48,49,48,50,48,51,48,52,48,53,48,54,48,55,48,56,48,57,49,48,49,49,49,50,49,51,49,52,49,53,49,54,49,55,49,56,49,57,50,48,50,49,50,50,50,51,50,52,50,53,50,54,50,55,50,56,50,57,51,48,51,49,51,50,51,51,51,52,51,53,51,54,51,55,51,56,51,57,52,48,52,49,52,50,52,51,52,52,52,53,52,54,52,55,52,56,52,57,53,48,53,49,53,50,53,51,53,52,53,53,53,54,53,55,53,56,53,57,54,48,54,49,54,50,54,51,54,52,54,53,54,54,54,55,54,56,54,57,55,48,55,49,55,50,55,51,55,52,55,53,55,54,55,55,55,56,55,57,56,48,56,49,56,50,56,51,56,52,56,53,56,54,56,55,56,56,56,57,57,48,57,49,57,50,57,51,57,52,57,53,57,54,57,55,57,56,57,57]
theorem zBP:(List.range 100).all (fun n=>decide ((wy.drop (n*2)).take 2=[48+n / 10,48+n % 10]))=true:=by decide
theorem zCp:(List.range 100).all (fun n=>decide (wy.getD (n*2) 0=48+n / 10) && decide (wy.getD (n*2+1) 0=48+n % 10))=true:=by decide
theorem zBn:(List.range 10).all (fun n=>decide ((zqE.drop n).take 1=[48+n]))=true:=by decide
theorem zwq:zo Tryz.prog KF 119:=by
 refine zr (L:=noL) zt (X:=Nat) rfl ?_
 rintro n a s ⟨rfl,o⟩
 refine ⟨_,s,?_,rfl,rfl⟩
 generalize Rk Tryz.prog _ _=r
 have u:=kao.1 zuM n (by simpa using o)
 rw [decide_eq_true_eq] at u
 rw [u]
 by_cases g:n<10
 ·have K:(n:Int)<10:=by omega
  rw [if_pos g]
  have E:IntKind.i64.wrap ((n:Int)+1)=(n:Int)+1:=z8 (by omega) (by omega)
  have sl:∀ c:V→Go.Ev.A,qa (.str zqE) (some (iv .i64 (n:Int))) (some (iv .i64 ((n:Int)+1))) c=c (.str [48+n]):=fun c=>by
   have h:=kao.1 zBn n (by simpa using g)
   rw [decide_eq_true_eq] at h
   rw [jb zqE (a:=n) (b:=n+1) (.inr ⟨.i64,rfl⟩) (.inr ⟨.i64,by simp⟩) (by omega) (by have:zqE.length=36:=rfl;omega),Nat.add_sub_cancel_left,h]
  unfold zqE at sl
  simp [zpw,qK,yz,zwm,qj,K,E,sl]
 ·have K:¬(n:Int)<10:=by omega
  rw [if_neg g]
  have C:∀ c:V→Go.Ev.A,zw ⟨9,[]⟩ false .mul (iv .i64 (n:Int)) (iv .i64 2) c=c (iv .i64 ((n:Int)*2)):=fun c=>by
   have:=znn ⟨9,[]⟩ false .i64 (a:=n) (b:=2) (by show n*2<9223372036854775808;omega) c
   rw [Int.natCast_mul] at this
   exact this
  have E:IntKind.i64.wrap ((n:Int)*2+2)=(n:Int)*2+2:=z8 (by omega) (by omega)
  have sl:∀ c:V→Go.Ev.A,qa (.str wy) (some (iv .i64 ((n:Int)*2))) (some (iv .i64 ((n:Int)*2+2))) c=c (.str [48+n / 10,48+n % 10]):=fun c=>by
   have h:=kao.1 zBP n (by simpa using o)
   rw [decide_eq_true_eq] at h
   rw [jb wy (a:=n*2) (b:=n*2+2) (.inr ⟨.i64,by simp⟩) (.inr ⟨.i64,by simp⟩) (by omega) (by have:wy.length=200:=rfl;omega),Nat.add_sub_cancel_left,h]
  unfold wy at sl
  simp [zpw,qK,yz,zwm,qj,K,C,E,sl]
theorem zwK:∀ (k n j:Nat),j<k→(ds k n).getD j 0=48+n / 10 ^ (k - 1 - j) % 10
 | 0,_,_,h=>by omega
 | k+1,n,j,h=>by
  show (ds k (n / 10)++[48+n % 10]).getD j 0=_
  by_cases g:j<k
  ·rw [kaa,kar (by rw [zhv];exact g),←kaa,zwK k (n / 10) j g,Nat.div_div_eq_div_mul,show k+1 - 1 - j=(k - 1 - j)+1 by omega,Nat.pow_succ,Nat.mul_comm 10]
  ·rw [kaa,kaw (by rw [zhv];omega),zhv,show j - k=0 by omega,show k+1 - 1 - j=0 by omega]
   simp
def zb1 (s0:S) (A:Go.Ev.K) (k u0 Z u:Nat) (s:S):Prop:=∃ l,Tr.get B.none A s.h=.row l 24 168 false 0 0 0∧s.nx=s0.nx∧(∀ c,c≠A→Tr.get B.none c s.h=Tr.get B.none c s0.h)∧l.length=24 ∧
 (∀ j,Z≤j→j<k→l.getD j .bad=iv .u8 ((ds k u0).getD j 0:Nat))∧True∧u=u0 / 10 ^ (k - Z)∧Z≤k
theorem zgN (l:List V) (o:Nat) (x:V) (C:o<l.length) (i:Nat):(upd [x] o l).getD i .bad=if i=o then x else l.getD i .bad:=by
 rw [kaa,Go.Ev.zgN [x] o l (by simp;omega) i]
 by_cases g:i=o
 ·subst g
  rw [if_pos (by simp),if_pos rfl];simp
 ·rw [if_neg (by simp;omega),if_neg g,kaa]
theorem zBa (l:List V) (o:Nat) (x:V) (C:o<l.length):(upd [x] o l).length=l.length:=Go.Ev.zdn [x] o l (by simp;omega)
variable {u u0:Nat} {s0:S}
theorem zb1.one {A:Go.Ev.K} {Z:Nat} (h:zb1 s0 A k u0 (Z+1) u s) (F:k≤23):∃ s1,(∀ K:V→S→Go.Ev.A,zA 1 (.ptr A 0 Z) (iv .u8 ((48+u % 10:Nat):Int)) s K=K Go.Ev.undef s1)∧zb1 s0 A k u0 Z (u / 10) s1:=by
 obtain ⟨l,I,J,Q,O,d,W,M,P⟩:=h
 refine ⟨_,fun K=>js I Z _ (yP _ _) (by omega) K,upd [iv .u8 ((48+u % 10:Nat):Int)] Z l,by rw [z9,if_pos rfl],J,fun c X=>by rw [z9,if_neg X];exact Q c X,by rw [zBa _ _ _ (by omega)];exact O,fun j R U=>?_,?_,?_,by omega⟩
 ·rw [zgN _ _ _ (by omega)]
  by_cases g:j=Z
  ·subst g
   rw [if_pos rfl,zwK k u0 j U,M,show k - 1 - j=k - (j+1) by omega]
  ·rw [if_neg (by omega)]
   exact d j (by omega) U
 ·trivial
 ·rw [M,Nat.div_div_eq_div_mul,show k - Z=(k - (Z+1))+1 by omega,Nat.pow_succ]
theorem qJ (A:Go.Ev.K) (k cap:Nat) (h:i<k) (c:V→Go.Ev.A):ze 1 (.sl A 0 0 k cap) (iv .i64 (i:Int)) c=c (.ptr A 0 i):=by
 show (Bool.rec (motive:=fun _=>Go.Ev.A) _ (fN (Nat.add 0 (Nat.mul i 1)) (fun o=>c (.ptr A 0 o))) (Nat.blt i k):Go.Ev.A)=_
 rw [show Nat.blt i k=true by rw [Nat.blt_eq];exact h]
 show fN (Nat.add 0 (Nat.mul i 1)) _=_
 rw [zE,show Nat.add 0 (Nat.mul i 1)=i by show 0+i*1=_;omega]
theorem zBz (h:m<100) (c:V→Go.Ev.A):zD (.str wy) (iv .u32 ((m*2:Nat):Int)) c=c (iv .u8 ((48+m / 10:Nat):Int))∧zD (.str wy) (iv .u32 ((m*2+1:Nat):Int)) c=c (iv .u8 ((48+m % 10:Nat):Int)):=by
 have C:=kao.1 zCp m (by simpa using h)
 simp only [kaf,decide_eq_true_eq] at C
 have f:wy.length=200:=rfl
 exact ⟨by rw [we wy .u32 (i:=m*2) (by omega),C.1],by rw [we wy .u32 (i:=m*2+1) (by omega),C.2]⟩
theorem zb1.two {A:Go.Ev.K} {n:Nat} (h:zb1 s0 A k u0 (n+2) u s) (F:k≤23):∃ s1 W,(∀ K:V→S→Go.Ev.A,zA 1 (.ptr A 0 (n+1)) (iv .u8 ((48+u % 100 % 10:Nat):Int)) s K=K Go.Ev.undef s1) ∧
  (∀ K:V→S→Go.Ev.A,zA 1 (.ptr A 0 n) (iv .u8 ((48+u % 100 / 10:Nat):Int)) s1 K=K Go.Ev.undef W)∧zb1 s0 A k u0 n (u / 100) W:=by
 obtain ⟨s1,T,I⟩:=h.one F
 obtain ⟨W,D,J⟩:=I.one F
 refine ⟨s1,W,?_,?_,?_⟩
 ·rw [show u % 100 % 10=u % 10 by omega];exact T
 ·rw [show u % 100 / 10=u / 10 % 10 by omega];exact D
 ·rw [show u / 100=u / 10 / 10 by omega];exact J
theorem zb1.le {A:Go.Ev.K} {n:Nat} (h:zb1 s0 A k u0 n u s):u≤u0∧n≤k:=by
 obtain ⟨l,-,-,-,-,-,-,g,R⟩:=h
 exact ⟨by rw [g];exact Nat.div_le_self _ _,R⟩
structure FmX where
 s0:S
 A:Go.Ev.K
 k:Nat
 cap:Nat
 u0:Nat
def FF (A:Go.Ev.K) (k cap Z u:Nat) (tm:T):Prop:=gp 0 tm=.sl A 0 0 k cap∧gp 1 tm=iv .u64 (u:Int)∧gp 4 tm=iv .i64 (Z:Int)∧gp 240 tm=.bad
def FmX.pre (c:FmX) (tm:T) (s:S):Prop:=c.k≤23∧c.u0<4294967296∧∃ Z u,FF c.A c.k c.cap Z u tm∧zb1 c.s0 c.A c.k c.u0 Z u s
def FmX.post (c:FmX) (a:Go.Ev.A):Prop:=∃ F U Z u,a=.ext 0 F U∧FF c.A c.k c.cap Z u F∧zb1 c.s0 c.A c.k c.u0 Z u U∧Z<8
abbrev LF:Nat→Lt:=fun _=>ltI FmX.pre FmX.post
theorem sm2 (h:m<100) (M:x=48+m / 10) (hy:y=48+m % 10):(∀ c:V→Go.Ev.A,zw ⟨9,[]⟩ false .mul (iv .u32 (m:Int)) (iv .u32 2) c=c (iv .u32 ((m*2:Nat):Int))) ∧
  (∀ c:V→Go.Ev.A,zw ⟨9,[]⟩ false .add (iv .u32 ((m*2:Nat):Int)) (iv .u32 1) c=c (iv .u32 ((m*2+1:Nat):Int))) ∧
  (∀ c:V→Go.Ev.A,zD (.str wy) (iv .u32 ((m*2:Nat):Int)) c=c (iv .u8 (x:Int)))∧(∀ c:V→Go.Ev.A,zD (.str wy) (iv .u32 ((m*2+1:Nat):Int)) c=c (iv .u8 (y:Int))):=by
 subst M hy
 refine ⟨fun c=>znn _ _ .u32 (a:=m) (b:=2) (by show m*2<4294967296;omega) c,fun c=>?_,fun c=>(zBz h c).1,fun c=>(zBz h c).2⟩
 show zw ⟨9,[]⟩ false .add (.nat .u32 (m*2)) (.nat .u32 1) c=_
 rw [yD]
 show zdz .u32 (m*2+1) c=_
 rw [jh,yp (by show m*2+1<4294967296;omega)];rfl
theorem zfh {n d:Nat} (h:m+d=n) (o:n≤23) {di:Int} (u:di=d) (c:V→Go.Ev.A):zw ⟨9,[]⟩ false .sub (iv .i64 (n:Int)) (iv .i64 di) c=c (iv .i64 (m:Int)):=by
 rw [wC,u,z8 (by omega) (by omega)]
 congr 2
 omega
theorem zDX:∀ (c:FmX) tm s,c.pre tm s→c.post (zep.run (Rk Tryz.prog KF LF) tm s):=by
 refine zL (L:=LF) zt zvE rfl (fun tm _=>(toI (gp 4 tm)).toNat) (fun _ a ⟨_,_,_,_,h,_⟩=>by rw [h];exact fun h=>h) ?_
 rintro ⟨s0,A,k,cap,u0⟩ tm U ⟨F,ai,Z,u,⟨h0,I,K,N⟩,C⟩ J
 show FmX.post _ (zep.run _ tm _)
 generalize Rk Tryz.prog _ _=r at J ⊢
 simp only at F ai h0 C
 obtain ⟨hu,aT⟩:=C.le
 by_cases g:8≤Z
 ·have G:(8:Int)≤Z:=by omega
  obtain ⟨Y,aF⟩:∃ x,Z=x+8:=⟨Z - 8,by omega⟩
  have aU:=C
  rw [aF] at C
  obtain ⟨s1,W,a1,a2,F2⟩:=zb1.two (n:=Y+6) C F
  obtain ⟨X,l,a3,a4,F4⟩:=zb1.two (n:=Y+4) F2 F
  obtain ⟨D,E,a5,a6,F6⟩:=zb1.two (n:=Y+2) F4 F
  obtain ⟨s7,s8,a7,a8,F8⟩:=zb1.two (n:=Y) F6 F
  rw [show u / 100 / 100 / 100 / 100=u / 100000000 by omega] at F8
  obtain ⟨u8,aj⟩:∃ x,x=u / 100000000:=⟨_,rfl⟩
  obtain ⟨S,ak⟩:∃ x,x=u % 100000000:=⟨_,rfl⟩
  obtain ⟨P,al⟩:∃ x,x=S / 10000:=⟨_,rfl⟩
  obtain ⟨q7,an⟩:∃ x,x=S % 10000:=⟨_,rfl⟩
  obtain ⟨q8,ao⟩:∃ x,x=q7 / 100:=⟨_,rfl⟩
  obtain ⟨q9,aq⟩:∃ x,x=q7 % 100:=⟨_,rfl⟩
  obtain ⟨aa,ae⟩:∃ x,x=P / 100:=⟨_,rfl⟩
  obtain ⟨ad,ah⟩:∃ x,x=P % 100:=⟨_,rfl⟩
  have b5:∀ c:V→Go.Ev.A,zw ⟨9,[]⟩ false .rem (iv .u64 (u:Int)) (iv .u64 100000000) c=c (iv .u64 (S:Int)):=fun c=>by rw [ak];exact zbB _ _ .u64 (b:=100000000) (by omega) c
  have aG:∀ c:V→Go.Ev.A,zW .u32 (iv .u64 (S:Int)) c=c (iv .u32 (S:Int)):=fun c=>yM .u32 .u64 (show S<4294967296 by omega) c
  have bu:∀ c:V→Go.Ev.A,zw ⟨9,[]⟩ false .quo (iv .u64 (u:Int)) (iv .u64 100000000) c=c (iv .u64 (u8:Int)):=fun c=>by rw [aj];exact zbD _ _ .u64 (b:=100000000) (by omega) (show u<18446744073709551616 by omega) c
  have b6:∀ c:V→Go.Ev.A,zw ⟨9,[]⟩ false .quo (iv .u32 (S:Int)) (iv .u32 10000) c=c (iv .u32 (P:Int)):=fun c=>by rw [al];exact zbD _ _ .u32 (b:=10000) (by omega) (show S<4294967296 by omega) c
  have b7:∀ c:V→Go.Ev.A,zw ⟨9,[]⟩ false .rem (iv .u32 (S:Int)) (iv .u32 10000) c=c (iv .u32 (q7:Int)):=fun c=>by rw [an];exact zbB _ _ .u32 (b:=10000) (by omega) c
  have b8:∀ c:V→Go.Ev.A,zw ⟨9,[]⟩ false .quo (iv .u32 (q7:Int)) (iv .u32 100) c=c (iv .u32 (q8:Int)):=fun c=>by rw [ao];exact zbD _ _ .u32 (b:=100) (by omega) (show q7<4294967296 by omega) c
  have b9:∀ c:V→Go.Ev.A,zw ⟨9,[]⟩ false .rem (iv .u32 (q7:Int)) (iv .u32 100) c=c (iv .u32 (q9:Int)):=fun c=>by rw [aq];exact zbB _ _ .u32 (b:=100) (by omega) c
  have aH:∀ c:V→Go.Ev.A,zw ⟨9,[]⟩ false .quo (iv .u32 (P:Int)) (iv .u32 100) c=c (iv .u32 (aa:Int)):=fun c=>by rw [ae];exact zbD _ _ .u32 (b:=100) (by omega) (show P<4294967296 by omega) c
  have aJ:∀ c:V→Go.Ev.A,zw ⟨9,[]⟩ false .rem (iv .u32 (P:Int)) (iv .u32 100) c=c (iv .u32 (ad:Int)):=fun c=>by rw [ah];exact zbB _ _ .u32 (b:=100) (by omega) c
  obtain ⟨O,ar⟩:∃ x,x=48+u % 100 % 10:=⟨_,rfl⟩
  obtain ⟨M,au⟩:∃ x,x=48+u % 100 / 10:=⟨_,rfl⟩
  obtain ⟨d3,av⟩:∃ x,x=48+u / 100 % 100 % 10:=⟨_,rfl⟩
  obtain ⟨d4,aw⟩:∃ x,x=48+u / 100 % 100 / 10:=⟨_,rfl⟩
  obtain ⟨d5,ax⟩:∃ x,x=48+u / 100 / 100 % 100 % 10:=⟨_,rfl⟩
  obtain ⟨d6,ay⟩:∃ x,x=48+u / 100 / 100 % 100 / 10:=⟨_,rfl⟩
  obtain ⟨d7,az⟩:∃ x,x=48+u / 100 / 100 / 100 % 100 % 10:=⟨_,rfl⟩
  obtain ⟨d8,aA⟩:∃ x,x=48+u / 100 / 100 / 100 % 100 / 10:=⟨_,rfl⟩
  rw [←ar] at a1;rw [←au] at a2;rw [←av] at a3;rw [←aw] at a4;rw [←ax] at a5;rw [←ay] at a6;rw [←az] at a7;rw [←aA] at a8
  obtain ⟨m9,x9,i9,j9⟩:=sm2 (m:=q9) (x:=M) (y:=O) (by omega) (by omega) (by omega)
  obtain ⟨m8,x8,i8,j8⟩:=sm2 (m:=q8) (x:=d4) (y:=d3) (by omega) (by omega) (by omega)
  obtain ⟨aK,aL,aB,aC⟩:=sm2 (m:=ad) (x:=d6) (y:=d5) (by omega) (by omega) (by omega)
  obtain ⟨aM,aN,aD,aE⟩:=sm2 (m:=aa) (x:=d8) (y:=d7) (by omega) (by omega) (by omega)
  clear ak al an ao aq ae ah ar au av aw ax ay az aA
  obtain ⟨o,R⟩:∃ x,x=Y+1:=⟨_,rfl⟩
  obtain ⟨v,aO⟩:∃ x,x=Y+2:=⟨_,rfl⟩
  obtain ⟨n3,aV⟩:∃ x,x=Y+3:=⟨_,rfl⟩
  obtain ⟨n4,aP⟩:∃ x,x=Y+4:=⟨_,rfl⟩
  obtain ⟨n5,aW⟩:∃ x,x=Y+5:=⟨_,rfl⟩
  obtain ⟨n6,aQ⟩:∃ x,x=Y+6:=⟨_,rfl⟩
  obtain ⟨n7,aX⟩:∃ x,x=Y+7:=⟨_,rfl⟩
  rw [show Y+6+1=n7 by omega] at a1
  rw [←aQ] at a2
  rw [show Y+4+1=n5 by omega] at a3
  rw [←aP] at a4
  rw [show Y+2+1=n3 by omega] at a5
  rw [←aO] at a6
  rw [←R] at a7
  have w:=zfh (n:=Z) (m:=n7) (d:=1) (by omega) (by omega) (di:=1) rfl
  have Q:=zfh (n:=Z) (m:=n6) (d:=2) (by omega) (by omega) (di:=2) rfl
  have t3:=zfh (n:=Z) (m:=n5) (d:=3) (by omega) (by omega) (di:=3) rfl
  have t4:=zfh (n:=Z) (m:=n4) (d:=4) (by omega) (by omega) (di:=4) rfl
  have t5:=zfh (n:=Z) (m:=n3) (d:=5) (by omega) (by omega) (di:=5) rfl
  have t6:=zfh (n:=Z) (m:=v) (d:=6) (by omega) (by omega) (di:=6) rfl
  have t7:=zfh (n:=Z) (m:=o) (d:=7) (by omega) (by omega) (di:=7) rfl
  have t8:=zfh (n:=Z) (m:=Y) (d:=8) (by omega) (by omega) (di:=8) rfl
  have e:=fun c=>qJ A k cap (i:=n7) (by omega) c
  have j:=fun c=>qJ A k cap (i:=n6) (by omega) c
  have f:=fun c=>qJ A k cap (i:=n5) (by omega) c
  have p:=fun c=>qJ A k cap (i:=n4) (by omega) c
  have w5:=fun c=>qJ A k cap (i:=n3) (by omega) c
  have w6:=fun c=>qJ A k cap (i:=v) (by omega) c
  have w7:=fun c=>qJ A k cap (i:=o) (by omega) c
  have w8:=fun c=>qJ A k cap (i:=Y) (by omega) c
  generalize q9*2+1=aY at *
  generalize q8*2+1=aZ at *
  generalize ad*2+1=aR at *
  generalize aa*2+1=aS at *
  generalize q9*2=p9 at *
  generalize q8*2=p8 at *
  generalize ad*2=ba at *
  generalize aa*2=bb at *
  unfold wy at i9 j9 i8 j8 aB aC aD aE
  have key:∀ t:T,FF A k cap Y u8 t→FmX.post ⟨s0,A,k,cap,u0⟩ (r.code zi1 zgp t s8):=fun t H =>
   J ⟨s0,A,k,cap,u0⟩ t s8 (by rw [H.2.2.1,K,zp,zp];omega) ⟨F,ai,Y,u8,H,by rw [aj];exact F8⟩
  simp [-qj,-wC,zmE,qK,h0,I,K,jr,yz,G,b5,aG,bu,b6,b7,b8,b9,aH,aJ,m9,x9,i9,j9,m8,x8,i8,j8,aK,aL,aB,aC,aM,aN,aD,aE,w,Q,t3,t4,t5,t6,t7,t8,e,j,f,p,w5,w6,w7,w8,a1,a2,a3,a4,a5,a6,a7,a8]
  exact key _ ⟨by simp [qK,h0],by simp [qK],by simp [qK],by simp [qK,N]⟩
 ·have G:¬(8:Int)≤Z:=by omega
  simp [-qj,-wC,zmE,qK,K,jr,yz,G]
  exact ⟨_,_,Z,u,rfl,⟨by simp [qK,h0],by simp [qK,I],by simp [qK,K],by simp [qK,N]⟩,C,by omega⟩
theorem zb1.small {A:Go.Ev.K} {n:Nat} (h:zb1 s0 A k u0 n u s) (hu:u0<10 ^ k):u<10 ^ n:=by
 obtain ⟨l,-,-,-,-,-,-,g,R⟩:=h
 rw [g,Nat.div_lt_iff_lt_mul (Nat.pow_pos (by omega)),←Nat.pow_add,show n+(k - n)=k by omega]
 exact hu
theorem zw5:zo Tryz.prog KF 121:=by
 have e:=zDX
 refine zr (L:=LF) zt (X:=Go.Ev.K × Nat × Nat × Nat × List V) rfl ?_
 rintro ⟨A,k,cap,u0,W⟩ a s ⟨rfl,Q,bN,F,bO,hu⟩
 generalize Rk Tryz.prog _ _=r at e ⊢
 suffices h:∃ U,(fnC zf 121).run r [.sl A 0 0 k cap,uv u0] s=.ret (.ls 1 []) U∧∃ u,zb1 s A k u0 0 u U by
  obtain ⟨U,h,_,M,R,f,g,E,Z,-⟩:=h
  exact ⟨_,U,h,M,R,f,g,E,fun j G=>Z j (Nat.zero_le _) G⟩
 have O:∀ c:V→Go.Ev.A,zm (.sl A 0 0 k cap) c=c (iv .i64 (k:Int)):=fun c=>rfl
 simp [jd,qK,O]
 generalize p:zep.run r _ s=y
 have:=p▸e ⟨s,A,k,cap,u0⟩ _ s ⟨F,bO,k,u0,⟨by simp [qK],by simp [qK],by simp [qK],by simp [qK]⟩,W,Q,rfl,fun _ _=>rfl,bN,fun j I J=>by simp only at I J;omega,trivial,by rw [Nat.sub_self];simp,kad _⟩
 obtain ⟨N,s1,Y,v0,rfl,⟨f0,f1,f4,f240⟩,D,b2⟩:=this
 have l:=D.small hu
 have b3:10 ^ Y≤10 ^ 7:=Nat.pow_le_pow_right (by omega) (by omega)
 have bP:=D.le.2
 simp only at f0 F l bP D
 have aa:∀ c:V→Go.Ev.A,zW .u32 (iv .u64 (v0:Int)) c=c (iv .u32 (v0:Int)):=fun c=>yM .u32 .u64 (show v0<4294967296 by omega) c
 by_cases T:4≤Y
 ·have aj:(4:Int)≤Y:=by omega
  obtain ⟨o,bQ⟩:∃ x,Y=x+4:=⟨Y - 4,by omega⟩
  have FA:=D
  rw [bQ] at FA
  obtain ⟨b4,b5,av,aw,bR⟩:=zb1.two (n:=o+2) FA F
  obtain ⟨b6,bz,ax,az,aA⟩:=zb1.two (n:=o) bR F
  rw [show v0 / 100 / 100=v0 / 10000 by omega] at aA
  obtain ⟨H,bA⟩:∃ x,x=v0 / 10000:=⟨_,rfl⟩
  rw [←bA] at aA
  obtain ⟨ay,bB⟩:∃ x,x=v0 % 10000:=⟨_,rfl⟩
  obtain ⟨aV,bC⟩:∃ x,x=ay / 100:=⟨_,rfl⟩
  obtain ⟨aW,bD⟩:∃ x,x=ay % 100:=⟨_,rfl⟩
  have aX:∀ c:V→Go.Ev.A,zw ⟨9,[]⟩ false .rem (iv .u32 (v0:Int)) (iv .u32 10000) c=c (iv .u32 (ay:Int)):=fun c=>by rw [bB];exact zbB _ _ .u32 (b:=10000) (by omega) c
  have aY:∀ c:V→Go.Ev.A,zw ⟨9,[]⟩ false .quo (iv .u32 (v0:Int)) (iv .u32 10000) c=c (iv .u32 (H:Int)):=fun c=>by rw [bA];exact zbD _ _ .u32 (b:=10000) (by omega) (show v0<4294967296 by omega) c
  have aZ:∀ c:V→Go.Ev.A,zw ⟨9,[]⟩ false .quo (iv .u32 (ay:Int)) (iv .u32 100) c=c (iv .u32 (aV:Int)):=fun c=>by rw [bC];exact zbD _ _ .u32 (b:=100) (by omega) (show ay<4294967296 by omega) c
  have ba:∀ c:V→Go.Ev.A,zw ⟨9,[]⟩ false .rem (iv .u32 (ay:Int)) (iv .u32 100) c=c (iv .u32 (aW:Int)):=fun c=>by rw [bD];exact zbB _ _ .u32 (b:=100) (by omega) c
  obtain ⟨bS,bE⟩:∃ x,x=48+v0 % 100 % 10:=⟨_,rfl⟩
  obtain ⟨bT,bF⟩:∃ x,x=48+v0 % 100 / 10:=⟨_,rfl⟩
  obtain ⟨bU,bG⟩:∃ x,x=48+v0 / 100 % 100 % 10:=⟨_,rfl⟩
  obtain ⟨bV,bH⟩:∃ x,x=48+v0 / 100 % 100 / 10:=⟨_,rfl⟩
  rw [←bE] at av;rw [←bF] at aw;rw [←bG] at ax;rw [←bH] at az
  obtain ⟨bb,bc,aB,aC⟩:=sm2 (m:=aW) (x:=bT) (y:=bS) (by omega) (by omega) (by omega)
  obtain ⟨bd,bg,aD,aE⟩:=sm2 (m:=aV) (x:=bV) (y:=bU) (by omega) (by omega) (by omega)
  obtain ⟨bI,bJ⟩:∃ x,x=o+1:=⟨_,rfl⟩
  obtain ⟨bK,bL⟩:∃ x,x=o+2:=⟨_,rfl⟩
  obtain ⟨br,bY⟩:∃ x,x=o+3:=⟨_,rfl⟩
  rw [show o+2+1=br by omega] at av
  rw [←bL] at aw
  rw [←bJ] at ax
  have bh:=zfh (n:=Y) (m:=br) (d:=1) (by omega) (by omega) (di:=1) rfl
  have bj:=fun c=>qJ A k cap (i:=br) (by omega) c
  have bk:=zfh (n:=Y) (m:=bK) (d:=2) (by omega) (by omega) (di:=2) rfl
  have bl:=fun c=>qJ A k cap (i:=bK) (by omega) c
  have bm:=zfh (n:=Y) (m:=bI) (d:=3) (by omega) (by omega) (di:=3) rfl
  have bn:=fun c=>qJ A k cap (i:=bI) (by omega) c
  have bo:=zfh (n:=Y) (m:=o) (d:=4) (by omega) (by omega) (di:=4) rfl
  have bp:=fun c=>qJ A k cap (i:=o) (by omega) c
  generalize aW*2+1=bZ at *
  generalize aV*2+1=b1 at *
  generalize aW*2=b7 at *
  generalize aV*2=b9 at *
  unfold wy at aB aC aD aE
  by_cases R:2≤o
  ·have ad:(2:Int)≤o:=by omega
   obtain ⟨v,bt⟩:∃ x,o=x+2:=⟨o - 2,by omega⟩
   have FB:=aA
   rw [bt] at FB
   obtain ⟨bW,aF,ak,an,ao⟩:=zb1.two (n:=v) FB F
   obtain ⟨C,aG⟩:∃ x,x=H / 100:=⟨_,rfl⟩
   rw [←aG] at ao
   obtain ⟨al,aH⟩:∃ x,x=H % 100:=⟨_,rfl⟩
   have aJ:∀ c:V→Go.Ev.A,zw ⟨9,[]⟩ false .rem (iv .u32 (H:Int)) (iv .u32 100) c=c (iv .u32 (al:Int)):=fun c=>by rw [aH];exact zbB _ _ .u32 (b:=100) (by omega) c
   have aK:∀ c:V→Go.Ev.A,zw ⟨9,[]⟩ false .quo (iv .u32 (H:Int)) (iv .u32 100) c=c (iv .u32 (C:Int)):=fun c=>by rw [aG];exact zbD _ _ .u32 (b:=100) (by omega) (show H<4294967296 by omega) c
   obtain ⟨bu,aL⟩:∃ x,x=48+H % 100 % 10:=⟨_,rfl⟩
   obtain ⟨bw,aM⟩:∃ x,x=48+H % 100 / 10:=⟨_,rfl⟩
   rw [←aL] at ak;rw [←aM] at an
   obtain ⟨aN,aO,aq,ar⟩:=sm2 (m:=al) (x:=bw) (y:=bu) (by omega) (by omega) (by omega)
   obtain ⟨aP,P⟩:∃ x,x=v+1:=⟨_,rfl⟩
   rw [←P] at ak
   have aQ:=zfh (n:=o) (m:=aP) (d:=1) (by omega) (by omega) (di:=1) rfl
   have aR:=fun c=>qJ A k cap (i:=aP) (by omega) c
   have aS:=zfh (n:=o) (m:=v) (d:=2) (by omega) (by omega) (di:=2) rfl
   have aT:=fun c=>qJ A k cap (i:=v) (by omega) c
   generalize al*2+1=bM at *
   generalize al*2=bX at *
   unfold wy at aq ar
   by_cases f:0<v
   ·have t:(0:Int)<v:=by omega
    have FC:=ao
    rw [show v=0+1 by omega] at FC
    have aU:=FC.small hu
    obtain ⟨ae,ah,au⟩:=FC.one F
    rw [show 48+C % 10=48+C by omega] at ah
    have ai:∀ K:V→S→Go.Ev.A,zA 1 (.ptr A 0 0) (iv .u8 ((48:Int)+C)) aF K=K Go.Ev.undef ae:=fun K=>by have:=ah K;rw [Int.natCast_add] at this;exact this
    have w:∀ c:V→Go.Ev.A,zw ⟨9,[]⟩ false .add (iv .u32 48) (iv .u32 (C:Int)) c=c (iv .u32 ((48:Int)+C)):=fun c=>by
     rw [qj];congr 2;have:=yp (k:=.u32) (n:=48+C) (by show 48+C<4294967296;omega);exact this
    have cv:∀ c:V→Go.Ev.A,zW .u8 (iv .u32 ((48:Int)+C)) c=c (iv .u8 ((48:Int)+C)):=fun c=>yM .u8 .u32 (n:=48+C) (show 48+C<256 by omega) c
    have w0:∀ c:V→Go.Ev.A,ze 1 (.sl A 0 0 k cap) (iv .i64 0) c=c (.ptr A 0 0):=fun c=>qJ A k cap (i:=0) (by omega) c
    refine ⟨ae,?_,_,au⟩
    simp [-qj,-wC,qK,f0,f1,f4,f240,aa,jr,zdV,aj,aX,aY,aZ,ba,bb,bc,aB,aC,bd,bg,aD,aE,bh,bk,bm,bo,bj,bl,bn,bp,av,aw,ax,az,ad,aJ,aK,aN,aO,aq,ar,aQ,aS,aR,aT,ak,an,f,w,cv,w0,ai]
   ·have t:¬(0:Int)<v:=by omega
    refine ⟨aF,?_,_,by have h:=ao;rw [show v=0 by omega] at h;exact h⟩
    simp [-qj,-wC,qK,f0,f1,f4,f240,aa,jr,zdV,aj,aX,aY,aZ,ba,bb,bc,aB,aC,bd,bg,aD,aE,bh,bk,bm,bo,bj,bl,bn,bp,av,aw,ax,az,ad,aJ,aK,aN,aO,aq,ar,aQ,aS,aR,aT,ak,an,f]
  ·have ad:¬(2:Int)≤o:=by omega
   by_cases f:0<o
   ·have t:(0:Int)<o:=by omega
    have FC:=aA
    rw [show o=0+1 by omega] at FC
    have aU:=FC.small hu
    obtain ⟨ae,ah,au⟩:=FC.one F
    rw [show 48+H % 10=48+H by omega] at ah
    have ai:∀ K:V→S→Go.Ev.A,zA 1 (.ptr A 0 0) (iv .u8 ((48:Int)+H)) bz K=K Go.Ev.undef ae:=fun K=>by have:=ah K;rw [Int.natCast_add] at this;exact this
    have w:∀ c:V→Go.Ev.A,zw ⟨9,[]⟩ false .add (iv .u32 48) (iv .u32 (H:Int)) c=c (iv .u32 ((48:Int)+H)):=fun c=>by
     rw [qj];congr 2;have:=yp (k:=.u32) (n:=48+H) (by show 48+H<4294967296;omega);exact this
    have cv:∀ c:V→Go.Ev.A,zW .u8 (iv .u32 ((48:Int)+H)) c=c (iv .u8 ((48:Int)+H)):=fun c=>yM .u8 .u32 (n:=48+H) (show 48+H<256 by omega) c
    have w0:∀ c:V→Go.Ev.A,ze 1 (.sl A 0 0 k cap) (iv .i64 0) c=c (.ptr A 0 0):=fun c=>qJ A k cap (i:=0) (by omega) c
    refine ⟨ae,?_,_,au⟩
    simp [-qj,-wC,qK,f0,f1,f4,f240,aa,jr,zdV,aj,aX,aY,aZ,ba,bb,bc,aB,aC,bd,bg,aD,aE,bh,bk,bm,bo,bj,bl,bn,bp,av,aw,ax,az,ad,f,w,cv,w0,ai]
   ·have t:¬(0:Int)<o:=by omega
    refine ⟨bz,?_,_,by have h:=aA;rw [show o=0 by omega] at h;exact h⟩
    simp [-qj,-wC,qK,f0,f1,f4,f240,aa,jr,zdV,aj,aX,aY,aZ,ba,bb,bc,aB,aC,bd,bg,aD,aE,bh,bk,bm,bo,bj,bl,bn,bp,av,aw,ax,az,ad,f]
 ·have aj:¬(4:Int)≤Y:=by omega
  by_cases R:2≤Y
  ·have ad:(2:Int)≤Y:=by omega
   obtain ⟨v,bt⟩:∃ x,Y=x+2:=⟨Y - 2,by omega⟩
   have FB:=D
   rw [bt] at FB
   obtain ⟨bW,aF,ak,an,ao⟩:=zb1.two (n:=v) FB F
   obtain ⟨C,aG⟩:∃ x,x=v0 / 100:=⟨_,rfl⟩
   rw [←aG] at ao
   obtain ⟨al,aH⟩:∃ x,x=v0 % 100:=⟨_,rfl⟩
   have aJ:∀ c:V→Go.Ev.A,zw ⟨9,[]⟩ false .rem (iv .u32 (v0:Int)) (iv .u32 100) c=c (iv .u32 (al:Int)):=fun c=>by rw [aH];exact zbB _ _ .u32 (b:=100) (by omega) c
   have aK:∀ c:V→Go.Ev.A,zw ⟨9,[]⟩ false .quo (iv .u32 (v0:Int)) (iv .u32 100) c=c (iv .u32 (C:Int)):=fun c=>by rw [aG];exact zbD _ _ .u32 (b:=100) (by omega) (show v0<4294967296 by omega) c
   obtain ⟨bu,aL⟩:∃ x,x=48+v0 % 100 % 10:=⟨_,rfl⟩
   obtain ⟨bw,aM⟩:∃ x,x=48+v0 % 100 / 10:=⟨_,rfl⟩
   rw [←aL] at ak;rw [←aM] at an
   obtain ⟨aN,aO,aq,ar⟩:=sm2 (m:=al) (x:=bw) (y:=bu) (by omega) (by omega) (by omega)
   obtain ⟨aP,P⟩:∃ x,x=v+1:=⟨_,rfl⟩
   rw [←P] at ak
   have aQ:=zfh (n:=Y) (m:=aP) (d:=1) (by omega) (by omega) (di:=1) rfl
   have aR:=fun c=>qJ A k cap (i:=aP) (by omega) c
   have aS:=zfh (n:=Y) (m:=v) (d:=2) (by omega) (by omega) (di:=2) rfl
   have aT:=fun c=>qJ A k cap (i:=v) (by omega) c
   generalize al*2+1=bM at *
   generalize al*2=bX at *
   unfold wy at aq ar
   by_cases f:0<v
   ·have t:(0:Int)<v:=by omega
    have FC:=ao
    rw [show v=0+1 by omega] at FC
    have aU:=FC.small hu
    obtain ⟨ae,ah,au⟩:=FC.one F
    rw [show 48+C % 10=48+C by omega] at ah
    have ai:∀ K:V→S→Go.Ev.A,zA 1 (.ptr A 0 0) (iv .u8 ((48:Int)+C)) aF K=K Go.Ev.undef ae:=fun K=>by have:=ah K;rw [Int.natCast_add] at this;exact this
    have w:∀ c:V→Go.Ev.A,zw ⟨9,[]⟩ false .add (iv .u32 48) (iv .u32 (C:Int)) c=c (iv .u32 ((48:Int)+C)):=fun c=>by
     rw [qj];congr 2;have:=yp (k:=.u32) (n:=48+C) (by show 48+C<4294967296;omega);exact this
    have cv:∀ c:V→Go.Ev.A,zW .u8 (iv .u32 ((48:Int)+C)) c=c (iv .u8 ((48:Int)+C)):=fun c=>yM .u8 .u32 (n:=48+C) (show 48+C<256 by omega) c
    have w0:∀ c:V→Go.Ev.A,ze 1 (.sl A 0 0 k cap) (iv .i64 0) c=c (.ptr A 0 0):=fun c=>qJ A k cap (i:=0) (by omega) c
    refine ⟨ae,?_,_,au⟩
    simp [-qj,-wC,qK,f0,f1,f4,f240,aa,jr,zdV,aj,ad,aJ,aK,aN,aO,aq,ar,aQ,aS,aR,aT,ak,an,f,w,cv,w0,ai]
   ·have t:¬(0:Int)<v:=by omega
    refine ⟨aF,?_,_,by have h:=ao;rw [show v=0 by omega] at h;exact h⟩
    simp [-qj,-wC,qK,f0,f1,f4,f240,aa,jr,zdV,aj,ad,aJ,aK,aN,aO,aq,ar,aQ,aS,aR,aT,ak,an,f]
  ·have ad:¬(2:Int)≤Y:=by omega
   by_cases f:0<Y
   ·have t:(0:Int)<Y:=by omega
    have FC:=D
    rw [show Y=0+1 by omega] at FC
    have aU:=FC.small hu
    obtain ⟨ae,ah,au⟩:=FC.one F
    rw [show 48+v0 % 10=48+v0 by omega] at ah
    have ai:∀ K:V→S→Go.Ev.A,zA 1 (.ptr A 0 0) (iv .u8 ((48:Int)+v0)) s1 K=K Go.Ev.undef ae:=fun K=>by have:=ah K;rw [Int.natCast_add] at this;exact this
    have w:∀ c:V→Go.Ev.A,zw ⟨9,[]⟩ false .add (iv .u32 48) (iv .u32 (v0:Int)) c=c (iv .u32 ((48:Int)+v0)):=fun c=>by
     rw [qj];congr 2;have:=yp (k:=.u32) (n:=48+v0) (by show 48+v0<4294967296;omega);exact this
    have cv:∀ c:V→Go.Ev.A,zW .u8 (iv .u32 ((48:Int)+v0)) c=c (iv .u8 ((48:Int)+v0)):=fun c=>yM .u8 .u32 (n:=48+v0) (show 48+v0<256 by omega) c
    have w0:∀ c:V→Go.Ev.A,ze 1 (.sl A 0 0 k cap) (iv .i64 0) c=c (.ptr A 0 0):=fun c=>qJ A k cap (i:=0) (by omega) c
    refine ⟨ae,?_,_,au⟩
    simp [-qj,-wC,qK,f0,f1,f4,f240,aa,jr,zdV,aj,ad,f,w,cv,w0,ai]
   ·have t:¬(0:Int)<Y:=by omega
    refine ⟨s1,?_,_,by have h:=D;rw [show Y=0 by omega] at h;exact h⟩
    simp [-qj,-wC,qK,f0,f1,f4,f240,aa,jr,zdV,aj,ad,f]
theorem zkz (w:List Nat) (h:zxB w) (c:List Nat→Go.Ev.A):jW (u8s w) c=c w:=by
 induction w generalizing c with
 | nil=>rfl
 | cons n w X =>
  show (Bool.rec (motive:=fun _=>Go.Ev.A) eA (jW (u8s w) (fun l=>c (n::l))) (zB (qO .u8 .u8) (Nat.blt n 256)):Go.Ev.A)=_
  rw [show Nat.blt n 256=true by rw [Nat.blt_eq];exact h n (by simp)]
  exact X (fun x M=>h x (by simp [M])) _
variable {w:List Nat}
theorem ztD {x:V} (h:x∈u8s w):x≠.bad:=by
 obtain ⟨n,_,rfl⟩:=kau.1 h;exact qG _ _
variable {v:V}
theorem zy0 (h:Sl s 1 v) (f:qm v=w.length) (hB:zxB w) (X:∀ j,j<w.length→qg s v j=iv .u8 (w.getD j 0:Nat)) (c:V→Go.Ev.A):jJ v s c=c (.str w):=by
 have nil:qm v=0→w=[]:=fun e=>kap.1 (f.symm.trans e)
 have key:∀ a x o len l n el D W f1 f2,len=w.length→Tr.get B.none a s.h=.row l n el D W f1 f2→l.length=n→jV n D W x (o+len*1)=true→(∀ j,j<w.length→l.getD (o+j) .bad=iv .u8 (w.getD j 0:Nat))→zM s a x o len (fun l=>jW l fun b=>c (.str b))=c (.str w):=by
  rintro a x o len l n el D W f1 f2 rfl I J Q K
  rw [kaz] at Q
  have g:o+w.length≤l.length:=by
   rcases ql.1 Q with h | h<;>omega
  unfold zM
  rw [qb,I]
  show (Bool.rec (motive:=fun _=>Go.Ev.A) _ _ (jV n D W x (Nat.add o w.length)):Go.Ev.A)=_
  rw [show jV n D W x (Nat.add o w.length)=true from Q]
  show zem o l _=_
  rw [jY]
  show zil w.length _ _=_
  have e:(l.drop o).take w.length=u8s w:=by
   apply kaL
   intro i
   unfold u8s
   by_cases hi:i<w.length
   ·have:=K i hi
    rw [kaa,kab (by omega)] at this
    rw [List.getElem?_take,if_pos hi,List.getElem?_drop,kab (by omega)]
    simp only [Option.getD_some] at this
    rw [this]
    simp [hi]
   ·rw [List.getElem?_take,if_neg hi];simp [hi]
  rw [zez _ _ _ (by rw [e];exact fun x M=>ztD M),e]
  exact zkz w hB _
 rcases h with (rfl | ⟨N,rfl⟩) | ⟨a,x,o,len,⟨cap,rfl,_⟩ | ⟨e,rfl⟩,_,l,n,el,D,W,f1,f2,I,J,Q⟩
 ·rw [nil rfl];rfl
 ·rw [nil rfl];rfl
 ·exact key a x o len l n el D W f1 f2 f I J Q fun j G=>by simpa [qg,I,yR] using X j G
 ·exact key a x o len l n el D W f1 f2 f I J Q fun j G=>by simpa [qg,I,yR] using X j G
theorem zAm (A:Go.Ev.K) {n:Nat} (h:n≤24) (c:V→Go.Ev.A):ze8 1 24 (.ptr A 0 0) none (some (iv .i64 (n:Int))) none c=c (.sl A 0 0 n 24):=by
 show jm 1 A 0 0 24 24 none (some (iv .i64 (n:Int))) none c=_
 unfold jm
 rw [show ∀ f:Nat→Go.Ev.A,qw none 0 f=f 0 from fun f=>rfl,show ∀ f:Nat→Go.Ev.A,qw (some (iv .i64 (n:Int))) 24 f=f n from fun f=>bnd.run (.inr ⟨.i64,rfl⟩) f]
 show (Bool.rec (motive:=fun _=>Go.Ev.A) _ _ (zB (Nat.ble 0 n) (zB (Nat.ble n 24) true)):Go.Ev.A)=_
 rw [kah (Nat.zero_le _),kah h]
 show fN (Nat.sub n 0) _=_
 rw [zE];rfl
noncomputable def KG:Nat→Ct
 | 317=>ctI (X:=Nat) (fun n a s=>a=[uv n,iv .i64 10]∧n<4294967296∧yd s) (fun n s v U=>Ext s U∧v=.str (wG n))
 | 295=>ctI (X:=Nat) (fun n a s=>a=[uv n,iv .i64 10]∧n<4294967296∧yd s) (fun n s v U=>Ext s U∧v=.str (wG n))
 | f=>KF f
theorem zxe:∀ (k n:Nat),∀ b∈ds k n,b<256
 | 0,_,_,h=>by cases h
 | k+1,n,b,h=>by
  rcases kaq.1 h with h | h
  ·exact zxe k _ b h
  ·rw [kak] at h;omega
theorem zym:zo Tryz.prog KG 317:=by
 have d:=zk (zh (L:=noL) (show zo Tryz.prog KG 119 from zwq)) (X:=Nat) rfl
 have J:=zk (zh (L:=noL) (show zo Tryz.prog KG 120 from zuQ)) (X:=Nat) rfl
 have t:=zk (zh (L:=noL) (show zo Tryz.prog KG 121 from zw5)) (X:=Go.Ev.K × Nat × Nat × Nat × List V) rfl
 refine zr (L:=noL) zt (K:=KG) (X:=Nat) rfl ?_
 rintro n a s ⟨rfl,o,v⟩
 generalize Rk Tryz.prog _ _=r at d J t ⊢
 by_cases h:n<100
 ·obtain ⟨_,s,T,rfl,rfl⟩:=d n _ s ⟨rfl,h⟩
  have cv:∀ c:V→Go.Ev.A,zW .i64 (uv n) c=c (iv .i64 (n:Int)):=fun c=>yM .i64 .u64 (by show n<9223372036854775808;omega) c
  have u:((n:Int)<100)=True:=eq_true (by omega)
  refine ⟨_,s,?_,Ext.refl s,rfl⟩
  simp -implicitDefEqProofs [zo7,u,cv,T]
 ·have u:((n:Int)<100)=False:=eq_false (by omega)
  obtain ⟨z,hz⟩:∃ z,List.replicate 24 (iv .u8 0)=z:=⟨_,rfl⟩
  have I:z.length=24:=by rw [←hz];simp
  have l:∀ (c:Go.Ev.K→Nat→S→Go.Ev.A),Go.Ev.newRow s 168 z false c=c s.nx 24 (zY s (.row z 24 168 false 0 0 0)):=fun c=>by rw [zU,I]
  have w:=yc s (.row z 24 168 false 0 0 0)
  have Q:Tr.get B.none s.nx (zY s (.row z 24 168 false 0 0 0)).h=.row z 24 168 false 0 0 0:=qQ s _
  have H:s.nx.toNat<(zY s (.row z 24 168 false 0 0 0)).nx.toNat:=by show _<s.nx.succ.toNat;rw [K.toNat_succ];omega
  simp only [List.reduceReplicate] at hz
  generalize zY s (.row z 24 168 false 0 0 0)=s1 at *
  obtain ⟨_,s1,T,rfl,rfl⟩:=J n _ s1 ⟨rfl,by omega,o,v.ext w⟩
  obtain ⟨O,M,-,C⟩:=zBw (show 0<n by omega) o
  obtain ⟨y,W,D,Z,R,U,i,E,F⟩:=t (s.nx,nd n,24,n,z) _ s1 ⟨rfl,Q,I,by omega,o,C⟩
  have sl:=fun c=>zAm s.nx (show nd n≤24 by omega) c
  have f:s.nx.toNat<W.nx.toNat:=by rw [U];exact H
  have st:∀ c:V→Go.Ev.A,jJ (.sl s.nx 0 0 (nd n) 24) W c=c (.str (wG n)):=fun c=>by
   rw [←zAL (by omega) o]
   refine zy0 (.inr ⟨s.nx,0,0,nd n,.inl ⟨24,rfl,by omega⟩,f,Z,24,168,false,0,0,0,R,E,ql.2 (.inr ⟨rfl,by omega⟩)⟩) (zhv _ _).symm (zxe _ _) (fun j G=>?_) c
   rw [zhv] at G
   show (yR (Tr.get B.none s.nx W.h)).getD (0+j) .bad=_
   rw [R,kas]
   exact F j G
  refine ⟨_,W,?_,⟨by omega,fun c g=>?_⟩,rfl⟩
  ·simp -implicitDefEqProofs [zo7,u,hz,l,T,sl,D,st]
  ·rw [i c (fun e=>by rw [e] at g;omega),w.get c g]
theorem zx4:zo Tryz.prog KG 295:=by
 have P:=zk (zh (L:=noL) zym) (X:=Nat) rfl
 refine zr (L:=noL) zt (K:=KG) (X:=Nat) rfl ?_
 rintro n a s ⟨rfl,o,v⟩
 generalize Rk Tryz.prog _ _=r at P ⊢
 obtain ⟨_,s1,T,E,rfl⟩:=P n _ s ⟨rfl,o,v⟩
 refine ⟨_,s1,?_,E,rfl⟩
 simp -implicitDefEqProofs [zw8,T]
theorem zEn (s:S):∀ c:Nat,c≤9→(run zf 9).call 296 [.str [48],iv .i64 (c:Int)] s=.ret (.str (List.replicate c 48)) s
 | 0,_=>by kernel_rfl
 | 1,_=>by kernel_rfl
 | 2,_=>by kernel_rfl
 | 3,_=>by kernel_rfl
 | 4,_=>by kernel_rfl
 | 5,_=>by kernel_rfl
 | 6,_=>by kernel_rfl
 | 7,_=>by kernel_rfl
 | 8,_=>by kernel_rfl
 | 9,_=>by kernel_rfl
def bs (w:List Nat):List (List V):=w.map fun n:Nat=>[iv .u8 (n:Int)]
theorem zkI (w:List Nat):(bs w).length=w.length:=kaH _
theorem zt9 (w:List Nat):(bs w).flatten=u8s w:=by
 induction w with
 | nil=>rfl
 | cons a w X=>show [_]++(bs w).flatten=_;rw [X];rfl
def Bld (b s:S) (p:V) (w:List Nat):Prop:=∃ a M buf,p=.ptr a 0 0∧b.nx.toNat≤a.toNat∧a.toNat<s.nx.toNat∧Tr.get B.none a s.h=.row [M,buf] 2 82 false 0 0 0∧(M=.nil 0∨M=p)∧Gz 5 1 b s buf (bs w)
theorem Bld.ext {b:S} {p:V} (h:Bld b s p w) (e:Ext s U):Bld b U p w:=by
 obtain ⟨a,M,buf,rfl,I,J,Q,K,d⟩:=h
 exact ⟨a,M,buf,rfl,I,kan J e.nx,(e.get a J).trans Q,K,d.ext e⟩
theorem ziY {b:S} {l:List (List V)} (h:Gz el sz b s v l):v≠.bad∧(∀ c:List V→Go.Ev.A,zg 1 v c=c [v])∧yT v v=true:=by
 rcases h with ⟨rfl,-⟩ | ⟨a,W,rfl,-⟩
 ·exact ⟨(fun h=>by cases h),fun _=>rfl,rfl⟩
 ·refine ⟨(fun h=>by cases h),fun _=>rfl,?_⟩
  show zB (K.beq a a) (zB (Nat.beq _ _) (zB (Nat.beq 0 0) (zB (Nat.beq _ _) (Nat.beq 0 0))))=true
  simp only [zaK,kaF];rfl
theorem ju {a:Go.Ev.K} {b:B} (h:Ext s U) (l:s.nx.toNat≤a.toNat):Ext s (yI U a b) :=
 ⟨h.nx,fun x M=>by rw [z9,if_neg (fun e=>by rw [e] at M;omega)];exact h.get x M⟩
theorem Bld.set {b:S} {a:Go.Ev.K} {M buf c1 P:V} (I:b.nx.toNat≤a.toNat) (J:a.toNat<s.nx.toNat) (Q:Tr.get B.none a s.h=.row [M,buf] 2 82 false 0 0 0) (X:c1=.nil 0∨c1=.ptr a 0 0) (E:Gz 5 1 b s P (bs w)) (Y:Ext b s) :
  Bld b (yI s a (.row [c1,P] 2 82 false 0 0 0)) (.ptr a 0 0) w∧Ext b (yI s a (.row [c1,P] 2 82 false 0 0 0)) :=
 ⟨⟨a,c1,P,rfl,I,J,by rw [z9,if_pos rfl],X,E.keep (kad _) fun c X=>by
  rw [z9,if_neg]
  rintro rfl
  rcases E with ⟨rfl,-⟩ | ⟨x,W,rfl,-,-,-,O,-⟩
  ·cases X
  ·cases X;rw [Q] at O;exact absurd (B.row.inj O).2.2.1 (by decide)⟩,ju Y I⟩
noncomputable def KH:Nat→Ct
 | 64=>ctI (X:=S × V × List Nat) (fun ⟨b,p,w⟩ a s=>a=[p]∧Bld b s p w∧Ext b s) (fun ⟨b,p,w⟩ _ _ U=>Bld b U p w∧Ext b U)
 | 41=>ctI (X:=S × V × List Nat × List Nat) (fun ⟨b,p,w,l⟩ a s=>a=[p,.str l]∧Bld b s p w∧Ext b s∧w.length+l.length≤68719476736) (fun ⟨b,p,w,l⟩ _ _ U=>Bld b U p (w++l)∧Ext b U)
 | 43=>ctI (X:=S × V × List Nat) (fun ⟨b,p,w⟩ a s=>a=[p]∧Bld b s p w∧Ext b s∧zxB w∧w.length≤68719476736) (fun ⟨b,_,w⟩ _ v U=>Ext b U∧v=.str w)
 | f=>KG f
theorem zu3:zo Tryz.prog KH 64:=by
 refine zr (L:=noL) zt (K:=KH) (X:=S × V × List Nat) rfl ?_
 rintro ⟨b,p,w⟩ a0 s ⟨rfl,⟨a,M,buf,Z,I,J,Q,g,O⟩,Y⟩
 subst Z
 generalize Rk Tryz.prog _ _=r
 rcases g with rfl | rfl
 ·have f:∀ k:V→S→Go.Ev.A,zd false 1 (.ptr a 0 0) s k=k (.nil 0) s:=jy Q 0 rfl (by omega) (fun h=>by cases h)
  have C:=fun k=>js Q 0 (.ptr a 0 0) (zrt a 0 0) (by omega) k
  rw [show upd [V.ptr a 0 0] 0 [V.nil 0,buf]=[.ptr a 0 0,buf] from rfl] at C
  have F:∀ k:V→S→Go.Ev.A,zaT (.ptr a 0 0) s k=k (.ptr a 0 0) s:=fun k=>by
   show qk s a _=_
   rw [qb,Q];rfl
  have P:∀ k:V→S→Go.Ev.A,zaL 82 2 (.ptr a 0 0) s k=k (.ptr a 0 0) s:=fun k=>by
   show qk s a _=_
   rw [qb,Q];rfl
  have D:∀ k:V→S→Go.Ev.A,zlq 0 [.ptr a 0 0] s k=k (.ptr a 0 0) s:=fun k=>rfl
  refine ⟨.ls 1 [],yI s a (.row [.ptr a 0 0,buf] 2 82 false 0 0 0),?_,Bld.set I J Q (.inr rfl) O Y⟩
  simp -implicitDefEqProofs [zmP,f,zpE,F,P,D,C]
 ·have f:∀ k:V→S→Go.Ev.A,zd false 1 (.ptr a 0 0) s k=k (.ptr a 0 0) s:=jy Q 0 rfl (by omega) (fun h=>by cases h)
  have F:∀ c:V→Go.Ev.A,zdc ⟨1,[]⟩ true (.ptr a 0 0) (.ptr a 0 0) s c=c (.bool false):=fun c=>by
   unfold zdc
   simp only [zaK]
   show zfm ⟨1,[]⟩ false true (.ptr a 0 0) (.ptr a 0 0) c=_
   unfold zfm
   rw [show eqV ⟨1,[]⟩ false (.ptr a 0 0) (.ptr a 0 0)=some true from by
    show (@Bool.rec (fun _=>Option Bool) none (some (Nat.beq 0 0)) (zB (K.beq a a) (Nat.beq 0 0)):Option Bool)=_
    rw [zaK];rfl]
   rfl
  refine ⟨.ls 1 [],s,?_,⟨a,_,buf,rfl,I,J,Q,.inr rfl,O⟩,Y⟩
  simp -implicitDefEqProofs [zmP,f,zoJ,F]
theorem zvJ:zo Tryz.prog KH 41:=by
 have d:=zk (zh (L:=noL) zu3) (X:=S × V × List Nat) rfl
 refine zr (L:=noL) zt (K:=KH) (X:=S × V × List Nat × List Nat) rfl ?_
 rintro ⟨b,p,w,l⟩ a0 s ⟨rfl,hB,Y,u⟩
 generalize Rk Tryz.prog _ _=r at d ⊢
 obtain ⟨y,s1,T,⟨a,N,buf,rfl,I,J,Q,g,E⟩,R⟩:=d (b,p,w) _ s ⟨rfl,hB,Y⟩
 have f:∀ k:V→S→Go.Ev.A,zd false 1 (.ptr a 0 1) s1 k=k buf s1:=jy Q 1 rfl (by omega) (ziY E).1
 obtain ⟨P,W,ap,i,H,F,-⟩:=E.append R.nx Nat.one_pos (bs l) (fun x M=>by obtain ⟨n,-,rfl⟩:=kau.1 M;rfl) (by rw [zkI,zkI];exact u)
 have U:∀ k:V→S→Go.Ev.A,zN 5 1 buf (.str l) s1 k=k P W:=fun k=>by
  have h:=ap k
  rw [zkI,zt9] at h
  show zjK l (fun Z=>zdv l fun n=>zbP 5 1 buf n Z s1 k)=_
  rw [zin,yy]
  exact h
 have j:=(F a J (fun hb=>by
  rcases E with ⟨rfl,-⟩ | ⟨x,G,rfl,-,-,-,O,-⟩
  ·cases hb
  ·cases hb;rw [Q] at O;exact absurd (B.row.inj O).2.2.1 (by decide))).trans Q
 have e:Ext b W:=za2 R H (D:=fun c=>qi buf=some c) F fun c g=>(E.blk g).1
 have C:=fun k=>js j 1 P (ziY i).2.1 (by omega) k
 rw [show upd [P] 1 [N,buf]=[N,P] from rfl] at C
 refine ⟨.ls 1 [iv .i64 (l.length:Int),.nil 4],yI W a (.row [N,P] 2 82 false 0 0 0),?_,Bld.set I (kan J H) j g (by unfold bs at i ⊢;rw [kaN];exact i) e⟩
 simp -implicitDefEqProofs [zvi,T,f,U,C,yE]
theorem zrx:zo Tryz.prog KH 43:=by
 refine zr (L:=noL) zt (K:=KH) (X:=S × V × List Nat) rfl ?_
 rintro ⟨b,p,w⟩ a0 s ⟨rfl,⟨a,M,buf,Z,I,J,Q,-,O⟩,Y,hB,j⟩
 subst Z
 generalize Rk Tryz.prog _ _=r
 have f:∀ k:V→S→Go.Ev.A,zd false 1 (.ptr a 0 1) s k=k buf s:=jy Q 1 rfl (by omega) (ziY O).1
 have D:=(ziY O).2.2
 have o:∀ c:V→Go.Ev.A,zm buf c=c (iv .i64 (w.length:Int)):=fun c=>by rw [O.len,zkI]
 have G:yT (iv .i64 (w.length:Int)) (iv .i64 (w.length:Int))=true:=by
  show zB (qO .i64 .i64) (Nat.beq w.length w.length)=true
  rw [kaF];rfl
 suffices h:∃ q U,(∀ c:V→Go.Ev.A,jL buf c=c q)∧(∀ k:V→S→Go.Ev.A,zqW 5 q (iv .i64 (w.length:Int)) s k=k (.str w) U)∧Ext b U by
  obtain ⟨q,U,R,C,g⟩:=h
  refine ⟨_,U,?_,g,rfl⟩
  simp -implicitDefEqProofs [zry,f,o,R,C,D,G]
 rcases O with ⟨rfl,h⟩ | ⟨x,W,rfl,R,C,g,E,F⟩
 ·obtain rfl:w=[]:=by simpa [bs] using h
  exact ⟨.nil 0,s,fun c=>rfl,fun k=>rfl,Y⟩
 ·rw [zt9] at E
  rw [zkI,kaz] at g E ⊢
  have z:Nat.beq w.length 0=false:=by
   cases e:Nat.beq w.length 0 with
   | true=>have:=kac e;omega
   | false=>rfl
  refine ⟨.ptr x w.length 0,yI s x (.row (u8s w) w.length 5 true W 0 w.length),fun c=>?_,fun k=>?_,ju Y R⟩
  ·show (Bool.rec (motive:=fun _=>Go.Ev.A) (c (.ptr x w.length 0)) eA (Nat.beq w.length 0):Go.Ev.A)=_
   rw [z]
  ·show (Bool.rec (motive:=fun _=>Go.Ev.A) _ _ (Nat.ble w.length 9223372036854775807):Go.Ev.A)=_
   rw [kah (by omega)]
   show (Bool.rec (motive:=fun _=>Go.Ev.A) _ _ (Nat.beq w.length 0):Go.Ev.A)=_
   rw [z]
   show qk s x _=_
   rw [qb,E]
   show zM s x w.length 0 w.length _=_
   unfold zM
   rw [qb,E]
   show (Bool.rec (motive:=fun _=>Go.Ev.A) _ _ (jV w.length true W w.length (Nat.add 0 w.length)):Go.Ev.A)=_
   rw [show jV w.length true W w.length (Nat.add 0 w.length)=true from ql.2 (.inl ⟨rfl,g.2,kad _,by show 0+w.length≤_;omega⟩)]
   show zem 0 (u8s w) _=_
   rw [jY]
   show zil w.length (u8s w) _=_
   rw [zez _ _ _ (fun y hy=>ztD (List.mem_of_mem_take hy)),List.take_of_length_le (by simp [u8s]),zkz w hB]
   show fN (Nat.add 0 w.length) _=_
   rw [zE,show Nat.add 0 w.length=w.length from kas _]
   show wV s x _ _=_
   rw [ym];rfl
def TxX.post (xs:List Nat) (s:S) (v:V) (U:S):Prop:=Ext s U∧∃ t,v=.str t∧jw t∧t.length≤9*xs.length+1
noncomputable def KI:Nat→Ct
 | 296=>ctI (X:=Nat) (fun c a _=>a=[.str [48],iv .i64 (c:Int)]∧c≤9) (fun c s v U=>U=s∧v=.str (List.replicate c 48))
 | 259=>ctI (X:=V × List Nat) (fun ⟨v,xs⟩ a s=>a=[v]∧Nu s v xs∧Bl xs∧trimL xs=xs∧xs.length≤Mx∧yd s) (fun ⟨_,xs⟩ s v U=>TxX.post xs s v U)
 | f=>KH f
theorem zEd (n:Nat):RS Tryz.prog zf (run zf n):=znH zt n
theorem zvd:zo Tryz.prog KI 296:=by
 rintro a s ⟨c,rfl,X⟩
 refine ⟨_,s,(zEd 9).call _ _ _ _ _ (zEn s c X),?_⟩
 rintro d ⟨h,-⟩
 have J:=znU (List.cons.inj (List.cons.inj h).2).1
 obtain rfl:c=d:=by omega
 exact ⟨rfl,rfl⟩
structure TlX where
 v:V
 xs:List Nat
 b:S
def TlX.base (c:TlX):Prop:=Nu c.b c.v c.xs∧Bl c.xs∧trimL c.xs=c.xs∧c.xs.length≤Mx∧yd c.b
def TlX.inv (b s:S) (p:V) (i:Nat) (w:List Nat):Prop:=Ext b s∧Bld b s p w∧w.length≤9*i∧Dig w∧(0<i→w≠[]∧w.getD 0 0≠48)
def TlX.pre (c:TlX) (tm:T) (s:S):Prop:=c.base∧(gp 0 tm=c.v∧gp 7 tm=iv .i64 (c.xs.length:Int)∧gp 240 tm=.bad)∧∃ i w,i≤c.xs.length∧gp 8 tm=iv .i64 (i:Int)∧TlX.inv c.b s (gp 3 tm) i w
def TlX.post (c:TlX) (a:Go.Ev.A):Prop:=∃ N s w,a=.ext 0 N s∧gp 240 N=.bad∧TlX.inv c.b s (gp 3 N) c.xs.length w
abbrev LT:Nat→Lt:=fun _=>ltI TlX.pre TlX.post
theorem zCd:∀ (c:TlX) tm s,c.pre tm s→c.post (zcv.run (Rk Tryz.prog KI LT) tm s):=by
 have ai:=zk (zh (L:=LT) zvd) (X:=Nat) rfl
 have aj:=zk (zh (L:=LT) (show zo Tryz.prog KI 295 from zx4)) (X:=Nat) rfl
 have aa:=zk (zh (L:=LT) (show zo Tryz.prog KI 41 from zvJ)) (X:=S × V × List Nat × List Nat) rfl
 refine zL (L:=LT) zt zrU rfl (fun tm _=>(toI (gp 7 tm)).toNat - (toI (gp 8 tm)).toNat) (fun x a ⟨_,_,_,h,_⟩=>by rw [h];exact fun h=>h) ?_
 rintro ⟨v,xs,b⟩ tm s ⟨hB,⟨h0,g,N⟩,i,w,hi,R,Y,hb,H,u,hh⟩ J
 show TlX.post _ (zcv.run _ tm _)
 generalize Rk Tryz.prog _ _=r at J ai aj aa ⊢
 obtain ⟨M,bx,tx,lx,hT⟩:=id hB
 simp only at M bx tx lx hT h0 g hi Y hb
 have aB:Mx=1000000:=rfl
 by_cases O:i<xs.length
 ·obtain ⟨m,Q⟩:∃ m,m+i+1=xs.length:=⟨xs.length - 1 - i,by omega⟩
  have ak:=wD M Y
  have al:∀ c:V→Go.Ev.A,zm v c=c (iv .i64 (xs.length:Int)):=fun c=>qS ak c
  obtain ⟨p,Z,K⟩:=zak ak (show m<xs.length by omega)
  have w1:IntKind.i64.wrap ((xs.length:Int) - 1)=((m+i:Nat):Int):=w64
  have w2:IntKind.i64.wrap (m:Int)=(m:Int):=w64
  have E:IntKind.i64.wrap ((i:Int)+1)=((i+1:Nat):Int):=w64
  have ar:=jN bx m
  have au:i=0→0<xs.getD m 0:=fun h=>(top_of (B:=1000000000) (by decide) bx (show xs.length=m+1 by omega) tx).1
  generalize xs.getD m 0=x at *
  obtain ⟨_,s1,T,j,rfl⟩:=aj x _ s ⟨rfl,by omega,hT.ext Y⟩
  have aC:=zze (k:=8) ar
  have an:Dig (wG x):=zwH x
  have C:=ztV x
  have av:=fun h=>zv2 (n:=x) h
  generalize wG x=t at *
  generalize ad:gp 3 tm=p3 at *
  have next:∀ F U w',TlX.inv b U p3 (i+1) w'→(gp 0 F=v∧gp 7 F=iv .i64 (xs.length:Int)∧gp 240 F=.bad∧gp 8 F=iv .i64 ((i+1:Nat):Int)∧gp 3 F=p3)→TlX.post ⟨v,xs,b⟩ (r.code ziX zeG F U):=fun F U w' P ⟨k0,k7,G,k8,k3⟩ =>
   J ⟨v,xs,b⟩ F U (by rw [k7,k8,g,R,zp,zp,zp];omega) ⟨hB,⟨k0,k7,G⟩,i+1,w',O,k8,by rw [k3];exact P⟩
  have l:((i:Int)<(xs.length:Int))=True:=eq_true (by omega)
  by_cases aw:i=0
  ·have ae:(0<i)=False:=eq_false (by omega)
   obtain ⟨y2,W,D,ah,f⟩:=aa (b,p3,w,t) _ s1 ⟨rfl,hb.ext j,Y.trans j,by omega⟩
   obtain rfl:w=[]:=kap.1 (by omega)
   simp -implicitDefEqProofs [zfy,h0,g,R,l,al,w1,w2,E,Z,K,T,D,ad,ae]
   refine next _ W t ⟨f,ah,by omega,an,fun _=>⟨C,av (au aw)⟩⟩ ?_
   simp [h0,g,N,ad]
  ·have ae:(0<i)=True:=eq_true (by omega)
   obtain ⟨z,hz⟩:∃ z,z+t.length=9:=⟨9 - t.length,by omega⟩
   have w4:IntKind.i64.wrap (9 - (t.length:Int))=(z:Int):=w64
   have ao:=yE t
   obtain ⟨_,ax,o,rfl,rfl⟩:=ai z _ s1 ⟨rfl,by omega⟩
   obtain ⟨y2,W,D,ah,f⟩:=aa (b,p3,w,List.replicate z 48) _ ax ⟨rfl,hb.ext j,Y.trans j,by rw [List.length_replicate];omega⟩
   obtain ⟨y4,I,e,ay,y⟩:=aa (b,p3,w++List.replicate z 48,t) _ W ⟨rfl,ah,f,by rw [kae,List.length_replicate];omega⟩
   obtain ⟨aq,az⟩:=hh (by omega)
   simp -implicitDefEqProofs [zfy,h0,g,R,l,al,w1,w2,E,w4,Z,K,T,D,o,e,ad,ae,ao]
   refine next _ I (w++List.replicate z 48++t) ⟨y,ay,by rw [kae,kae,List.length_replicate];omega,fun d aA=>?_,fun _=>⟨by simp [aq],?_⟩⟩ ?_
   rotate_left 2
   ·simp [h0,g,N,ad]
   ·rcases kaq.1 aA with h | h
    ·rcases kaq.1 h with h | h
     ·exact u d h
     ·rw [(List.mem_replicate.1 h).2];decide
    ·exact an d h
   ·rw [kaG,kaa,kar (List.length_pos_iff.2 aq),←kaa]
    exact az
 ·obtain rfl:i=xs.length:=by omega
  simp -implicitDefEqProofs [zfy,g,R]
  exact ⟨_,s,w,rfl,by simp [N],Y,by simpa using hb,H,u,hh⟩
theorem zoh:zo Tryz.prog KI 259:=by
 have e:=zCd
 have E:=zk (zh (L:=LT) (show zo Tryz.prog KI 43 from zrx)) (X:=S × V × List Nat) rfl
 refine zr (L:=LT) zt (K:=KI) (X:=V × List Nat) rfl ?_
 rintro ⟨v,xs⟩ a s ⟨rfl,M,bx,tx,n,C⟩
 generalize Rk Tryz.prog _ _=r at e E ⊢
 have k:Mx=1000000:=rfl
 have R:∀ c:V→Go.Ev.A,zm v c=c (iv .i64 (xs.length:Int)):=fun c=>qS M c
 by_cases h0:xs=[]
 ·subst h0
  refine ⟨.str [48],s,?_,Ext.refl s,[48],rfl,⟨by simp,by simp,by simp⟩,by simp⟩
  simp -implicitDefEqProofs [zdN,R]
 ·have i:0<xs.length:=List.length_pos_iff.2 h0
  have hz:((xs.length:Int)=0)=False:=eq_false (by omega)
  have t:∀ (c:Go.Ev.K→Nat→S→Go.Ev.A),Go.Ev.newRow s 82 [.nil 0,.nil 1] false c=c s.nx 2 (zY s (.row [.nil 0,.nil 1] 2 82 false 0 0 0)):=fun c=>zU s 82 _ false c
  generalize g:(fnC zf 259).run r _ _=D
  simp -implicitDefEqProofs [zdN,R,h0,t] at g
  have j:=yc s (.row [.nil 0,.nil 1] 2 82 false 0 0 0)
  have H:Bld s (zY s (.row [.nil 0,.nil 1] 2 82 false 0 0 0)) (.ptr s.nx 0 0) []:=⟨s.nx,.nil 0,.nil 1,rfl,kad _,by show s.nx.toNat<s.nx.succ.toNat;rw [K.toNat_succ];omega,qQ _ _,.inl rfl,.inl ⟨rfl,rfl⟩⟩
  generalize zY s (.row [.nil 0,.nil 1] 2 82 false 0 0 0)=s1 at *
  generalize f:zcv.run r _ s1=U at g
  obtain ⟨N,W,w,rfl,G,Y,hb,F,u,y⟩:=f▸e ⟨v,xs,s⟩ _ s1 ⟨⟨M,bx,tx,n,C⟩,⟨by simp,by simp,by simp⟩,0,[],Nat.zero_le _,by simp,j,by simpa using H,kad _,(fun _ h=>by cases h),fun h=>absurd h (Nat.lt_irrefl _)⟩
  simp only at Y hb F y
  obtain ⟨_,I,o,J,rfl⟩:=E (s,gp 3 N,w) _ W ⟨rfl,hb,Y,fun d h=>by have:=u d h;omega,by omega⟩
  simp -implicitDefEqProofs [G,o] at g
  exact ⟨_,I,g.symm,J,w,rfl,⟨(y i).1,fun _=>(y i).2,u⟩,by omega⟩
def Nt (s:S) (v:V) (xs:List Nat):Prop:=Nu s v xs∧Bl xs∧trimL xs=xs
variable {xs:List Nat}
theorem Nt.ext (h:Nt s v xs) (e:Ext s U):Nt U v xs:=⟨wD h.1 e,h.2⟩
def Nz (n:Nat) (l:List Nat):Prop:=zaq l=true∧l.length≤n
def TxP (n:Nat) (s:S) (v:V) (U:S):Prop:=Ext s U∧∃ t,v=.ls 1 [.str t,iv .i64 0]∧Nz n t
noncomputable def KJ:Nat→Ct
 | 260=>ctI (X:=V × V × List Nat × List Nat) (fun ⟨x,y,xs,ys⟩ a s=>a=[x,y]∧Nt s x xs∧Nt s y ys∧xs.length≤105∧ys.length≤105) (fun ⟨_,_,xs,ys⟩ s v U=>Ext s U∧∃ L,Nt U v L∧L.length≤max xs.length ys.length+1)
 | 262=>ctI (X:=V × V × List Nat × List Nat) (fun ⟨x,y,xs,ys⟩ a s=>a=[x,y]∧Nt s x xs∧Nt s y ys∧xs.length≤105∧ys.length≤105) (fun ⟨_,_,xs,ys⟩ s v U=>Ext s U∧∃ L,Nt U v L∧L.length≤max xs.length ys.length+1)
 | 211=>ctI (X:=V × List Nat) (fun ⟨v,xs⟩ a s=>a=[v]∧Nt s v xs∧xs.length≤110∧yd s) (fun ⟨_,xs⟩ s v U=>TxP (9*xs.length+1) s v U)
 | 207=>ctI (X:=List Nat × List Nat) (fun ⟨x,y⟩ a s=>a=[.str x,.str y]∧Nz 900 x∧Nz 900 y∧yd s) (fun _ s v U=>TxP 1000 s v U)
 | 209=>ctI (X:=List Nat × List Nat) (fun ⟨x,y⟩ a s=>a=[.str x,.str y]∧Nz 900 x∧Nz 900 y∧zS y≤zS x∧yd s) (fun _ s v U=>TxP 1000 s v U)
 | 208=>ctI (X:=List Nat × List Nat) (fun ⟨x,y⟩ a _=>a=[.str x,.str y]∧Nz 900 x∧Nz 900 y) (fun ⟨x,y⟩ s v U=>Ext s U∧v=iv .i64 (cmpZ (zS x:Nat) (zS y:Nat)))
 | f=>KI f
theorem znw {b:S} {V0:V} (hz:Gz 169 1 b s V0 (us L)) (A:Bl L):Nt s (shr V0 (trimL L).length) (trimL L)∧(trimL L).length≤L.length:=by
 obtain ⟨w,P,-,C⟩:=trim_take L
 have I:=zb0 (zgQ hz).1 w
 rw [P] at I
 exact ⟨⟨I,trim_lt A,C⟩,w⟩
theorem zzS:zo Tryz.prog KJ 260:=by
 have Y:=zk (zh (L:=noL) (show zo Tryz.prog KJ 297 from zn8)) (X:=EaX) rfl
 refine zr (L:=noL) zt (K:=KJ) (X:=V × V × List Nat × List Nat) rfl ?_
 rintro ⟨x,y,xs,ys⟩ a s ⟨rfl,M,hy,n,k⟩
 generalize Rk Tryz.prog _ _=r at Y ⊢
 obtain ⟨_,s1,T,j,V0,L,e,A,hz,rfl⟩:=Y ⟨x,y,.fn (.func 298) [] [],xs,ys,plG,2,s⟩ _ s ⟨rfl,rfl,⟨M.1,hy.1⟩,⟨M.2.1,hy.2.1⟩,by show max xs.length ys.length+1≤2*1000000;omega,.inr (.inl ⟨rfl,rfl,rfl⟩)⟩
 have f:L.length=max xs.length ys.length+1:=by rw [e,zct];rfl
 refine ⟨_,s1,?_,j,_,(znw hz A).1,by have:=(znw hz A).2;show _≤max xs.length ys.length+1;omega⟩
 simp -implicitDefEqProofs [zwf,T]
theorem zws:zo Tryz.prog KJ 262:=by
 have Y:=zk (zh (L:=noL) (show zo Tryz.prog KJ 297 from zn8)) (X:=EaX) rfl
 refine zr (L:=noL) zt (K:=KJ) (X:=V × V × List Nat × List Nat) rfl ?_
 rintro ⟨x,y,xs,ys⟩ a s ⟨rfl,M,hy,n,k⟩
 generalize Rk Tryz.prog _ _=r at Y ⊢
 obtain ⟨_,s1,T,j,V0,L,e,A,hz,rfl⟩:=Y ⟨x,y,.fn (.func 300) [] [],xs,ys,miG,2,s⟩ _ s ⟨rfl,rfl,⟨M.1,hy.1⟩,⟨M.2.1,hy.2.1⟩,by show max xs.length ys.length+1≤2*1000000;omega,.inr (.inr ⟨rfl,rfl,rfl⟩)⟩
 have f:L.length=max xs.length ys.length+1:=by rw [e,zct];rfl
 refine ⟨_,s1,?_,j,_,(znw hz A).1,by have:=(znw hz A).2;show _≤max xs.length ys.length+1;omega⟩
 simp -implicitDefEqProofs [zzt,T]
theorem zya:zo Tryz.prog KJ 211:=by
 have v:=zk (zh (L:=noL) (show zo Tryz.prog KJ 259 from zoh)) (X:=V × List Nat) rfl
 refine zr (L:=noL) zt (K:=KJ) (X:=V × List Nat) rfl ?_
 rintro ⟨x,xs⟩ a s ⟨rfl,M,n,F⟩
 generalize Rk Tryz.prog _ _=r at v ⊢
 obtain ⟨_,s1,T,j,t,rfl,A,lt⟩:=v (x,xs) _ s ⟨rfl,M.1,M.2.1,M.2.2,by show _≤1000000;omega,F⟩
 have Q:((1000:Int)<(t.length:Int))=False:=eq_false (by omega)
 have o:=yE t
 refine ⟨_,s1,?_,j,t,rfl,znF A (by omega),lt⟩
 simp -implicitDefEqProofs [zAn,T,o,Q]
theorem wR {r:R} (h:∀ (x:List Nat) (a:List V) (s:S),a=[V.str x]∧Dig x∧x.length≤1000→∃ v U,r.call 210 a s=F.ret v U∧Ext s U∧∃ xs,Nu U v xs∧Bl xs∧trimL xs=xs∧xs.length≤Mx∧val 1000000000 xs=zS x) {n:Nat} {x:List Nat} (M:Nz n x) (s:S) :
  ∃ v U xs,r.call 210 [.str x] s=.ret v U∧Ext s U∧Nt U v xs∧val 1000000000 xs=zS x∧9*xs.length≤n+8:=by
 obtain ⟨c1,c2⟩:=zbo M.1
 obtain ⟨v,U,e,E,xs,I,J,Q,-,d⟩:=h x _ s ⟨rfl,c1.2.2,c2⟩
 refine ⟨v,U,xs,e,E,⟨I,J,Q⟩,d,?_⟩
 have:=M.2
 cases f:xs.length with
 | zero=>omega
 | succ m =>
  obtain ⟨H,w,-⟩:=top_of (B:=1000000000) (by decide) J f Q
  have O:zS x<10 ^ x.length:=zeD c1.2.2
  have W:1*1000000000 ^ m≤xs.getD m 0*1000000000 ^ m:=kag _ H
  have g:(1000000000:Nat) ^ m=10 ^ (9*m):=by rw [Nat.pow_mul]
  have P:10 ^ (9*m)<10 ^ x.length:=by rw [←g];omega
  have:=(Nat.pow_lt_pow_iff_right (by decide:1<10)).1 P
  omega
abbrev X2:=List Nat × List Nat
theorem zAv:zo Tryz.prog KJ 207:=by
 have p:=zk (zh (L:=noL) (show zo Tryz.prog KJ 205 from zhj)) (X:=List Nat) rfl
 have hB:=zk (zh (L:=noL) (show zo Tryz.prog KJ 210 from zju)) (X:=List Nat) rfl
 have S:=zk (zh (L:=noL) zzS) (X:=V × V × List Nat × List Nat) rfl
 have e:=zk (zh (L:=noL) zya) (X:=V × List Nat) rfl
 refine zr (L:=noL) zt (K:=KJ) (X:=X2) rfl ?_
 rintro ⟨x,y⟩ a s ⟨rfl,M,hy,G⟩
 generalize Rk Tryz.prog _ _=r at p hB S e ⊢
 obtain ⟨_,s,T,rfl,rfl⟩:=p x _ s rfl
 obtain ⟨_,s,D,rfl,rfl⟩:=p y _ s rfl
 rw [M.1] at T
 rw [hy.1] at D
 obtain ⟨H,s1,xs,N,j,I,-,R⟩:=wR hB M s
 obtain ⟨C,W,ys,i,w,J,-,O⟩:=wR hB hy s1
 obtain ⟨v3,n,Z,u,L,Q,P⟩:=S (H,C,xs,ys) _ W ⟨rfl,I.ext w,J,by omega,by omega⟩
 have E:=(j.trans w).trans u
 obtain ⟨_,l,h,A,t,rfl,F⟩:=e (v3,L) _ n ⟨rfl,Q,by omega,G.ext E⟩
 refine ⟨_,l,?_,E.trans A,t,rfl,F.1,(zbo F.1).2⟩
 simp -implicitDefEqProofs [zAb,T,D,N,i,Z,h]
theorem zyw:zo Tryz.prog KJ 208:=by
 have p:=zk (zh (L:=noL) (show zo Tryz.prog KJ 205 from zhj)) (X:=List Nat) rfl
 have hB:=zk (zh (L:=noL) (show zo Tryz.prog KJ 210 from zju)) (X:=List Nat) rfl
 have Q:=zk (zh (L:=noL) (show zo Tryz.prog KJ 261 from zou)) (X:=V × V × List Nat × List Nat) rfl
 refine zr (L:=noL) zt (K:=KJ) (X:=X2) rfl ?_
 rintro ⟨x,y⟩ a s ⟨rfl,M,hy⟩
 generalize Rk Tryz.prog _ _=r at p hB Q ⊢
 obtain ⟨_,s,T,rfl,rfl⟩:=p x _ s rfl
 obtain ⟨_,s,D,rfl,rfl⟩:=p y _ s rfl
 rw [M.1] at T
 rw [hy.1] at D
 obtain ⟨H,s1,xs,N,w,I,j,R⟩:=wR hB M s
 obtain ⟨C,W,ys,i,f,J,d,G⟩:=wR hB hy s1
 have k:Mx=1000000:=rfl
 obtain ⟨v3,W,Z,rfl,rfl⟩:=Q (H,C,xs,ys) _ W ⟨rfl,(I.ext f).1,J.1,I.2.1,J.2.1,I.2.2,J.2.2,by omega,by omega⟩
 rw [j,d] at Z
 refine ⟨_,W,?_,w.trans f,rfl⟩
 simp -implicitDefEqProofs [zv9,T,D,N,i,Z]
theorem zzF:zo Tryz.prog KJ 209:=by
 have p:=zk (zh (L:=noL) (show zo Tryz.prog KJ 205 from zhj)) (X:=List Nat) rfl
 have hB:=zk (zh (L:=noL) (show zo Tryz.prog KJ 210 from zju)) (X:=List Nat) rfl
 have o:=zk (zh (L:=noL) (show zo Tryz.prog KJ 261 from zou)) (X:=V × V × List Nat × List Nat) rfl
 have S:=zk (zh (L:=noL) zws) (X:=V × V × List Nat × List Nat) rfl
 have v:=zk (zh (L:=noL) (show zo Tryz.prog KJ 259 from zoh)) (X:=V × List Nat) rfl
 refine zr (L:=noL) zt (K:=KJ) (X:=X2) rfl ?_
 rintro ⟨x,y⟩ a s ⟨rfl,M,hy,g,G⟩
 generalize Rk Tryz.prog _ _=r at p hB o S v ⊢
 obtain ⟨_,s,T,rfl,rfl⟩:=p x _ s rfl
 obtain ⟨_,s,D,rfl,rfl⟩:=p y _ s rfl
 rw [M.1] at T
 rw [hy.1] at D
 obtain ⟨H,s1,xs,N,w,I,j,R⟩:=wR hB M s
 obtain ⟨C,W,ys,i,f,J,d,O⟩:=wR hB hy s1
 have k:Mx=1000000:=rfl
 obtain ⟨v3,W,Z,rfl,rfl⟩:=o (H,C,xs,ys) _ W ⟨rfl,(I.ext f).1,J.1,I.2.1,J.2.1,I.2.2,J.2.2,by omega,by omega⟩
 have U:(cmpZ (val 1000000000 xs:Nat) (val 1000000000 ys:Nat)<0)=False:=eq_false (by rw [j,d];unfold cmpZ;rw [if_neg (by omega)];split<;>omega)
 obtain ⟨l,n,h,u,L,Q,l3⟩:=S (H,C,xs,ys) _ W ⟨rfl,I.ext f,J,by omega,by omega⟩
 have E:=(w.trans f).trans u
 obtain ⟨_,P,e,A,t,rfl,Y,lt⟩:=v (l,L) _ n ⟨rfl,Q.1,Q.2.1,Q.2.2,by omega,G.ext E⟩
 have F:=znF Y (by omega)
 refine ⟨_,P,?_,E.trans A,t,rfl,F,(zbo F).2⟩
 simp -implicitDefEqProofs [zAr,T,D,N,i,Z,U,h,e]
structure GcX where
 b:S
def GcX.pre (c:GcX) (tm:T) (s:S):Prop:=Ext c.b s∧gp 240 tm=.bad∧∃ xs ys,Nt s (gp 6 tm) xs∧Nt s (gp 7 tm) ys∧xs.length≤Mx∧ys.length≤Mx
def GcX.post (c:GcX) (a:Go.Ev.A):Prop:=∃ N s xs,a=.ext 0 N s∧Ext c.b s∧gp 240 N=.bad∧Nt s (gp 6 N) xs∧xs.length≤Mx
abbrev LG:Nat→Lt:=fun _=>ltI GcX.pre GcX.post
noncomputable def zB7 (s:S) (v:V):Nat:=open Classical in if h:∃ xs,Nt s v xs then val 1000000000 h.choose else 0
theorem zAH {ys:List Nat} (h:Nt s v xs) (g:Nt s v ys):xs=ys:=by
 have f:xs.length=ys.length:=h.1.2.1.symm.trans g.1.2.1
 apply List.ext_getElem f
 intro i I J
 have:=(h.1.2.2 i I).symm.trans (g.1.2.2 i J)
 have:=znU this
 rw [kaa,kaa,kab I,kab J] at this
 simp only [Option.getD_some] at this
 omega
theorem ztE (h:Nt s v xs):zB7 s v=val 1000000000 xs:=by
 unfold zB7
 have M:∃ xs,Nt s v xs:=⟨xs,h⟩
 rw [dif_pos M,zAH M.choose_spec h]
noncomputable def KL:Nat→Ct
 | 206=>ctI (X:=X2) (fun ⟨x,y⟩ a s=>a=[.str x,.str y]∧Nz 900 x∧Nz 900 y∧yd s) (fun _ s v U=>Ext s U∧∃ t,v=.ls 1 [.str t,iv .i64 0])
 | f=>KJ f
theorem zCr:∀ (c:GcX) tm s,c.pre tm s→c.post (zed.run (Rk Tryz.prog KL LG) tm s):=by
 have O:=zk (zh (L:=LG) (show zo Tryz.prog KL 258 from zC0)) (X:=DdX) rfl
 refine zL (L:=LG) zt zvQ rfl (fun tm s=>zB7 s (gp 7 tm)) (fun x a ⟨_,_,_,h,_⟩=>by rw [h];exact fun h=>h) ?_
 rintro ⟨b⟩ tm s ⟨Y,N,xs,ys,M,hy,n,k⟩ J
 show GcX.post _ (zed.run _ tm _)
 generalize Rk Tryz.prog _ _=r at J O ⊢
 have C:∀ c:V→Go.Ev.A,zm (gp 7 tm) c=c (iv .i64 (ys.length:Int)):=fun c=>qS hy.1 c
 by_cases Z:0<ys.length
 ·obtain ⟨_,s1,T,j,q,i,rs,rfl,R,U,g,E,K⟩:=O ⟨gp 6 tm,gp 7 tm,xs,ys⟩ _ s ⟨rfl,M.1,hy.1,M.2.1,hy.2.1,M.2.2,hy.2.2,n,k,Z⟩
  simp only at T E K
  have Q:Nt s1 i rs:=⟨R,U,g⟩
  generalize S:gp 6 tm=D at *
  generalize I:gp 7 tm=P at *
  have p:val 1000000000 rs<val 1000000000 ys:=by
   rw [K]
   obtain ⟨m,f⟩:∃ m,ys.length=m+1:=⟨ys.length - 1,by omega⟩
   obtain ⟨H,w,-⟩:=top_of (B:=1000000000) (by decide) hy.2.1 f hy.2.2
   exact Nat.mod_lt _ (kan (Nat.mul_pos H (Nat.pow_pos (by decide))) w)
  have next:∀ F,(gp 240 F=.bad∧gp 6 F=P∧gp 7 F=i)→GcX.post ⟨b⟩ (r.code zj4 zgu F s1):=fun F ⟨G,d,e⟩ =>
   J ⟨b⟩ F s1 (by rw [e,ztE Q,ztE hy];exact p) ⟨Y.trans j,G,ys,rs,by rw [d];exact hy.ext j,by rw [e];exact Q,k,by show rs.length≤Mx;omega⟩
  simp -implicitDefEqProofs [zmz,S,I,C,Z,T]
  apply next
  simp [N]
 ·have hz:((0:Int)<(ys.length:Int))=False:=eq_false (by omega)
  simp -implicitDefEqProofs [zmz,C,Z]
  exact ⟨_,s,xs,rfl,Y,by simp [N],by simpa using M,n⟩
theorem zB2:zo Tryz.prog KL 206:=by
 have e:=zCr
 have E:=zk (zh (L:=LG) (show zo Tryz.prog KL 205 from zhj)) (X:=List Nat) rfl
 have hB:=zk (zh (L:=LG) (show zo Tryz.prog KL 210 from zju)) (X:=List Nat) rfl
 have v:=zk (zh (L:=LG) (show zo Tryz.prog KL 259 from zoh)) (X:=V × List Nat) rfl
 refine zr (L:=LG) zt (K:=KL) (X:=X2) rfl ?_
 rintro ⟨x,y⟩ a s ⟨rfl,M,hy,F⟩
 generalize Rk Tryz.prog _ _=r at e E hB v ⊢
 obtain ⟨_,s,T,rfl,rfl⟩:=E x _ s rfl
 obtain ⟨_,s,D,rfl,rfl⟩:=E y _ s rfl
 rw [M.1] at T
 rw [hy.1] at D
 have u:Mx=1000000:=rfl
 obtain ⟨H,s1,xs,o,w,I,j,R⟩:=wR hB M s
 obtain ⟨C,W,ys,i,p,J,d,O⟩:=wR hB hy s1
 generalize g:(fnC zf 206).run r _ _=k
 simp -implicitDefEqProofs [zn7,T,D,o,i] at g
 generalize f:zed.run r _ W=U at g
 obtain ⟨N,n,P,rfl,Y,G,hz,Q⟩:=f▸e ⟨s⟩ _ W ⟨w.trans p,by simp,xs,ys,by simpa using I.ext p,by simpa using J,by omega,by omega⟩
 simp only at Y
 obtain ⟨_,l,Z,A,t,rfl,-⟩:=v (gp 6 N,P) _ n ⟨rfl,hz.1,hz.2.1,hz.2.2,Q,F.ext Y⟩
 simp -implicitDefEqProofs [G,Z] at g
 exact ⟨_,l,g.symm,Y.trans A,t,rfl⟩
theorem zD7 {b:S} (h:QR b s v qs) (hi:i<qs.length):∃ p,(∀ k c,ze 1 v (iv k (i:Int)) c=c p)∧(∀ k:V→S→Go.Ev.A,zd false 1 p s k=k (uv (qs.getD i 0)) s) ∧
  ∀ y,∃ U,(∀ k:V→S→Go.Ev.A,zA 1 p (uv y) s k=k Go.Ev.undef U)∧QR b U v (qs.set i y)∧U.nx=s.nx∧∀ c,qi v≠some c→Tr.get B.none c U.h=Tr.get B.none c s.h:=by
 obtain ⟨p,Z,F⟩:=zak h.nu.1 hi
 refine ⟨p,Z,F,fun y=>?_⟩
 obtain ⟨C,U,I,J⟩:=h.store hi y
 have e:=(I .i64 fun v=>.fin v s).symm.trans (Z .i64 fun v=>.fin v s)
 cases e
 exact ⟨U,J⟩
structure MuX where
 x:V
 y:V
 v:V
 xs:List Nat
 ys:List Nat
 i:Nat
 b:S
def MuX.base (c:MuX):Prop:=Nu c.b c.x c.xs∧Nu c.b c.y c.ys∧Bl c.xs∧Bl c.ys∧c.xs.length≤105∧c.ys.length≤105
def MuX.fr (c:MuX) (tm:T):Prop:=gp 6 tm=c.x∧gp 7 tm=c.y∧gp 8 tm=c.v∧gp 14 tm=iv .i64 (c.xs.length:Int)∧gp 240 tm=.bad
def MuX.row (c:MuX) (s:S):Prop:=Ext c.b s∧∃ L,QR c.b s c.v L∧Bl L∧L.length=c.xs.length+c.ys.length+1
def MuX.fri (c:MuX) (tm:T):Prop:=c.fr tm∧gp 15 tm=iv .i64 (c.i:Int)∧c.i<c.xs.length
def MuX.preI (c:MuX) (tm:T) (s:S):Prop:=c.base∧c.fri tm∧(gp 9 tm=iv .i64 (c.i:Int)∧gp 17 tm=iv .i64 ((c.ys.length+1:Nat):Int))∧c.row s∧∃ k d,k≤c.ys.length+1∧d<1000000000∧gp 18 tm=iv .i64 (k:Int)∧gp 10 tm=uv d
def MuX.postI (c:MuX) (a:Go.Ev.A):Prop:=∃ N s,a=.ext 2 N s∧c.fri N∧c.row s
def MuX.pre (c:MuX) (tm:T) (s:S):Prop:=c.base∧c.fr tm∧c.row s∧∃ i,i≤c.xs.length∧gp 15 tm=iv .i64 (i:Int)
def MuX.post (c:MuX) (a:Go.Ev.A):Prop:=∃ N s,a=.ext 0 N s∧c.fr N∧c.row s
noncomputable def LM:Nat→Lt
 | 62=>ltI MuX.preI MuX.postI
 | _=>ltI MuX.pre MuX.post
noncomputable def KM:Nat→Ct
 | 151=>ctI (X:=X2) (fun ⟨x,y⟩ a s=>a=[.str x,.str y]∧Nz 400 x∧Nz 400 y∧yd s) (fun _ s v U=>TxP 900 s v U)
 | f=>KL f
theorem zCM:∀ (c:MuX) tm s,c.preI tm s→c.postI (zdF.run (Rk Tryz.prog KM LM) tm s):=by
 refine zL (L:=LM) zt zvw rfl (fun tm _=>(toI (gp 17 tm)).toNat - (toI (gp 18 tm)).toNat) (fun x a ⟨_,_,h,_⟩=>by rw [h];exact fun h=>h) ?_
 rintro ⟨x,y,v,xs,ys,i,b⟩ tm s ⟨hB,⟨⟨W,g,R,ae,N⟩,ah,hi⟩,⟨h9,aa⟩,⟨Y,L,E,bL,lL⟩,k,d,H,u,ai,C⟩ J
 show MuX.postI _ (zdF.run _ tm _)
 generalize Rk Tryz.prog _ _=r at J ⊢
 obtain ⟨M,hy,bx,aj,lx,ly⟩:=id hB
 simp only at M hy bx aj lx ly W g R ae ah hi h9 aa Y E lL H
 by_cases O:k<ys.length+1
 ·have ak:∀ c:V→Go.Ev.A,zm y c=c (iv .i64 (ys.length:Int)):=fun c=>qS (wD hy Y) c
  obtain ⟨j,G⟩:∃ j,i+k=j:=⟨_,rfl⟩
  have w1:IntKind.i64.wrap ((i:Int)+(k:Int))=(j:Int):=w64
  have w2:IntKind.i64.wrap ((k:Int)+1)=((k+1:Nat):Int):=w64
  obtain ⟨p,Z,K,hS⟩:=zD7 E (show j<L.length by omega)
  have f:=jN bL j
  generalize L.getD j 0=l at *
  have step:∀ P,P<1000000000000000000→∃ U,(∀ k:V→S→Go.Ev.A,zA 1 p (uv (P % 1000000000)) s k=k Go.Ev.undef U)∧∀ F,(MuX.fri ⟨x,y,v,xs,ys,i,b⟩ F∧(gp 9 F=iv .i64 (i:Int)∧gp 17 F=iv .i64 ((ys.length+1:Nat):Int))∧gp 18 F=iv .i64 ((k+1:Nat):Int)∧gp 10 F=uv (P / 1000000000))→MuX.postI ⟨x,y,v,xs,ys,i,b⟩ (r.code zfR zgh F U):=by
   intro P az
   obtain ⟨U,T,an,ao,aq⟩:=hS (P % 1000000000)
   refine ⟨U,T,fun F ⟨n,Q,al,ar⟩=>J ⟨x,y,v,xs,ys,i,b⟩ F U (by rw [Q.2,al,aa,ai,zp,zp,zp];omega) ⟨hB,n,Q,⟨?_,_,an,fun z hz=>?_,by rw [List.length_set];exact lL⟩,k+1,_,O,by omega,al,ar⟩⟩
   ·exact za2 Y (by rw [ao];exact kad _) (D:=fun c=>qi v=some c) (fun c _ X=>aq c X) fun c X=>by
     obtain ⟨a,rfl,I,-⟩:=E;cases X;exact I
   ·rcases List.mem_or_eq_of_mem_set hz with h | h
    ·exact bL z h
    ·rw [h];exact Nat.mod_lt _ (by decide)
  have a1:=fun q cst c=>zhz q cst (a:=l) (b:=d) c (by omega)
  have t:((k:Int)<(ys.length:Int)+1)=True:=eq_true (by omega)
  by_cases au:k<ys.length
  ·have ad:((k:Int)<(ys.length:Int))=True:=eq_true (by omega)
   obtain ⟨px,av,aw⟩:=zak (wD M Y) hi
   obtain ⟨py,ax,ay⟩:=zak (wD hy Y) au
   have e:=jN bx i
   have o:=jN aj k
   generalize xs.getD i 0=xi at *
   generalize ys.getD k 0=yk at *
   have w:xi*yk≤999999999*999999999:=Nat.mul_le_mul (by omega) (by omega)
   have a2:=fun q cst c=>zhC q cst (a:=xi) (b:=yk) c (by omega)
   have a3:=fun q cst c=>zhz q cst (a:=l+d) (b:=xi*yk) c (by omega)
   obtain ⟨U,T,nx⟩:=step (l+d+xi*yk) (by omega)
   have a4:=fun q cst c=>zhZ q cst (a:=l+d+xi*yk) c (by omega)
   have a5:=fun q cst c=>zh9 q cst (a:=l+d+xi*yk) c
   generalize l+d+xi*yk=P at *
   simp -implicitDefEqProofs [-qj,zhu,qj (k:=.i64),W,g,R,h9,C,aa,ai,t,ak,ad,w1,w2,Z,K,av,aw,ax,ay,a1,a2,a3,a4,a5,T]
   apply nx
   simp [MuX.fri,MuX.fr,W,g,R,h9,ae,ah,aa,N,hi]
  ·have ad:((k:Int)<(ys.length:Int))=False:=eq_false (by omega)
   obtain ⟨U,T,nx⟩:=step (l+d) (by omega)
   have a4:=fun q cst c=>zhZ q cst (a:=l+d) c (by omega)
   have a5:=fun q cst c=>zh9 q cst (a:=l+d) c
   generalize l+d=P at *
   simp -implicitDefEqProofs [-qj,zhu,qj (k:=.i64),W,g,R,h9,C,aa,ai,t,ak,ad,w1,w2,Z,K,a1,a4,a5,T]
   apply nx
   simp [MuX.fri,MuX.fr,W,g,R,h9,ae,ah,aa,N,hi]
 ·obtain rfl:k=ys.length+1:=by omega
  simp -implicitDefEqProofs [zhu,aa,ai]
  exact ⟨_,s,rfl,⟨⟨by simp [W],by simp [g],by simp [R],by simp [ae],by simp [N]⟩,by simp [ah],hi⟩,Y,L,E,bL,lL⟩
theorem zDt:∀ (c:MuX) tm s,c.pre tm s→c.post (zcB.run (Rk Tryz.prog KM LM) tm s):=by
 have P:=zCM
 refine zL (L:=LM) zt zus rfl (fun tm _=>(toI (gp 14 tm)).toNat - (toI (gp 15 tm)).toNat) (fun x a ⟨_,_,h,_⟩=>by rw [h];exact fun h=>h) ?_
 rintro ⟨x,y,v,xs,ys,T,b⟩ tm s ⟨hB,⟨t,S,R,E,N⟩,Q,i,hi,F⟩ J
 show MuX.post _ (zcB.run _ tm _)
 generalize Rk Tryz.prog _ _=r at J P ⊢
 obtain ⟨M,hy,bx,w,n,k⟩:=id hB
 simp only at M hy bx w n k t S R E hi
 by_cases O:i<xs.length
 ·have Y:=Q.1
  simp only at Y
  have C:∀ c:V→Go.Ev.A,zm y c=c (iv .i64 (ys.length:Int)):=fun c=>qS (wD hy Y) c
  have e:IntKind.i64.wrap ((ys.length:Int)+1)=((ys.length+1:Nat):Int):=w64
  have j:IntKind.i64.wrap ((i:Int)+1)=((i+1:Nat):Int):=w64
  generalize g:zcB.run r tm s=D
  simp -implicitDefEqProofs [zlE,S,E,F,O,C,e] at g
  generalize f:zdF.run r _ s=U at g
  obtain ⟨H,W,rfl,⟨⟨d,o,l,K,G⟩,X,-⟩,I⟩:=f▸P ⟨x,y,v,xs,ys,i,b⟩ _ s ⟨hB,⟨⟨by simp [t],by simp [S],by simp [R],by simp [E],by simp [N]⟩,by simp [F],O⟩,⟨by simp ,by simp⟩,Q,0,0,Nat.zero_le _,by decide,by simp,by simp;rfl⟩
  simp only at d o l K X
  simp -implicitDefEqProofs [X,j] at g
  rw [←g]
  exact J ⟨x,y,v,xs,ys,i,b⟩ _ W (by rw [E,F];simp [K,zp];omega) ⟨hB,⟨by simp [d],by simp [o],by simp [l],by simp [K],by simp [G]⟩,I,i+1,O,by simp⟩
 ·obtain rfl:i=xs.length:=by omega
  simp -implicitDefEqProofs [zlE,E,F]
  exact ⟨_,s,rfl,⟨by simp [t],by simp [S],by simp [R],by simp [E],by simp [N]⟩,Q⟩
theorem zAe:zo Tryz.prog KM 151:=by
 have e:=zDt
 have hV:=zk (zh (L:=LM) (show zo Tryz.prog KM 205 from zhj)) (X:=List Nat) rfl
 have hB:=zk (zh (L:=LM) (show zo Tryz.prog KM 210 from zju)) (X:=List Nat) rfl
 have ad:=zk (zh (L:=LM) (show zo Tryz.prog KM 212 from ziO)) (X:=V × List Nat) rfl
 have hT:=zk (zh (L:=LM) (show zo Tryz.prog KM 211 from zya)) (X:=V × List Nat) rfl
 refine zr (L:=LM) zt (K:=KM) (X:=X2) rfl ?_
 rintro ⟨x,y⟩ a s ⟨rfl,M,hy,Z⟩
 generalize Rk Tryz.prog _ _=r at e hV hB ad hT ⊢
 obtain ⟨_,s,T,rfl,rfl⟩:=hV x _ s rfl
 obtain ⟨_,s,l,rfl,rfl⟩:=hV y _ s rfl
 rw [M.1] at T
 rw [hy.1] at l
 obtain ⟨H,s1,xs,o,w,I,j,l1⟩:=wR hB M s
 obtain ⟨D,W,ys,i,p,J,d,l2⟩:=wR hB hy s1
 have ah:∀ c:V→Go.Ev.A,zm H c=c (iv .i64 (xs.length:Int)):=fun c=>qS (wD I.1 p) c
 have ai:∀ c:V→Go.Ev.A,zm D c=c (iv .i64 (ys.length:Int)):=fun c=>qS J.1 c
 have Q:IntKind.i64.wrap ((xs.length:Int)+(ys.length:Int))=((xs.length+ys.length:Nat):Int):=w64
 have w2:IntKind.i64.wrap ((xs.length:Int)+(ys.length:Int)+1)=((xs.length+ys.length+1:Nat):Int):=w64
 obtain ⟨N,R⟩:∃ N,xs.length+ys.length+1=N:=⟨_,rfl⟩
 rw [R] at w2
 obtain ⟨qv,O,mk,n,u⟩:∃ v U,(∀ k:V→S→Go.Ev.A,yH 169 8 [iv .u64 0] (iv .i64 (N:Int)) (iv .i64 (N:Int)) W k=k v U)∧QR W U v (List.replicate N 0)∧Ext W U:=QR.new W N (by omega)
 generalize g:(fnC zf 151).run r _ _=F0
 simp -implicitDefEqProofs [zfg,T,l,o,i,ah,ai,Q,w2,mk] at g
 generalize f:zcB.run r _ O=A1 at g
 obtain ⟨C,P,rfl,⟨-,-,k8,-,G⟩,Y,L,aa,bL,lL⟩:=f▸e ⟨H,D,qv,xs,ys,0,W⟩ _ O ⟨⟨wD I.1 p,J.1,I.2.1,J.2.1,by show xs.length≤105;omega,by show ys.length≤105;omega⟩,⟨by simp,by simp,by simp,by simp,by simp⟩,⟨u,_,n,fun z hz=>by rw [(List.mem_replicate.1 hz).2];decide,by rw [List.length_replicate];exact R.symm⟩,0,Nat.zero_le _,by simp⟩
 simp only at k8 Y aa lL
 obtain ⟨_,h,e5,q5,q6⟩:=ad (qv,L) _ P ⟨rfl,aa.nu.1,aa.nu.2,by omega⟩
 rw [q5,q6] at e5
 obtain ⟨t1,t2,-,t4⟩:=trim_take L
 have ae:=zb0 aa.nu.1 t1
 rw [t2] at ae
 have E:=(w.trans p).trans Y
 obtain ⟨_,s6,e6,E6,t,rfl,F⟩:=hT (_,trimL L) _ P ⟨rfl,⟨ae,trim_lt bL,t4⟩,by omega,Z.ext E⟩
 simp -implicitDefEqProofs [k8,G,e5,e6] at g
 exact ⟨_,s6,g.symm,E.trans E6,t,rfl,F.1,by have:=F.2;omega⟩
end Go.Proofs.YthdlmdoppfigoaaGreatDoor.oev
