/- The evaluator is right on drawn regions, loops, functions; a closed call that it answers is a call of the program. No statement of the seat stands here. No condition. By an AI agent. -/
import Derived.Test.YthdlmdoppfigoaaGreatDoorEvE
import Derived.Maps.RangeRun
namespace Go.Ev
open Go.RowKit
variable {P:Program}
variable {l:List Oper} {i:Nat} {o:Oper}
theorem zcX {pc:PC} {fi:FI} (C:l[i]?=some o) (rest:List (Bool × Nat)) (ds:List Nat):jp pc fi l ((false,i)::rest) ds=qZ fi ds l o (zj9 fi o (op pc fi ds o) (jp pc fi l rest (push o ds))) (zhQ fi o (jp pc fi l rest (push o ds))):=by
 simp only [jp,C]
theorem zhq {pc:PC} {fi:FI} (C:l[i]?=some o) (rest:List (Bool × Nat)) (ds:List Nat):jp pc fi l ((true,i)::rest) ds=qZ fi ds l o (zbV fi ds o (op pc fi ds o) (jp pc fi l rest ds)) (jp pc fi l rest ds):=by
 simp only [jp,C]
variable {d:Nat}
theorem zfZ {fi:FI} {ds:List Nat} {f:OpC} {g:LoC} (u:o.dst=some d) (r:R) (tm:T) (le:List V) (s:S):(zbV fi ds o f g).run r tm le s=f.run r tm le s fun v _=>(opd fi ds (.tmp d)).run tm le fun w=>@Bool.rec (fun _=>A) eA (g.run r tm le s) (yT v w):=by
 unfold zbV
 rw [u]
theorem zik {fi:FI} {ds:List Nat} {f:OpC} {g:LoC} (u:o.dst=none) (r:R) (tm:T) (le:List V) (s:S):((zbV fi ds o f g).run r tm le s).isBad:=by
 unfold zbV
 rw [u];trivial
theorem zzP {fi:FI} {ds:List Nat} {k:Nat} (h:idx d ds 0=some k) {tm:T} {le:List V} {c:V→A} (G:¬((opd fi ds (.tmp d)).run tm le c).isBad):c (le.getD k .bad)=(opd fi ds (.tmp d)).run tm le c:=by
 simp only [opd,h] at G ⊢
 exact zyc G
variable {r:List (Bool × Nat)}
theorem zaX {all:Array Oper} {D stale:List Nat} (h:qL (ya all.toList []) (all.toList.map zT) all.toList D stale ((false,i)::r)=true) :
    i<all.size∧i ∉ D∧(∀ j,j<all.size→yX all i j=true→j∈D)∧(∀ f∈D,kd all f=3→yX all i f=true) ∧
    (if kd all i=3 then stale=[]∧qL (ya all.toList []) (all.toList.map zT) all.toList (i::D) (D.filter fun j=>Nat.beq (kd all j) 2 && !(yX all i j)) r=true
     else qL (ya all.toList []) (all.toList.map zT) all.toList (i::D) stale r=true):=by
  simp only [qL,kaf] at h
  obtain ⟨⟨⟨⟨I,J⟩,Q⟩,K⟩,d⟩:=h
  refine ⟨by simpa [Nat.blt_eq] using I,?_,fun j G Z=>?_,fun f B F=>?_,?_⟩
  · intro Y
    have:=List.elem_eq_true_of_mem Y
    rw [List.contains,this] at J;cases J
  · rw [kao] at Q
    have:=Q j ((zdY _ _ _).2 (.inl (by simpa using G)))
    rw [Bool.or_eq_true] at this
    rcases this with h | h
    · have W:bit ((ya all.toList []).getD i 0) j=true:=Z
      rw [W] at h;cases h
    · exact List.mem_of_elem_eq_true h
  · rw [kao] at K
    have:=K f B
    rw [Bool.or_eq_true] at this
    rcases this with h | h
    · have p:(all.toList.map zT).getD f 3=3:=F
      rw [p] at h;cases h
    · exact h
  · by_cases F:kd all i=3
    · rw [if_pos F]
      have p:Nat.beq ((all.toList.map zT).getD i 3) 3=true:=by
        have:(all.toList.map zT).getD i 3=3:=F
        rw [this];rfl
      rw [p] at d
      simp only [kaf,List.isEmpty_iff] at d
      exact d
    · rw [if_neg F]
      have p:Nat.beq ((all.toList.map zT).getD i 3) 3=false:=by
        cases hb:Nat.beq ((all.toList.map zT).getD i 3) 3 with
        | false=>rfl
        | true=>exact absurd (bq hb) F
      rw [p] at d
      exact d
theorem ztb {all:Array Oper} {D stale:List Nat} (h:qL (ya all.toList []) (all.toList.map zT) all.toList D stale ((true,i)::r)=true) :
  i∈D∧kd all i=2∧(∀ j∈D,∀ o t,all[i]?=some o→ye all j=some t→t∈y9 all.toList o→yX all i j=true)∧qL (ya all.toList []) (all.toList.map zT) all.toList D (stale.filter fun j=>!(Nat.beq j i)) r=true:=by
 simp only [qL,kaf] at h
 obtain ⟨⟨⟨I,J⟩,Q⟩,K⟩:=h
 refine ⟨List.mem_of_elem_eq_true I,bq J,fun j G o t C u H=>?_,K⟩
 rw [kao] at Q
 have:=Q j G
 have L:(all.toList[j]?).bind (·.dst)=some t:=by rw [kam];exact u
 have M:all.toList[i]?=some o:=by rw [kam];exact C
 rw [L,M] at this
 simp only [Bool.or_eq_true] at this
 rcases this with h | h
 ·have X:(y9 all.toList o).contains t=true:=List.elem_eq_true_of_mem H
  rw [X] at h;cases h
 ·exact h
theorem zoj {all:Array Oper} {D stale:List Nat} (h:qL (ya all.toList []) (all.toList.map zT) all.toList D stale []=true):stale=[]∧∀ i,i<all.size→i∈D:=by
 simp only [qL,kaf,List.isEmpty_iff,kao] at h
 exact ⟨h.1,fun i hi=>List.mem_of_elem_eq_true (h.2 i ((zdY _ _ _).2 (.inl (by simpa using hi))))⟩
theorem zgL {all:Array Oper}:∀ {r:List (Bool × Nat)} {D stale:List Nat},qL (ya all.toList []) (all.toList.map zT) all.toList D stale r=true→∀ {e:Nat},e∈D→kd all e=3→∀ i,i<all.size→i ∉ D→yX all i e=true
 | [],D,stale,h,e,z,F,i,hi,o=>absurd ((zoj h).2 i hi) o
 | (true,j)::r,D,stale,h,e,z,F,i,hi,o=>zgL (ztb h).2.2.2 z F i hi o
 | (false,j)::r,D,stale,h,e,z,F,i,hi,o=>by
  obtain ⟨I,J,Q,K,d⟩:=zaX h
  by_cases B:i=j
  ·subst B;exact K e z F
  ·have C:i ∉ j::D:=by simp [B,o]
   by_cases G:kd all j=3
   ·rw [if_pos G] at d
    exact zgL d.2 (kaC _ z) F i hi C
   ·rw [if_neg G] at d
    exact zgL d (kaC _ z) F i hi C
theorem zqz.ext {all:Array Oper} {fi:FI} {tm0:T} {D D1:List DE} {stale:List Nat} {s U:S} {ν:Val} {e:DE} (hD:∀ x∈D,x∈D1) (C:∀ a,Tr.get B.none a s.h=.none∨Tr.get B.none a s.h=Tr.get B.none a U.h) (ad:s.nx.toNat≤U.nx.toNat) (F:∀ a,a.toNat<s.nx.toNat→Tr.get B.none a U.h=Tr.get B.none a s.h)
  (h:zqz P all fi tm0 D stale s ν e):zqz P all fi tm0 D1 stale U ν e:=by
 obtain ⟨X,o,I,J,Q,K⟩:=h
 refine ⟨X,o,I,fun W tmps l N=>J W tmps l (N.mono hD),Q,fun hX=>?_⟩
 rcases K hX with h | h | ⟨aa,h⟩ | ⟨a,b,R,q,i,p,z⟩
 ·exact .inl fun W tmps l N=>h W tmps l (N.mono hD)
 ·exact .inr (.inl h)
 ·have lv:∀ a,(Tr.get B.none a s.h).live→(Tr.get B.none a U.h).live:=fun a u=>by
   rcases C a with L | L
   ·rw [L] at u;exact u.elim
   ·rw [←L];exact u
  refine .inr (.inr (.inl ⟨aa,fun W w tmps G l N=>h W w tmps ⟨fun a=>?_,fun a v b O r Z Y n c y t=>G.2 a v b O r Z Y n c (lv a y) (lv r t)⟩ l (N.mono hD)⟩))
  rcases C a with L | L
  ·rw [L];trivial
  ·rw [L];exact G.1 a
 ·exact .inr (.inr (.inr ⟨a,b,R,fun n0 w0 W tmps H w j d M=>q n0 w0 W tmps H w j d (M.mono hD),i,by omega,by rw [F a p];exact z⟩))
section
variable {all:Array Oper} {fi:FI} {tm0:T} {tmps0:Array Value} {n0:Nat} {w0:World} {ν0:Val} {s0:S} {D:List DE} {ds:List Nat} {tm:T} {le:List V} {s:S} {stale:List Nat} {Sx:Nat→Prop} {ν:Val} {w:World} {tmps:Array Value}
variable {i:Nat}
theorem jZ:i∈D.map (·.i)↔∃ e∈D,e.i=i:=kau
theorem ziR (q:Inv P all fi tm0 tmps0 n0 w0 ν0 s0 D ds tm le s stale Sx ν w tmps) {o:Oper} {v:V} {key:Option K} {U:S} {ae:List Nat} {F:T} {y:List V} (hi:i<all.size) (ah:∀ e∈D,e.i≠i) (C:all[i]?=some o)
  (ak:∀ j,j<all.size→yX all i j=true→∃ e∈D,e.i=j) (al:kd all i≠3) (ai:Acfg all fi tm0 (⟨i,v,key⟩::D) ae F y) (an:∀ d,o.dst=some d→d<fi.nt) (Y:St P n0 w0 ν U w)
  (W:∀ a,Tr.get B.none a s.h=.none∨Tr.get B.none a s.h=Tr.get B.none a U.h) (r:s.nx.toNat≤U.nx.toNat) (aj:∀ a,a.toNat<s.nx.toNat→Tr.get B.none a U.h=Tr.get B.none a s.h) (aa:∀ k,key=some k→k=s.nx∧s.nx.toNat<U.nx.toNat)
  (Z:zqz P all fi tm0 (⟨i,v,key⟩::D) stale U ν ⟨i,v,key⟩):Inv P all fi tm0 tmps0 n0 w0 ν0 s0 (⟨i,v,key⟩::D) ae F y U stale Sx ν w tmps:=by
 have ao:¬Sx i:=fun h=>by obtain ⟨e,z,J⟩:=q.c4 i h;exact ah e z J
 have N:Out P n0 w0 ν0 s0 ν U w:=⟨q.out.le,Y,kaB q.out.nx r,fun a l O=>by
  obtain ⟨n,Q⟩:=q.out.keep a l O
  exact ⟨n,by rw [aj a (kan O q.out.nx)];exact Q⟩⟩
 refine ⟨N,q.glob,q.ng,ai,?_,fun e z=>?_,⟨ak,q.topL⟩,⟨fun e z k H=>?_,fun e z c p L k H ad=>?_⟩,q.szt,fun e z t u=>?_,fun e z R t u=>?_,q.c2,q.fr0,q.c3,fun j G=>?_,fun e z H=>?_,fun e z R=>?_⟩
 ·simp only [List.map_cons,List.nodup_cons]
  exact ⟨fun h=>by obtain ⟨e,z,J⟩:=jZ.1 h;exact ah e z J,q.nd⟩
 ·rcases kaj.1 z with h | h
  ·subst h;exact hi
  ·exact q.lt e h
 ·rcases kaj.1 z with h | h
  ·subst h
   obtain ⟨I,J⟩:=aa k H
   subst I
   exact ⟨q.out.nx,J⟩
  ·have:=q.keys.lt e h k H;omega
 ·rcases kaj.1 z with h | h
  ·rcases kaj.1 p with X | X
   ·subst h X;exact L rfl
   ·subst h
    obtain ⟨I,_⟩:=aa k H
    have:=(q.keys.lt c X k ad).2
    rw [I] at this;omega
  ·rcases kaj.1 p with X | X
   ·subst X
    obtain ⟨I,_⟩:=aa k ad
    have:=(q.keys.lt e h k H).2
    rw [I] at this;omega
   ·exact q.keys.ne e h c X L k H ad
 ·rcases kaj.1 z with h | h
  ·subst h
   have:ye all i=o.dst:=by unfold ye;rw [C];rfl
   rw [this] at u
   exact an t u
  ·exact q.dlt e h t u
 ·rcases kaj.1 z with h | h
  ·subst h;exact absurd R ao
  ·exact q.c1 e h R t u
 ·obtain ⟨e,z,J⟩:=q.c4 j G
  exact ⟨e,kaC _ z,J⟩
 ·rcases kaj.1 z with h | h
  ·subst h;exact absurd H al
  ·exact q.eff e h H
 ·rcases kaj.1 z with h | h
  ·subst h;exact Z
  ·exact (q.pend e h R).ext (fun x M=>kaC _ M) W r aj
theorem zbK {pc:PC} (aj:PcOk P pc) {r:R} (ht:Tidy all) (ao:∀ (i:Nat) (o:Oper),all[i]?=some o→z7 o=false):∀ (rest:List (Bool × Nat)) (D:List Nat) (stale:List Nat) (ds:List Nat) (tm:T) (le:List V) (s:S),qL (ya all.toList []) (all.toList.map zT) all.toList D stale rest=true →
  ¬((jp pc fi all.toList rest ds).run r tm le s).isBad→∃ ad D' aa ae F ah U,(ad=[]∨∃ i r',ad=(false,i)::r'∧kd all i=3)∧qL (ya all.toList []) (all.toList.map zT) all.toList D' aa ad=true ∧
   (jp pc fi all.toList ad ae).run r F ah U=(jp pc fi all.toList rest ds).run r tm le s∧∀ (tm0:T) (tmps0:Array Value) (n0:Nat) (w0:World) (ν0:Val) (s0:S) (E:List DE) (Sx:Nat→Prop) (ν:Val) (w:World) (tmps:Array Value),E.map (·.i)=D→Inv P all fi tm0 tmps0 n0 w0 ν0 s0 E ds tm le s stale Sx ν w tmps →
    ∃ E',E'.map (·.i)=D'∧Inv P all fi tm0 tmps0 n0 w0 ν0 s0 E' ae F ah U aa Sx ν w tmps
 | [],D,stale,ds,tm,le,s,aw,G=>⟨[],D,stale,ds,tm,le,s,.inl rfl,aw,rfl,fun _ _ _ _ _ _ E _ _ _ _ c hI=>⟨E,c,hI⟩⟩
 | (true,i)::rest,D,stale,ds,tm,le,s,aw,G=>by
  obtain ⟨I,J,Q,O⟩:=ztb aw
  have aL:∃ o,all[i]?=some o:=by
   cases M:all[i]? with
   | some o=>exact ⟨o,rfl⟩
   | none =>
    have:kd all i=3:=by unfold kd;simp [List.getD,M]
    rw [this] at J;cases J
  obtain ⟨o,C⟩:=aL
  have ax:all.toList[i]?=some o:=by rw [kam];exact C
  rw [zhq ax] at G
  rw [zhq ax]
  obtain ⟨X,hX,ai⟩:=zb7 G
  rw [←hX] at G ⊢
  have aA:zT o=2:=by rw [←zzb C];exact J
  -- aE follows from an invariant
  have sl:∀ {tm0:T} {tmps0:Array Value} {n0:Nat} {w0:World} {ν0:Val} {s0:S} {E:List DE} {Sx:Nat→Prop} {ν:Val} {w:World} {tmps:Array Value},E.map (·.i)=D→Inv P all fi tm0 tmps0 n0 w0 ν0 s0 E ds tm le s stale Sx ν w tmps →
    ∀ (W:Val) (n:Array Value),Rdy all fi tm0 E W n i→∀ t∈y9 all.toList o,SlR W fi T.get ds tm le n t:=by
   intro tm0 tmps0 n0 w0 ν0 s0 E Sx ν w tmps c hI W n hr
   refine zng hI.cfg C (fun e he t hd aB=>Q e.i (by rw [←c];exact kau.2 ⟨e,he,rfl⟩) o t C hd aB) (fun j hj Z=>?_) hr
   rw [←c] at I
   obtain ⟨e,he,l⟩:=jZ.1 I
   exact hI.top e he j hj (by rw [l];exact Z)
  -- aF invariant with i looked at aT
  have upd:∀ (tm0:T) (tmps0:Array Value) (n0:Nat) (w0:World) (ν0:Val) (s0:S) (E:List DE) (Sx:Nat→Prop) (ν:Val) (w:World) (tmps:Array Value),E.map (·.i)=D→Inv P all fi tm0 tmps0 n0 w0 ν0 s0 E ds tm le s stale Sx ν w tmps →
    (∀ e∈E,e.i=i→(∀ W tmps,yn W fi.ng→Rdy all fi tm0 E W tmps i→Region.wanted o (yielded all tmps)=true)→zw7 P all fi tm0 E s e o) →
    Inv P all fi tm0 tmps0 n0 w0 ν0 s0 E ds tm le s (stale.filter fun j=>!(Nat.beq j i)) Sx ν w tmps:=by
   intro tm0 tmps0 n0 w0 ν0 s0 E Sx ν w tmps c hI aM
   refine ⟨hI.out,hI.glob,hI.ng,hI.cfg,hI.nd,hI.lt,hI.topL,hI.keys,hI.szt,hI.dlt,hI.c1,hI.c2,hI.fr0,hI.c3,hI.c4,hI.eff,fun e he hS=>?_⟩
   obtain ⟨Y,o',q1,q2,q3,q4⟩:=hI.pend e he hS
   refine ⟨Y,o',q1,q2,q3,fun hY=>?_⟩
   rcases q4 hY with h | ⟨h,h'⟩ | h | h
   ·exact .inl h
   ·by_cases ak:e.i=i
    ·right;right;left
     rw [ak,C] at q1
     simp only [Option.some.injEq] at q1
     subst q1
     refine ⟨h',aM e he ak (fun W tmps hG hr=>?_)⟩
     have:=q2 W tmps hG (by rw [ak];exact hr)
     rw [this];exact hY
    ·right;left
     refine ⟨List.mem_filter.2 ⟨h,?_⟩,h'⟩
     cases hb:Nat.beq e.i i with
     | false=>rfl
     | true=>exact absurd (bq hb) ak
   ·exact .inr (.inr (.inl h))
   ·exact .inr (.inr (.inr h))
  cases X with
  | false =>
   simp only [Bool.false_eq_true,if_false] at G ⊢
   obtain ⟨ad,D',aa,ae,F,ah,U,z,q,g3,g4⟩:=zbK aj ht ao rest D _ ds tm le s O G
   refine ⟨ad,D',aa,ae,F,ah,U,z,q,g3,fun tm0 tmps0 n0 w0 ν0 s0 E Sx ν w tmps c hI=>g4 tm0 tmps0 n0 w0 ν0 s0 E Sx ν w tmps c (upd _ _ _ _ _ _ _ _ _ _ _ c hI fun e he ak hw=>?_)⟩
   intro W w' n al hG hr
   rw [ak] at hr
   have q1:=hw W n hG hr
   have q2:=ai W n hG (za3 (sl c hI W n hr))
   rw [q1] at q2;cases q2
  | true =>
   simp only [if_true] at G ⊢
   cases hd:o.dst with
   | none=>exact absurd (zik hd r tm le s) G
   | some d =>
    rw [zfZ hd] at G ⊢
    obtain ⟨v,q1,q2⟩:=zms aj aA r tm le s _ G
    rw [←q1] at G ⊢
    obtain ⟨u,q3,q4⟩:=qf fi ds (.tmp d) tm le _ G
    cases hb:yT v u with
    | false=>rw [←q3] at G;simp only [hb] at G;exact absurd trivial G
    | true =>
     have aG:¬((jp pc fi all.toList rest ds).run r tm le s).isBad:=by rw [←q3] at G;simp only [hb] at G;exact G
     obtain ⟨ad,D',aa,ae,F,ah,U,z,q,g3,g4⟩:=zbK aj ht ao rest D _ ds tm le s O aG
     refine ⟨ad,D',aa,ae,F,ah,U,z,q,by rw [g3,←q3];simp only [hb],fun tm0 tmps0 n0 w0 ν0 s0 E Sx ν w tmps c hI=>g4 tm0 tmps0 n0 w0 ν0 s0 E Sx ν w tmps c (upd _ _ _ _ _ _ _ _ _ _ _ c hI fun e he ak hw=>?_)⟩
     -- aF aK value is aF known one
     have ay:ye all e.i=some d:=by rw [ak];unfold ye;rw [C];exact hd
     obtain ⟨k,p⟩:=Option.isSome_iff_exists.1 (hI.cfg.a3 e he d ay)
     have az:yT v (le.getD k .bad)=true:=by
      cases aN:yT v (le.getD k .bad) with
      | true=>rfl
      | false =>
       have:=zzP p G
       simp only [aN] at this
       rw [←this] at G
       exact absurd trivial G
     obtain ⟨e',aC,k1,k2⟩:=hI.cfg.a1 d k p
     have:e'=e:=zBx hI.nd aC he (ht.uniq _ _ d k1 ay)
     subst this
     rw [k2] at az
     have H:=zBe _ _ az
     intro W w' n al hG hr
     rw [ak] at hr
     obtain ⟨y,y1,y2⟩:=q2 W w' n al hG (zkf (sl c hI W n hr))
     exact ⟨y,by rw [←H];exact y1,y2⟩
 | (false,i)::rest,D,stale,ds,tm,le,s,aw,G=>by
  obtain ⟨I,J,Q,O,h5⟩:=zaX aw
  by_cases aq:kd all i=3
  ·exact ⟨(false,i)::rest,D,stale,ds,tm,le,s,.inr ⟨i,rest,rfl,aq⟩,aw,rfl,fun _ _ _ _ _ _ E _ _ _ _ c hI=>⟨E,c,hI⟩⟩
  ·rw [if_neg aq] at h5
   obtain ⟨o,C⟩:∃ o,all[i]?=some o:=⟨all[i],Array.getElem?_eq_getElem I⟩
   have ax:all.toList[i]?=some o:=by rw [kam];exact C
   rw [zcX ax] at G
   rw [zcX ax]
   obtain ⟨X,hX,ai⟩:=zb7 G
   rw [←hX] at G ⊢
   have aO:zT o≠3:=by rw [←zzb C];exact aq
   have aH:=ao i o C
   -- aE follows from an invariant
   have base:∀ {tm0:T} {tmps0:Array Value} {n0:Nat} {w0:World} {ν0:Val} {s0:S} {E:List DE} {Sx:Nat→Prop} {ν:Val} {w:World} {tmps:Array Value},E.map (·.i)=D→Inv P all fi tm0 tmps0 n0 w0 ν0 s0 E ds tm le s stale Sx ν w tmps →
     (∀ e∈E,e.i≠i)∧(∀ j,j<all.size→yX all i j=true→∃ e∈E,e.i=j)∧∀ (x:DE) (W:Val) (n:Array Value),Rdy all fi tm0 (x::E) W n i→∀ t∈y9 all.toList o,SlR W fi T.get ds tm le n t:=by
    intro tm0 tmps0 n0 w0 ν0 s0 E Sx ν w tmps c hI
    have aD:∀ e∈E,e.i≠i:=fun e he h=>J (by rw [←c];exact kau.2 ⟨e,he,h⟩)
    have aJ:∀ j,j<all.size→yX all i j=true→∃ e∈E,e.i=j:=fun j hj Z=>jZ.1 (by rw [c];exact Q j hj Z)
    refine ⟨aD,aJ,fun x W n hr=>zng hI.cfg C (fun e he t hd aB=>?_) aJ (hr.mono fun y N=>kaC _ N)⟩
    rcases ht.pair i e.i I (hI.lt e he) o t C hd aB with h | h | h
    ·exact absurd h (aD e he)
    ·exact h
    ·obtain ⟨e',aC,h9⟩:=hI.top e he i I h
     exact absurd h9 (aD e' aC)
   cases X with
   | false =>
    simp only [Bool.false_eq_true,if_false,zcC] at G ⊢
    obtain ⟨ar,au,q1,q2,q3⟩:=zeV ht C G
    rw [←q1] at G ⊢
    obtain ⟨ad,D',aa,ae,F,ah,U,z,q,g3,g4⟩:=zbK aj ht ao rest (i::D) stale (push o ds) ar au s h5 G
    refine ⟨ad,D',aa,ae,F,ah,U,z,q,g3,fun tm0 tmps0 n0 w0 ν0 s0 E Sx ν w tmps c hI=>?_⟩
    obtain ⟨b1,b2,b3⟩:=base c hI
    refine g4 tm0 tmps0 n0 w0 ν0 s0 (⟨i,undef,none⟩::E) Sx ν w tmps (by simp [c]) (ziR hI I b1 C b2 aq (q3 tm0 E ds none hI.cfg b1) q2 hI.out.st (fun a=>.inr rfl) (kad _) (fun a _=>rfl) (fun k p=>by cases p) ?_)
    exact ⟨false,o,C,fun W n hG hr=>ai W n hG (za3 (b3 _ W n hr)),fun _=>rfl,fun h=>by cases h⟩
   | true =>
    simp only [if_true,zbk aH] at G ⊢
    rcases zz0 o with p | p | p | p
    ·obtain ⟨v,p1,p2⟩:=zvR aj p r tm le s _ G
     rw [←p1] at G ⊢
     obtain ⟨ar,au,q1,q2,q3⟩:=zeV ht C G
     rw [←q1] at G ⊢
     obtain ⟨ad,D',aa,ae,F,ah,U,z,q,g3,g4⟩:=zbK aj ht ao rest (i::D) stale (push o ds) ar au s h5 G
     refine ⟨ad,D',aa,ae,F,ah,U,z,q,g3,fun tm0 tmps0 n0 w0 ν0 s0 E Sx ν w tmps c hI=>?_⟩
     obtain ⟨b1,b2,b3⟩:=base c hI
     refine g4 tm0 tmps0 n0 w0 ν0 s0 (⟨i,v,none⟩::E) Sx ν w tmps (by simp [c]) (ziR hI I b1 C b2 aq (q3 tm0 E ds none hI.cfg b1) q2 hI.out.st (fun a=>.inr rfl) (kad _) (fun a _=>rfl) (fun k p=>by cases p) ?_)
     exact ⟨true,o,C,fun W n hG hr=>ai W n hG (za3 (b3 _ W n hr)),fun h=>(by cases h),fun _=>.inl fun W n hG hr=>p2 W n hG (zkf (b3 _ W n hr))⟩
    ·obtain ⟨v,bb,p1,p2,p3⟩:=zse aj p r tm le s _ G
     rw [←p1] at G ⊢
     obtain ⟨ar,au,q1,q2,q3⟩:=zeV ht C G
     rw [←q1] at G ⊢
     obtain ⟨ad,D',aa,ae,F,ah,U,z,q,g3,g4⟩:=zbK aj ht ao rest (i::D) stale (push o ds) ar au _ h5 G
     refine ⟨ad,D',aa,ae,F,ah,U,z,q,g3,fun tm0 tmps0 n0 w0 ν0 s0 E Sx ν w tmps c hI=>?_⟩
     obtain ⟨b1,b2,b3⟩:=base c hI
     obtain ⟨hn,aP⟩:=hI.out.st.fresh s.nx (kad _)
     have av:(⟨Tr.set B.none bb s.nx s.h,s.nx.succ⟩:S).nx.toNat=s.nx.toNat+1:=K.toNat_succ _
     refine g4 tm0 tmps0 n0 w0 ν0 s0 (⟨i,v,some s.nx⟩::E) Sx ν w tmps (by simp [c]) (ziR hI I b1 C b2 aq (q3 tm0 E ds (some s.nx) hI.cfg b1) q2 (ziP hI.out.st bb (p2 ν w hn)) (fun a=>?_) (by rw [av];omega) (fun a ha=>?_) (fun k p=>by cases p;exact ⟨rfl,by rw [av];omega⟩) ?_)
     ·by_cases ha:a=s.nx
      ·subst ha;exact .inl aP
      ·right;simp only [get_set,if_neg ha]
     ·have aQ:a≠s.nx:=by intro e;subst e;omega
      simp only [get_set,if_neg aQ]
     ·refine ⟨true,o,C,fun W n hG hr=>ai W n hG (za3 (b3 _ W n hr)),fun h=>(by cases h),fun _=>.inr (.inr (.inr ⟨s.nx,bb,rfl,?_,hn,by rw [av];omega,.inl (by simp only [get_set,if_true])⟩))⟩
      intro aR aS W n L w' c1 c2 c3 c4 c5 c6
      exact p3 aR aS W n L w' c1 c2 (zkf (b3 _ W n c3)) c4 c5 c6
    ·obtain ⟨v,p1,p2⟩:=zms aj p r tm le s _ G
     rw [←p1] at G ⊢
     obtain ⟨ar,au,q1,q2,q3⟩:=zeV ht C G
     rw [←q1] at G ⊢
     obtain ⟨ad,D',aa,ae,F,ah,U,z,q,g3,g4⟩:=zbK aj ht ao rest (i::D) stale (push o ds) ar au s h5 G
     refine ⟨ad,D',aa,ae,F,ah,U,z,q,g3,fun tm0 tmps0 n0 w0 ν0 s0 E Sx ν w tmps c hI=>?_⟩
     obtain ⟨b1,b2,b3⟩:=base c hI
     refine g4 tm0 tmps0 n0 w0 ν0 s0 (⟨i,v,none⟩::E) Sx ν w tmps (by simp [c]) (ziR hI I b1 C b2 aq (q3 tm0 E ds none hI.cfg b1) q2 hI.out.st (fun a=>.inr rfl) (kad _) (fun a _=>rfl) (fun k p=>by cases p) ?_)
     exact ⟨true,o,C,fun W n hG hr=>ai W n hG (za3 (b3 _ W n hr)),fun h=>(by cases h),fun _=>.inr (.inr (.inl ⟨by rw [zzb C];exact p,fun W w' n al hG hr=>p2 W w' n al hG (zkf (b3 _ W n hr))⟩))⟩
    ·exact absurd p aO
end
section
variable {all:Array Oper} {fi:FI} {tm0:T} {tmps0:Array Value} {n0:Nat} {w0:World} {ν0:Val} {s0:S} {E:List DE} {ds:List Nat} {tm:T} {le:List V} {s:S} {Sx:Nat→Prop} {ν:Val} {w:World} {tmps:Array Value}
theorem zsM (I:Tidy all) (q:Inv P all fi tm0 tmps0 n0 w0 ν0 s0 E ds tm le s [] Sx ν w tmps) {i:Nat} {o:Oper} {v:V} {s1:S} {aj:List Nat} {ak:T} {al:List V} (hi:i<all.size) (ai:∀ e∈E,e.i≠i) (C:all[i]?=some o)
  (av:∀ j,j<all.size→yX all i j=true→∃ e∈E,e.i=j) (an:Acfg all fi tm0 (⟨i,v,none⟩::E) aj ak al) (ao:∀ d,o.dst=some d→d<fi.nt) {W:Val} {w':World} (ad:Out P n0 w0 ν s W s1 w') {y:Value} (G:VR W v y)
  (Q:∀ j,yX all i j=true→Sx j) :
  Inv P all fi tm0 tmps0 n0 w0 ν0 s0 (⟨i,v,none⟩::E) aj ak al s1 ((E.map (·.i)).filter fun j=>Nat.beq (kd all j) 2 && !(yX all i j)) (fun j=>Sx j∨j=i) W w' (wB tmps o.dst y):=by
 have ae:ye all i=o.dst:=by unfold ye;rw [C];rfl
 have qk:∀ t,(wB tmps o.dst y).getD t Go.undef=if o.dst=some t then y else tmps.getD t Go.undef:=by
  intro t
  cases u:o.dst with
  | none=>simp [wB]
  | some d =>
   have O:=ao d u
   simp only [wB]
   rw [zb9 (by rw [q.szt];exact O)]
   by_cases h:t=d
   ·subst h;simp
   ·rw [if_neg h,if_neg];intro l;simp only [Option.some.injEq] at l;exact h l.symm
 refine ⟨q.out.trans ad,q.glob.mono ad.le,q.ng,an,?_,fun e z=>?_,⟨av,q.topL⟩,⟨fun e z k F=>?_,fun e z e' aw L k F aq=>?_⟩,?_,fun e z t u=>?_,fun e z hS t u=>?_,fun t ar=>?_,fun t R U=>(q.fr0 t R U).mono' ad.le,fun j hS k F=>?_,fun j hS=>?_,fun e z F=>?_,fun e z hS=>?_⟩
 ·simp only [List.map_cons,List.nodup_cons]
  exact ⟨fun h=>by obtain ⟨e,z,J⟩:=jZ.1 h;exact ai e z J,q.nd⟩
 ·rcases kaj.1 z with h | h
  ·subst h;exact hi
  ·exact q.lt e h
 ·rcases kaj.1 z with h | h
  ·subst h;cases F
  ·have:=q.keys.lt e h k F
   have:=ad.nx
   omega
 ·rcases kaj.1 z with h | h
  ·subst h;cases F
  ·rcases kaj.1 aw with h' | h'
   ·subst h';cases aq
   ·exact q.keys.ne e h e' h' L k F aq
 ·cases u:o.dst<;>simp [wB,q.szt]
 ·rcases kaj.1 z with h | h
  ·subst h
   rw [ae] at u
   exact ao t u
  ·exact q.dlt e h t u
 ·rw [qk]
  rcases kaj.1 z with h | h
  ·subst h
   rw [ae] at u
   rw [if_pos u];exact G
  ·rw [if_neg (fun J=>ai e h (I.uniq _ _ t u (by rw [ae];exact J)))]
   rcases hS with hS | hS
   ·exact (q.c1 e h hS t u).mono' ad.le
   ·exact absurd hS (ai e h)
 ·rw [qk,if_neg (fun h=>ar i (.inr rfl) (by rw [ae];exact h))]
  exact q.c2 t (fun j r=>ar j (.inl r))
 ·rcases hS with hS | hS
  ·exact .inl (q.c3 j hS k F)
  ·subst hS;exact .inl (Q k F)
 ·rcases hS with hS | hS
  ·obtain ⟨e,z,J⟩:=q.c4 j hS
   exact ⟨e,kaC _ z,J⟩
  ·exact ⟨⟨i,v,none⟩,by simp,hS.symm⟩
 ·rcases kaj.1 z with h | h
  ·subst h;exact .inr rfl
  ·exact .inl (q.eff e h F)
 ·rcases kaj.1 z with h | h
  ·subst h;exact absurd (.inr rfl) hS
  ·have au:¬Sx e.i:=fun J=>hS (.inl J)
   obtain ⟨Y,o',N,p,q3,q4⟩:=q.pend e h au
   have mono:∀ {aa:Val} {n:Array Value},Rdy all fi tm0 (⟨i,v,none⟩::E) aa n e.i→Rdy all fi tm0 E aa n e.i:=fun ah=>ah.mono fun x M=>kaC _ M
   refine ⟨Y,o',N,fun aa n K ah=>p aa n K (mono ah),q3,fun hY=>?_⟩
   rcases q4 hY with g | g | ⟨g,_⟩ | ⟨a,b,R,U,X,g4,g5⟩
   ·exact .inl fun aa n K ah=>g aa n K (mono ah)
   ·exact absurd g.1 (by simp)
   ·refine .inr (.inl ⟨List.mem_filter.2 ⟨kau.2 ⟨e,h,rfl⟩,?_⟩,g⟩)
    rw [g]
    cases Z:yX all i e.i with
    | false=>rfl
    | true=>exact absurd (Q _ Z) au
   ·obtain ⟨B,c⟩:=ad.keep a X g4
    refine .inr (.inr (.inr ⟨a,b,R,fun ax ay aa n H az c1 c2 c3=>U ax ay aa n H az c1 c2 (mono c3),B,kan g4 ad.nx,?_⟩))
    rcases c with c | c
    ·rw [c];exact g5
    ·exact .inr c
end
variable {i:Nat}
theorem zwU {pc:PC} (ao:PcOk P pc) {r:R} (x:RS P pc r) {all:Array Oper} {fi:FI} (H:Tidy all) (aq:∀ (i:Nat) (o:Oper),all[i]?=some o→z7 o=false) {rest:List (Bool × Nat)} {D stale ds:List Nat} {tm:T} {le:List V} {s:S}
  (M:qL (ya all.toList []) (all.toList.map zT) all.toList D stale ((false,i)::rest)=true) (ar:kd all i=3) (G:¬((jp pc fi all.toList ((false,i)::rest) ds).run r tm le s).isBad) :
  ∃ ad al a ae s1 v o,all[i]?=some o∧qL (ya all.toList []) (all.toList.map zT) all.toList (i::D) ad rest=true∧(jp pc fi all.toList rest al).run r a ae s1=(jp pc fi all.toList ((false,i)::rest) ds).run r tm le s ∧
   ∀ (tm0:T) (tmps0:Array Value) (n0:Nat) (w0:World) (ν0:Val) (s0:S) (E:List DE) (Sx:Nat→Prop) (ν:Val) (w:World) (tmps:Array Value) (b:Base) (cs:List Frame) (df:List Deferred) (kk:List Item) (rl:List Nat),E.map (·.i)=D→Inv P all fi tm0 tmps0 n0 w0 ν0 s0 E ds tm le s [] Sx ν w tmps→Env ν0 b cs tm0 df→¬Sx i→(∀ j,yX all i j=true→Sx j) →
    ∃ W w' n,Inv P all fi tm0 tmps0 n0 w0 ν0 s0 (⟨i,v,none⟩::E) al a ae s1 ad (fun j=>Sx j∨j=i) W w' n∧Steps P (lone (b.fr tmps df (.inRegion all (i::rl)::kk)) cs w) (lone (b.fr n df (.inRegion all rl::kk)) cs w'):=by
 obtain ⟨I,J,Q,K,d⟩:=zaX M
 rw [if_pos ar] at d
 obtain ⟨o,C⟩:∃ o,all[i]?=some o:=⟨all[i],Array.getElem?_eq_getElem I⟩
 have au:all.toList[i]?=some o:=by rw [kam];exact C
 rw [zcX au] at G ⊢
 obtain ⟨X,hX,ah⟩:=zb7 G
 rw [←hX] at G ⊢
 have ai:=aq i o C
 have base:∀ {tm0:T} {tmps0:Array Value} {n0:Nat} {w0:World} {ν0:Val} {s0:S} {E:List DE} {Sx:Nat→Prop} {ν:Val} {w:World} {tmps:Array Value},E.map (·.i)=D→Inv P all fi tm0 tmps0 n0 w0 ν0 s0 E ds tm le s [] Sx ν w tmps→¬Sx i→(∀ j,yX all i j=true→Sx j) →
   (∀ e∈E,e.i≠i)∧(∀ j,j<all.size→yX all i j=true→∃ e∈E,e.i=j)∧∀ t∈y9 all.toList o,SlR ν fi T.get ds tm le tmps t:=by
  intro tm0 tmps0 n0 w0 ν0 s0 E Sx ν w tmps Y q hS aa
  have ak:∀ e∈E,e.i≠i:=fun e O h=>J (by rw [←Y];exact kau.2 ⟨e,O,h⟩)
  have an:∀ j,j<all.size→yX all i j=true→∃ e∈E,e.i=j:=fun j L Z=>jZ.1 (by rw [Y];exact Q j L Z)
  refine ⟨ak,an,zng q.cfg C (fun e O t u av=>?_) an (zxQ H q I hS aa)⟩
  rcases H.pair i e.i I (q.lt e O) o t C u av with h | h | h
  ·exact absurd h (ak e O)
  ·exact h
  ·obtain ⟨e',aw,h9⟩:=q.top e O i I h
   exact absurd h9 (ak e' aw)
 cases X with
 | false =>
  simp only [Bool.false_eq_true,if_false,zcC] at G ⊢
  obtain ⟨a,ae,N,p,B⟩:=zeV H C G
  rw [←N] at G ⊢
  refine ⟨_,push o ds,a,ae,s,undef,o,C,d.2,rfl,fun tm0 tmps0 n0 w0 ν0 s0 E Sx ν w tmps b cs df kk rl Y q aj hS aa=>?_⟩
  obtain ⟨c,b2,b3⟩:=base Y q hS aa
  have F:=ah ν tmps (q.glob.le q.ng) (za3 b3)
  have:=zsM H q I c C b2 (B tm0 E ds none q.cfg c) p (Out.refl q.out.st) (y:=Go.undef) VR.undef aa
  rw [Y] at this
  refine ⟨ν,w,_,this,.one ?_⟩
  have:=zfN (P:=P) (b:=b) (tm:=tmps) (df:=df) (k:=kk) (cs:=cs) (w:=w) (ops:=all) (i:=i) (rest:=rl) (by simp [C,F])
  rw [C] at this
  exact this
 | true =>
  simp only [if_true,zbk ai] at G ⊢
  obtain ⟨v,s1,p1,p2⟩:=zi3 ao x ai tm le s _ G
  rw [←p1] at G ⊢
  obtain ⟨a,ae,N,p,B⟩:=zeV H C G
  rw [←N] at G ⊢
  refine ⟨_,push o ds,a,ae,s1,v,o,C,d.2,rfl,fun tm0 tmps0 n0 w0 ν0 s0 E Sx ν w tmps b cs df kk rl Y q aj hS aa=>?_⟩
  obtain ⟨c,b2,b3⟩:=base Y q hS aa
  have F:=ah ν tmps (q.glob.le q.ng) (za3 b3)
  obtain ⟨W,y,w',z,U,l⟩:=p2 n0 w0 ν w tmps df b cs all i rl kk q.ng q.out.st q.glob (zkf b3) ((aj.mono q.out.le).same q.cfg.a4) C F
  have:=zsM H q I c C b2 (B tm0 E ds none q.cfg c) p z U aa
  rw [Y] at this
  exact ⟨W,w',_,this,l⟩
theorem zdT {pc:PC} (p:PcOk P pc) {r:R} (N:RS P pc r) {l:List Oper} {fi:FI} (Y:∀ (i:Nat) (o:Oper),l[i]?=some o→z7 o=false):∀ (st:List (Bool × Nat)) (ds:List Nat) (tm:T) (le:List V) (s:S),¬((jp pc fi l st ds).run r tm le s).isBad→∃ F U,(jp pc fi l st ds).run r tm le s=.nrm F U
 | [],ds,tm,le,s,_=>⟨tm,s,rfl⟩
 | (ag,i)::st,ds,tm,le,s,G=>by
  cases C:l[i]? with
  | none =>
   have:(jp pc fi l ((ag,i)::st) ds).run r tm le s=.bad 0:=by simp only [jp,C]
   rw [this] at G;exact absurd trivial G
  | some o =>
   have Q:∀ (e g:LoC),¬((qZ fi ds l o e g).run r tm le s).isBad→(qZ fi ds l o e g).run r tm le s=e.run r tm le s∨(qZ fi ds l o e g).run r tm le s=g.run r tm le s:=by
    intro e g G
    have J:(⟨l⟩:Array Oper).toList=l:=rfl
    have:=zb7 (all:=⟨l⟩) (by rw [J];exact G)
    obtain ⟨X,Z,_⟩:=this
    rw [J] at Z
    cases X with
    | true=>exact .inl Z.symm
    | false=>exact .inr Z.symm
   cases ag with
   | false =>
    rw [zcX C] at G ⊢
    rcases Q _ _ G with h | h
    ·rw [h,zbk (Y i o C)] at G
     rw [h,zbk (Y i o C)]
     obtain ⟨v,s1,O,_⟩:=zi3 p N (Y i o C) tm le s _ G
     rw [←O] at G ⊢
     obtain ⟨H,n,j,_⟩:=zjU G
     rw [←j] at G ⊢
     exact zdT p N Y st _ _ _ _ G
    ·rw [h,zcC] at G
     rw [h,zcC]
     obtain ⟨H,n,j,_⟩:=zjU G
     rw [←j] at G ⊢
     exact zdT p N Y st _ _ _ _ G
   | true =>
    rw [zhq C] at G ⊢
    rcases Q _ _ G with h | h
    ·cases B:o.dst with
     | none=>rw [h] at G;exact absurd (zik B r tm le s) G
     | some d =>
      rw [h,zfZ B] at G
      rw [h,zfZ B]
      obtain ⟨v,s1,O,_⟩:=zi3 p N (Y i o C) tm le s _ G
      rw [←O] at G ⊢
      obtain ⟨u,x,_⟩:=qf fi ds (.tmp d) tm le _ G
      rw [←x] at G ⊢
      cases hb:yT v u with
      | false=>simp only [hb] at G;exact absurd trivial G
      | true =>
       simp only [hb] at G ⊢
       exact zdT p N Y st _ _ _ _ G
    ·rw [h] at G ⊢
     exact zdT p N Y st _ _ _ _ G
theorem ziC {p p':Nat→Bool} (h:∀ j,p' j=true→p j=true):∀ (L:List Nat),(L.filter p').length≤(L.filter p).length∧∀ i∈L,p i=true→p' i=false→(L.filter p').length<(L.filter p).length
 | []=>⟨kad _,fun i hi=>by cases hi⟩
 | x::L=>by
  obtain ⟨I,J⟩:=ziC h L
  constructor
  ·cases M:p' x with
   | true=>simp only [List.filter_cons,M,h x M,if_true,kay];omega
   | false=>cases C:p x<;>simp only [List.filter_cons,M,C,if_true,Bool.false_eq_true,if_false,kay]<;>omega
  ·intro i hi Z W
   rcases kaj.1 hi with e | e
   ·subst e
    simp only [List.filter_cons,Z,W,if_true,Bool.false_eq_true,if_false,kay];omega
   ·have:=J i e Z W
    cases M:p' x with
    | true=>simp only [List.filter_cons,M,h x M,if_true,kay];omega
    | false=>cases C:p x<;>simp only [List.filter_cons,M,C,if_true,Bool.false_eq_true,if_false,kay]<;>omega
def cnt (n:Nat) (listed:Array Bool):Nat:=((List.range n).filter fun j=>!(listed.getD j false)).length
theorem zbv {listed:Array Bool} (hi:i<listed.size) (j:Nat):(listed.setIfInBounds i true).getD j false=true↔listed.getD j false=true∨j=i:=by
 by_cases h:i=j
 ·subst h
  simp [hi]
 ·rw [getD_set_ne false h]
  constructor
  ·exact .inl
  ·rintro (I | I)
   ·exact I
   ·exact absurd I.symm h
theorem zh3 {all:Array Oper} {Sx:Nat→Prop}:∀ {E:List DE},zvx all E→(∃ e∈E,¬Sx e.i)→∃ e∈E,¬Sx e.i∧∀ j,j<all.size→yX all e.i j=true→Sx j
 | [],_,⟨e,z,_⟩=>by cases z
 | x::E,h,B=>by
  by_cases Y:∃ e∈E,¬Sx e.i
  ·obtain ⟨e,z,I,J⟩:=zh3 h.2 Y
   exact ⟨e,kaC _ z,I,J⟩
  ·obtain ⟨e,z,n⟩:=B
   rcases kaj.1 z with I | I
   ·subst I
    refine ⟨e,by simp,n,fun j G Z=>?_⟩
    obtain ⟨c,p,J⟩:=h.1 j G Z
    by_cases C:Sx j
    ·exact C
    ·exact absurd ⟨c,p,by rw [J];exact C⟩ Y
   ·exact absurd ⟨e,I,n⟩ Y
theorem zkg {all:Array Oper} {o:Oper} (C:all[i]?=some o):(∀ j,yX all i j=true→∃ e∈o.after.toList,Region.binds .any e=true∧(e.on=j∨yX all e.on j=true))∧∀ e∈o.after.toList,Region.binds .any e=true→yX all i e.on=true:=by
 have:=zlN all.toList [] i o (by rw [kam];exact C)
 simp only [List.length_nil,kas] at this
 exact this
theorem Inv.congr {all:Array Oper} {fi:FI} {tm0:T} {tmps0:Array Value} {n0:Nat} {w0:World} {ν0:Val} {s0:S} {D:List DE} {ds:List Nat} {tm:T} {le:List V} {s:S} {stale:List Nat} {S B:Nat→Prop} {ν:Val} {w:World} {tmps:Array Value} (h:∀ j,S j↔B j)
  (q:Inv P all fi tm0 tmps0 n0 w0 ν0 s0 D ds tm le s stale S ν w tmps):Inv P all fi tm0 tmps0 n0 w0 ν0 s0 D ds tm le s stale B ν w tmps:=by
 have:S=B:=funext fun j=>propext (h j)
 rw [←this];exact q
theorem zvV {pc:PC} (aF:PcOk P pc) {r:R} (c:RS P pc r) {all:Array Oper} {fi:FI} (l:Tidy all) (aA:∀ (i:Nat) (o:Oper),all[i]?=some o→z7 o=false) (aB:znp all.toList=true) {tm0:T} {tmps0:Array Value} {n0:Nat} {w0:World} {ν0:Val} {s0:S} {b:Base} {cs:List Frame} {df:List Deferred} {kk:List Item} (aG:Env ν0 b cs tm0 df) :
  ∀ (fuel t:Nat) (listed:Array Bool) (rest:List (Bool × Nat)) (D stale ds:List Nat) (tm:T) (le:List V) (s:S) (E:List DE) (ν:Val) (w:World) (tmps:Array Value),listed.size=all.size→cnt all.size listed≤fuel→(rest=[]∨∃ i r',rest=(false,i)::r'∧kd all i=3) →
   qL (ya all.toList []) (all.toList.map zT) all.toList D stale rest=true→¬((jp pc fi all.toList rest ds).run r tm le s).isBad→E.map (·.i)=D→Inv P all fi tm0 tmps0 n0 w0 ν0 s0 E ds tm le s stale (fun j=>listed.getD j false=true) ν w tmps →
   ∃ ad sF W w' n,(jp pc fi all.toList rest ds).run r tm le s=.nrm ad sF∧Out P n0 w0 ν0 s0 W sF w'∧FrR W fi T.get ad n∧T.get ad 240=T.get tm0 240 ∧
    Steps P (lone (b.fr tmps df (.inRegion all (Region.linearise.go .any all fuel t listed [])::kk)) cs w) (lone (b.fr n df kk) cs w'):=by
 -- all is done
 have fin:∀ (listed:Array Bool) (rest:List (Bool × Nat)) (D stale ds:List Nat) (tm:T) (le:List V) (s:S) (E:List DE) (ν:Val) (w:World) (tmps:Array Value),(rest=[]∨∃ i r',rest=(false,i)::r'∧kd all i=3) →
   qL (ya all.toList []) (all.toList.map zT) all.toList D stale rest=true→E.map (·.i)=D→Inv P all fi tm0 tmps0 n0 w0 ν0 s0 E ds tm le s stale (fun j=>listed.getD j false=true) ν w tmps→(∀ i,i<all.size→listed.getD i false=true) →
   ∃ ad sF W w' n,(jp pc fi all.toList rest ds).run r tm le s=.nrm ad sF∧Out P n0 w0 ν0 s0 W sF w'∧FrR W fi T.get ad n∧T.get ad 240=T.get tm0 240 ∧
    Steps P (lone (b.fr tmps df (.inRegion all []::kk)) cs w) (lone (b.fr n df kk) cs w'):=by
  intro listed rest D stale ds tm le s E ν w tmps ae aa Y hI ax
  rcases ae with h | ⟨i,r',h,F⟩
  ·subst h
   refine ⟨tm,s,ν,w,tmps,rfl,hI.out,⟨hI.szt,fun t z U=>?_⟩,hI.cfg.a4,.one zfo⟩
   by_cases ah:∃ e∈E,ye all e.i=some t
   ·obtain ⟨e,X,B⟩:=ah
    rw [hI.cfg.a2' e X t B z U]
    exact hI.c1 e X (ax _ (hI.lt e X)) t B
   ·rw [hI.cfg.a2 t z U (fun e X B=>ah ⟨e,X,B⟩),hI.c2 t (fun j L B=>by
     obtain ⟨e,X,J⟩:=hI.c4 j L
     exact ah ⟨e,X,by rw [J];exact B⟩)]
    exact hI.fr0 t z U
  ·subst h
   obtain ⟨I,J,_⟩:=zaX aa
   obtain ⟨e,X,Q⟩:=hI.c4 i (ax i I)
   exact absurd (by rw [←Y];exact jZ.2 ⟨e,X,Q⟩) J
 intro fuel
 induction fuel with
 | zero =>
  intro t listed rest D stale ds tm le s E ν w tmps hsz al ae aa G Y hI
  refine fin listed rest D stale ds tm le s E ν w tmps ae aa Y hI (fun i hi=>?_)
  cases u:listed.getD i false with
  | true=>rfl
  | false =>
   have hm:i∈(List.range all.size).filter fun j=>!(listed.getD j false):=List.mem_filter.2 ⟨kaM.2 hi,by rw [u];rfl⟩
   have:=List.length_pos_of_mem hm
   unfold cnt at al
   omega
 | succ fuel q =>
  intro t listed rest D stale ds tm le s E ν w tmps hsz al ae aa G Y hI
  have aS:Region.linearise.go .any all (fuel+1) t listed []=(match (Region.ready .any all listed)[t % (Region.ready .any all listed).length]? with
   | some i=>Region.linearise.go .any all fuel (t / (Region.ready .any all listed).length) (listed.setIfInBounds i true) [i]
   | none=>[].reverse):=rfl
  rw [aS]
  cases hi:(Region.ready .any all listed)[t % (Region.ready .any all listed).length]? with
  | none =>
   have aH:Region.ready .any all listed=[]:=by
    cases an:Region.ready .any all listed with
    | nil=>rfl
    | cons x xs =>
     rw [an] at hi
     have O:t % (x::xs).length<(x::xs).length:=Nat.mod_lt _ (by simp)
     rw [kab O] at hi
     cases hi
   refine fin listed rest D stale ds tm le s E ν w tmps ae aa Y hI (fun i hi=>?_)
   cases u:listed.getD i false with
   | true=>rfl
   | false =>
    exfalso
    -- aC is ready
    have aJ:∃ j,j<all.size∧¬listed.getD j false=true∧∀ k,k<all.size→yX all j k=true→listed.getD k false=true:=by
     by_cases ah:∃ e∈E,¬listed.getD e.i false=true
     ·obtain ⟨e,X,I,J⟩:=zh3 (Sx:=fun j=>listed.getD j false=true) hI.topL ah
      exact ⟨e.i,hI.lt e X,I,J⟩
     ·have ao:∀ e∈E,listed.getD e.i false=true:=fun e X=>by
       cases M:listed.getD e.i false with
       | true=>rfl
       | false=>exact absurd ⟨e,X,by rw [M];simp⟩ ah
      rcases ae with h | ⟨e,r',h,F⟩
      ·subst h
       have:=(zoj aa).2 i hi
       rw [←Y] at this
       obtain ⟨x,M,J⟩:=jZ.1 this
       have:=ao x M
       rw [J,u] at this;cases this
      ·subst h
       obtain ⟨I,J,Q,_⟩:=zaX aa
       refine ⟨e,I,fun hS=>?_,fun k aT Z=>?_⟩
       ·obtain ⟨x,M,K⟩:=hI.c4 e hS
        exact J (by rw [←Y];exact jZ.2 ⟨x,M,K⟩)
       ·have:=Q k aT Z
        rw [←Y] at this
        obtain ⟨x,M,K⟩:=jZ.1 this
        rw [←K];exact ao x M
    obtain ⟨j,L,aU,aV⟩:=aJ
    have ai:j∈Region.ready .any all listed:=by
     rw [mem_ready]
     obtain ⟨o,C⟩:∃ o,all[j]?=some o:=⟨all[j],Array.getElem?_eq_getElem L⟩
     refine ⟨?_,o,C,fun e X hb=>?_⟩
     ·have O:j<listed.size:=by omega
      cases M:listed[j]'O with
      | false=>simp [Array.getD_eq_getD_getElem?,O,M]
      | true=>exact absurd (by simp [Array.getD_eq_getD_getElem?,O,M]) aU
     ·have aK:e∈o.after.toList:=by simpa using X
      refine aV e.on ?_ ((zkg C).2 e aK hb)
      unfold znp at aB
      rw [kao] at aB
      have d:=aB o (kav (by rw [kam];exact C))
      rw [kao] at d
      have y:=d e aK
      rw [hb] at y
      simpa [Nat.blt_eq] using y
    rw [aH] at ai;cases ai
  | some i =>
   simp only
   rw [linearise_go_acc,List.reverse_singleton,List.singleton_append]
   have ai:=kav hi
   rw [mem_ready] at ai
   obtain ⟨aL,o,C,aM⟩:=ai
   have aq:i<all.size:=(kat.1 C).1
   have aj:i<listed.size:=by omega
   have hS:¬listed.getD i false=true:=by
    intro h
    simp only [Array.getD_eq_getD_getElem?,Array.getElem?_eq_getElem aj,Option.getD_some] at h aL
    rw [aL] at h;cases h
   have an:∀ j,yX all i j=true→listed.getD j false=true:=by
    intro j Z
    obtain ⟨e,X,hb,h⟩:=(zkg C).1 j Z
    have aN:=aM e (by simpa using X) hb
    rcases h with h | h
    ·rw [←h];exact aN
    ·exact hI.c3 e.on aN j h
   have ar:cnt all.size (listed.setIfInBounds i true)≤fuel:=by
    have:=(ziC (p:=fun j=>!(listed.getD j false)) (p':=fun j=>!((listed.setIfInBounds i true).getD j false)) (fun j L=>by
     cases M:listed.getD j false with
     | false=>rfl
     | true =>
      have:=(zbv aj j).2 (.inl M)
      simp only [this] at L;cases L) (List.range all.size)).2 i (kaM.2 aq) (by
       cases M:listed.getD i false with
       | false=>rfl
       | true=>exact absurd M hS) (by
       have:=(zbv aj i).2 (.inr rfl)
       simp only [this];rfl)
    unfold cnt at al ⊢
    omega
   have ay:(listed.setIfInBounds i true).size=all.size:=by simpa using hsz
   have au:stale=[]:=by
    rcases ae with h | ⟨e,r',h,F⟩
    ·subst h;exact (zoj aa).1
    ·subst h
     have:=(zaX aa).2.2.2.2
     rw [if_pos F] at this
     exact this.1
   subst au
   by_cases ah:∃ e∈E,e.i=i
   ·obtain ⟨e,X,I⟩:=ah
    subst I
    obtain ⟨W,w',n,z,U⟩:=zvM l aA hI X hS an
    obtain ⟨ad,sF,aD,w2,ak,k1,k2,k3,k4,k5⟩:=q (t / (Region.ready .any all listed).length) (listed.setIfInBounds e.i true) rest D [] ds tm le s E W w' n ay ar ae aa G Y (z.congr fun j=>(zbv aj j).symm)
    exact ⟨ad,sF,aD,w2,ak,k1,k2,k3,k4,.head (U b cs df kk _) k5⟩
   ·have aO:i ∉ D:=fun h=>by rw [←Y] at h;exact ah (jZ.1 h)
    rcases ae with h | ⟨e,r',h,F⟩
    ·subst h;exact absurd ((zoj aa).2 i aq) aO
    ·subst h
     have aW:i=e:=by
      by_cases h:i=e
      ·exact h
      ·exfalso
       obtain ⟨N,a,q3,q4,q5⟩:=zaX aa
       rw [if_pos F] at q5
       have Z:=zgL q5.2 (e:=e) (by simp) F i aq (by simp [h,aO])
       obtain ⟨x,M,K⟩:=hI.c4 e (an e Z)
       exact a (by rw [←Y];exact jZ.2 ⟨x,M,K⟩)
     subst aW
     obtain ⟨av,aP,aQ,aR,s1,v,o',p1,p2,p3,p4⟩:=zwU aF c l aA aa F G
     have az:¬((jp pc fi all.toList r' aP).run r aQ aR s1).isBad:=by rw [p3];exact G
     obtain ⟨aE,D2,aw,aX,aY,aZ,H,a1,a2,a3,a4⟩:=zbK aF l aA r' (i::D) av aP aQ aR s1 p2 az
     obtain ⟨W,w',n,z,U⟩:=p4 tm0 tmps0 n0 w0 ν0 s0 E _ ν w tmps b cs df kk (Region.linearise.go .any all fuel (t / (Region.ready .any all listed).length) (listed.setIfInBounds i true) []) Y hI aG hS an
     obtain ⟨E2,b1,b2⟩:=a4 tm0 tmps0 n0 w0 ν0 s0 _ _ W w' n (by simp [Y]) z
     obtain ⟨ad,sF,aD,w2,ak,k1,k2,k3,k4,k5⟩:=q (t / (Region.ready .any all listed).length) (listed.setIfInBounds i true) aE D2 aw aX aY aZ H E2 W w' n ay ar a1 a2 (by rw [a3];exact az) b1 (b2.congr fun j=>(zbv aj j).symm)
     exact ⟨ad,sF,aD,w2,ak,by rw [←p3,←a3];exact k1,k2,k3,k4,U.trans k5⟩
theorem zv6 {pc:PC} (v:PcOk P pc) {r:R} (N:RS P pc r) {fi:FI} {all:Array Oper} {d:Bool} {tm:T} {s:S} (G:¬((zg0 pc fi d all.toList).run r tm [] s).isBad) (id:Nat):zh5 P fi (.region id all d) tm s ((zg0 pc fi d all.toList).run r tm [] s):=by
 cases d with
 | false =>
  have an:List.range' 0 all.toList.length=List.range all.size:=by rw [List.range_eq_range'];simp
  intro n0 w0 ν w tmps df b cs kk I Y O B z
  have J:=znK v N fi all all.toList 0 [] tm [] s (by simp) G n0 w0 ν w tmps df b cs kk I Y O (FrX.of B) z
  rw [an] at J
  exact jq.steps (.one zuH) J
 | true =>
  unfold zg0 at G ⊢
  simp only at G ⊢
  cases X:(pc.mixed && zhb all.toList (ya all.toList []) (all.toList.map zT) (yh all.toList)) with
  | false=>rw [X] at G;exact absurd trivial G
  | true =>
   rw [X] at G
   simp only at G ⊢
   have e:(match jp pc fi all.toList (yh all.toList) [] with | ⟨f⟩=>(⟨fun r tm le s=>f r tm le s⟩:LoC)).run r tm [] s=(jp pc fi all.toList (yh all.toList) []).run r tm [] s:=rfl
   rw [e] at G ⊢
   rw [kaf] at X
   obtain ⟨ao,X⟩:=X
   unfold zhb at X
   simp only [kaf] at X
   obtain ⟨⟨⟨c1,c2⟩,c3⟩,c4⟩:=X
   have l:=zA1 c1
   have x:∀ (i:Nat) (o:Oper),all[i]?=some o→z7 o=false:=by
    intro i o C
    cases u:z7 o with
    | false=>rfl
    | true =>
     have:all.toList.any z7=true:=List.any_eq_true.2 ⟨o,kav (by rw [kam];exact C),u⟩
     rw [this] at c4;cases c4
   have ah:∀ (i:Nat) (o:Oper),all.toList[i]?=some o→z7 o=false:=fun i o C=>x i o (by rw [kam] at C;exact C)
   obtain ⟨aw,sF,ad⟩:=zdT v N ah _ _ _ _ _ G
   obtain ⟨ae,D2,aa,aq,ar,au,H,a1,a2,a3,a4⟩:=zbK v l x (yh all.toList) [] [] [] tm [] s c2 G
   rw [ad]
   intro n0 w0 ν w tmps df b cs kk I Y O B z
   have ai:St P n0 w0 ν s { w with drawn:=w.drawn+1 }:=Y.heap rfl rfl rfl rfl
   have q:Inv P all fi tm tmps n0 w0 ν s [] [] tm [] s [] (fun j=>(Array.replicate all.size false).getD j false=true) ν { w with drawn:=w.drawn+1 } tmps:=by
    have aj:∀ j,¬(Array.replicate all.size false).getD j false=true:=by
     intro j
     simp only [Array.getD_eq_getD_getElem?,Array.getElem?_replicate]
     split<;>simp
    exact ⟨Out.refl ai,O,I,⟨fun t k F=>by simp [idx] at F,fun t _ _ _=>rfl,fun e z=>(by cases z),fun e z=>(by cases z),rfl⟩,by simp,fun e z=>(by cases z),trivial,⟨fun e z=>(by cases z),fun e z=>(by cases z)⟩,B.1,fun e z=>(by cases z),fun e z=>(by cases z),fun t _=>rfl,B.2,fun i hi=>absurd hi (aj i),fun i hi=>absurd hi (aj i),fun e z=>(by cases z),fun e z=>(by cases z)⟩
   obtain ⟨p,Z,U⟩:=a4 tm tmps n0 w0 ν s [] _ ν _ tmps rfl q
   have ak:cnt all.size (Array.replicate all.size false)≤all.size:=by
    unfold cnt
    have:=List.length_filter_le (fun j=>!((Array.replicate all.size false).getD j false)) (List.range all.size)
    simpa using this
   obtain ⟨av,ax,W,w',n,K,Q,y,a,c⟩:=zvV v N l x c3 (b:=b) (cs:=cs) (df:=df) (kk:=kk) z all.size (w.tape w.drawn (.order b.fn id)) (Array.replicate all.size false) ae D2 aa aq ar au H p ν _ tmps (by simp) ak a1 a2 (by rw [a3];exact G) Z U
   rw [a3,ad] at K
   simp only [A.nrm.injEq] at K
   obtain ⟨L,M⟩:=K
   subst L M
   refine ⟨W,w',n,df,Q,y,(z.mono Q.le).same a,.head zkR ?_⟩
   have al:Region.schedule (P.follows .mixedOrders) all (w.tape w.drawn (.order b.fn id))=Region.linearise.go .any all all.size (w.tape w.drawn (.order b.fn id)) (Array.replicate all.size false) []:=by
    simp only [Region.schedule,v.mixed ao,Bool.true_or,if_true,Region.linearise]
   rw [al]
   exact c
theorem Steps.tail {m a m':Machine} (h:step P m=.next a) (Z:m≠m') (C:Steps P m m'):Steps P a m':=by
 obtain ⟨n,o⟩:=C
 cases n with
 | zero=>simp only [runN,Stepped.next.injEq] at o;exact absurd o Z
 | succ n=>simp only [runN,h] at o;exact ⟨n,o⟩
theorem znh {b:Base} {cs Z:List Frame} {w w':World} {t a:Array Value} {df L:List Deferred} {k H:List Item} (h:k≠H):lone (b.fr t df k) cs w≠lone (b.fr a L H) Z w':=by
 intro e
 simp only [lone,Machine.mk.injEq,Array.mk.injEq,List.cons.injEq,Goroutine.mk.injEq,Base.fr,Frame.mk.injEq] at e
 exact h e.2.1.1.1.2.2.1
theorem jq.loop {n0:Nat} {w0 w:World} {fi:FI} {ν:Val} {s:S} {b:Base} {cs:List Frame} {kk:List Item} {res:A} {c:Code} {tmps:Array Value} {df:List Deferred}
  (h:jq P n0 w0 fi ν s b cs (lone (b.fr tmps df (.code (.loop c)::kk)) cs w) kk res):jq P n0 w0 fi ν s b cs (lone (b.fr tmps df (.inLoop c::kk)) cs w) kk res:=by
 induction res with
 | nrm F U =>
  obtain ⟨W,w',n,L,I,J,Q,K⟩:=h
  refine ⟨W,w',n,L,I,J,Q,.head zg8 (Steps.tail ziW (znh ?_) K)⟩
  intro e
  have:=congrArg List.length e
  simp at this
 | ext i F U =>
  obtain ⟨W,w',n,L,todo,I,J,Q,K,d⟩:=h
  exact ⟨W,w',n,L,todo,I,J,Q,K,.head zg8 (Steps.tail ziW (znh (by simp)) d)⟩
 | ret F U =>
  obtain ⟨W,w',n,L,todo,I,J,Q,K⟩:=h
  exact ⟨W,w',n,L,todo,I,J,Q,.head zg8 (Steps.tail ziW (znh (by simp)) K)⟩
 | _=>exact h
section
variable {n0:Nat} {w0:World} {fi:FI} {ν:Val} {s:S} {b:Base} {cs:List Frame} {m:Machine} {kk:List Item} {f:T→S→A} {g:Nat→T→S→A} {h:T→S→A}
theorem zhP:∀ {x:A},x.isBad→(zd7 f g h x).isBad
 | .bad _,h=>h
theorem zjF {kk':List Item} (B:∀ H s1,¬(f H s1).isBad→jq P n0 w0 fi ν s b cs m kk' (.nrm H s1)→jq P n0 w0 fi ν s b cs m kk (f H s1))
  (Q:∀ i H s1,¬(g i H s1).isBad→jq P n0 w0 fi ν s b cs m kk' (.ext i H s1)→jq P n0 w0 fi ν s b cs m kk (g i H s1))
  (y:∀ H s1,¬(h H s1).isBad→jq P n0 w0 fi ν s b cs m kk' (.ret H s1)→jq P n0 w0 fi ν s b cs m kk (h H s1)):∀ {x:A},¬(zd7 f g h x).isBad→jq P n0 w0 fi ν s b cs m kk' x→jq P n0 w0 fi ν s b cs m kk (zd7 f g h x)
 | .nrm tm s,G,M=>B tm s G M
 | .ext i tm s,G,M=>Q i tm s G M
 | .ret tm s,G,M=>y tm s G M
theorem zcn:∀ {x:A},x.isBad→(zF x).isBad
 | .bad _,h=>h
theorem zlP:∀ {x:A},x.isBad→(zx f x).isBad
 | .bad _,h=>h
theorem zoB {p:V→S→Prop} (B:∀ H s1,¬(f H s1).isBad→(jq P n0 w0 fi ν s b cs m kk (.nrm H s1)∨jq P n0 w0 fi ν s b cs m kk (.ret H s1))→(zF (f H s1)).Has p):∀ {x:A},¬(zF (zx f x)).isBad→jq P n0 w0 fi ν s b cs m kk x→(zF (zx f x)).Has p
 | .nrm tm s,G,M=>B tm s (fun q=>G (zcn q)) (.inl M)
 | .ext _ _ _,G,_=>absurd trivial G
 | .ret tm s,G,M=>B tm s (fun q=>G (zcn q)) (.inr M)
end
theorem zmv {n0:Nat} {w0 w:World} {ν:Val} {s:S} (Y:St P n0 w0 ν s w) (B':B) (o:Obj) (I:∀ w',BR P ν w' s.nx B')
  (J:∀ w':World,w'.heap[w.heap.size]?=some o→BR P (ν.add s.nx 0 w.heap.size 0 0) w' s.nx B') :
  Out P n0 w0 ν s (ν.add s.nx 0 w.heap.size 0 0) ⟨Tr.set B.none B' s.nx s.h,s.nx.succ⟩ (w.alloc o):=by
 obtain ⟨j,_⟩:=Y.fresh s.nx (kad _)
 have c:=ziP Y B' (I w)
 have Q:n0≤w.heap.size:=kaB Y.n0le Y.below.size
 have:=zef c s.nx j (by show _<s.nx.succ.toNat;rw [K.toNat_succ];omega) 0 0 0 (zcE w o) (fun k F=>Below.heap_alloc w o k F) (c.below.alloc Q o) (by
  simp only [get_set,if_true]
  exact J _ (zaR w o))
 refine ⟨Val.le_add j,this,by show _≤s.nx.succ.toNat;rw [K.toNat_succ];omega,fun a U O=>?_⟩
 have Z:a≠s.nx:=by intro e;subst e;omega
 exact ⟨fun v=>by rw [Val.add_other Z];exact U v,.inl (by simp only [get_set,if_neg Z])⟩
section moves
variable {b:Base} {tm:Array Value} {df:List Deferred} {k:List Item} {cs:List Frame} {w w1 w':World}
variable {l:Nat}
theorem znq {f:Operand} {ps:Array Tmp} {e body:Code} {mark:List Deferred} {N:Next} (G:b.ro=none) (I:Next.begins N) (h:(Instr.enterLoop b.fn tm ps e body none).run P w=.ok (l,mark) w1)
  (X:(do let d ←Deferred.ofValue (ev tm f) #[.func (.yield l) #[] #[]];invoke d.target d.args:Sem Next).run P w1=.ok N w') :
  step P (lone (b.fr tm df (.code (.rangeFunc f ps e body)::k)) cs w)=.next (lone (znl P N) (b.fr tm (mark++df) (.inRangeFunc l::k)::cs) w'):=by
 have z:(b.fr tm (mark++df) (.inRangeFunc l::k)).eval=ev tm:=znT b tm _ _
 simp only [Base.fr] at z
 rw [G] at z
 have C:(do let d ←resolve (ev tm) { callee:=.value f,args:=#[.const (.func (.yield l) #[] #[])],argTypes:=#[] } 0;invoke d.target d.args:Sem Next).run P w1=.ok N w':=by
  have:resolve (ev tm) { callee:=.value f,args:=#[.const (.func (.yield l) #[] #[])],argTypes:=#[] } 0=Deferred.ofValue (ev tm f) #[.func (.yield l) #[] #[]]:=by
   simp [resolve,ev]
  rw [this];exact X
 cases N with
 | enter g a=>exact step_lone_go (by simp [stepG,stepG.exec,stepG.apply,Base.fr,G,h,z,C,znl])
 | round a1 a2 a3 a4 a5=>exact step_lone_go (by simp [stepG,stepG.exec,stepG.apply,Base.fr,G,h,z,C,znl])
 | _=>exact I.elim
theorem zqw {jump:Option Code} (h:(Instr.endLoop l).run P w=.ok jump w'):step P (lone (b.fr tm df (.endRangeFunc l::k)) cs w)=.next (lone (b.fr tm df ((jump.map Item.code).toList++k)) cs w') :=
 step_lone_go (by simp [stepG,stepG.exec,Base.fr,h])
end moves
theorem zlu (pc:PC) (fi:FI) (f:Operand) (ps:Array Tmp) (e body:Code) (r:R) (tm:T) (s:S):(zj pc fi (.rangeFunc f ps e body)).run r tm s=(geC 240).run tm fun dl=>(@V.rec mA mU eA eC eC eB eB eD eF eF eB eC
    (fun _ dl _=>zcR s (.dfd (some [])) fun d s=>zcR s (.loop 0 none fi tm ps.toList e body d) fun l s=>(puC 240).run (.ls 1 (.ref 2 d::dl)) tm fun tm =>
       (opd fi [] f).run tm [] fun fv=>jv r fv [.ref 3 l] tm s fun _ s=>qk s l fun b=>(@B.rec mD eA eH eC (fun st p _ _ _ _ _ _=>(@Bool.rec (fun _=>A) (zdq s l 3 p fun s=>(match p with
           | none=>.nrm tm s
           | some .ret=>.ret tm s
           | some (.exit i)=>.ext i tm s
           | some _=>.bad 0)) eA (Nat.beq st 1))) eB eD b)) eF eD () tE dl:A):=by
  simp only [zj]
  rfl
theorem zob {pc:PC} (_:PcOk P pc) {r:R} (x:RS P pc r) {fi:FI} {f:Operand} {ps:Array Tmp} {aa body:Code} {tm:T} {s:S} (G:¬((zj pc fi (.rangeFunc f ps aa body)).run r tm s).isBad):zh5 P fi (.rangeFunc f ps aa body) tm s ((zj pc fi (.rangeFunc f ps aa body)).run r tm s):=by
 rw [zlu] at G ⊢
 have C:=zd2 G
 rw [←C] at G ⊢
 cases u:T.get tm 240 with
 | ls t dl =>
  rw [u] at G
  simp only [zfc] at G ⊢
  generalize aS:(⟨Tr.set B.none (.loop 0 none fi tm ps.toList aa body s.nx) s.nx.succ (Tr.set B.none (.dfd (some [])) s.nx s.h),s.nx.succ.succ⟩:S)=H at G ⊢
  obtain ⟨ah,I,J⟩:=zeC G
  rw [←I] at G ⊢
  obtain ⟨fv,Q,K⟩:=qf fi [] f ah [] _ G
  rw [←Q] at G ⊢
  obtain ⟨v,s3,o,Z⟩:=zq0 x G
  rw [←o] at G ⊢
  simp only [y8] at G ⊢
  have aw:∀ (ν:Val) (tmps:Array Value),FrR ν fi T.get tm tmps→FrR ν fi T.get ah tmps:=fun ν tmps h=>⟨h.1,fun t d U=>by rw [J,if_neg (by omega)];exact h.2 t d U⟩
  have ar:T.get ah 240=.ls 1 (.ref 2 s.nx::dl):=by rw [J,if_pos rfl]
  cases y:Tr.get B.none s.nx.succ s3.h with
  | loop st p aT F ax ao ai ad =>
   rw [y] at G
   simp only at G ⊢
   cases hz:Nat.beq st 1 with
   | true=>rw [hz] at G;exact absurd trivial G
   | false =>
    simp only [hz] at G ⊢
    obtain ⟨ba,p0,bb,tm0,bc,aZ,aU,bd,au,h7⟩:=zfU G
    rw [y] at au
    simp only [B.loop.injEq] at au
    obtain ⟨L,M,e3,e4,e5,e6,e7,e8⟩:=au
    subst L M e3 e4 e5 e6 e7 e8
    rw [←h7] at G ⊢
    generalize ay:(⟨Tr.set B.none (.loop 3 p aT F ax ao ai ad) s.nx.succ s3.h,s3.nx⟩:S)=s4 at G ⊢
    -- up to bg jump
    have core:∀ n0 w0 ν w tmps df b cs kk,fi.ng≤P.globals.size→St P n0 w0 ν s w→yn ν P.globals.size→FrR ν fi T.get tm tmps→Env ν b cs tm df →
      ∃ W w' ad,Out P n0 w0 ν s W s4 w'∧FrR W fi T.get ah tmps∧Env W b cs ah ad∧Steps P (lone (b.fr tmps df (.code (.rangeFunc f ps aa body)::kk)) cs w) (lone (b.fr tmps ad ((p.map Item.code).toList++kk)) cs w'):=by
     intro n0 w0 ν w tmps df b cs kk ae Y l X O
     have az:=O.ro _ _ u
     obtain ⟨e,_⟩:=Y.fresh s.nx (kad _)
     have o1:=zmv Y (.dfd (some [])) (.deferred (some [])) (fun w' v b' q h=>by rw [e] at h;cases h) (fun w' al v b' q h=>by
      obtain ⟨j,a⟩:=Val.add_only e h
      simp only [Prod.mk.injEq] at a
      rw [a.1]
      exact ⟨j,fun _=>al,_,al⟩)
     generalize aA:(⟨Tr.set B.none (.dfd (some [])) s.nx s.h,s.nx.succ⟩:S)=s1 at o1
     generalize aB:ν.add s.nx 0 w.heap.size 0 0=aC at o1
     have aD:aC.blk s.nx 0=some (w.heap.size,0):=by rw [←aB];exact Val.add_self
     have aE:s1.nx=s.nx.succ:=by rw [←aA]
     obtain ⟨an,_⟩:=o1.st.fresh s1.nx (kad _)
     have o2:=zmv o1.st (.loop 0 none fi tm ps.toList aa body s.nx) (.loop { state:=.ready,pending:=none,fn:=b.fn,tmps:=tmps,params:=ps,assign:=aa,body:=body,defers:=w.heap.size }) (fun w' v b' q h=>by rw [an] at h;cases h) (fun w' al v b' q h=>by
      obtain ⟨j,a⟩:=Val.add_only an h
      simp only [Prod.mk.injEq] at a
      rw [a.1]
      refine ⟨j,ae,.ready,b.fn,tmps,w.heap.size,al,rfl,(X.mono o1.le).mono (Val.le_add an),0,?_⟩
      exact (Val.le_add an _ _ _ aD).1)
     have aF:(⟨Tr.set B.none (.loop 0 none fi tm ps.toList aa body s.nx) s1.nx s1.h,s1.nx.succ⟩:S)=H:=by rw [←aA];exact aS
     rw [aF] at o2
     have aG:(w.alloc (.deferred (some []))).heap.size=w.heap.size+1:=by show (w.heap.push _).size=_;rw [Array.size_push]
     rw [aG] at o2
     generalize aH:aC.add s1.nx 0 (w.heap.size+1) 0 0=aj at o2
     have aJ:aj.blk s.nx.succ 0=some (w.heap.size+1,0):=by rw [←aH,←aE];exact Val.add_self
     have aV:aj.blk s.nx 0=some (w.heap.size,0):=(o2.le _ _ _ aD).1
     have oo:=o1.trans o2
     generalize aW:(w.alloc (.deferred (some []))).alloc (.loop { state:=.ready,pending:=none,fn:=b.fn,tmps:=tmps,params:=ps,assign:=aa,body:=body,defers:=w.heap.size })=w2 at o2 oo
     have aK:(Instr.enterLoop b.fn tmps ps aa body none).run P w=.ok (w.heap.size+1,[{ target:=.collected w.heap.size,args:=#[] }]) w2:=by
      rw [←aW]
      simp [Instr.enterLoop]
     have aL:=aw aj tmps (X.mono oo.le)
     have aX:=K aj tmps ((l.mono oo.le).le ae) ((FrX.of aL).odr f)
     obtain ⟨N,d,U,g3⟩:=Z n0 w0 aj w2 _ [.func (.yield (w.heap.size+1)) #[] #[]] o2.st (l.mono oo.le) aX ⟨_,[],rfl,⟨_,aJ,rfl⟩,rfl⟩
     have aM:=znq (P:=P) (b:=b) (tm:=tmps) (df:=df) (k:=kk) (cs:=cs) (w:=w) (w1:=w2) (w':=w2) (f:=f) (N:=N) az d aK (U _ rfl)
     obtain ⟨av,z,w3,k1,k2,k3⟩:=g3 (b.fr tmps ([{ target:=.collected w.heap.size,args:=#[] }]++df) (.inRangeFunc (w.heap.size+1)::kk)) cs
     have aN:(b.fr tmps ([{ target:=.collected w.heap.size,args:=#[] }]++df) (.inRangeFunc (w.heap.size+1)::kk)).finish z=b.fr tmps ([{ target:=.collected w.heap.size,args:=#[] }]++df) (.endRangeFunc (w.heap.size+1)::kk):=rfl
     rw [aN] at k3
     have aO:=(k1.le _ _ _ aJ).1
     obtain ⟨j,a,ls,aY,n,d',q3,q4,q5,q6⟩:=zga k1.st y aO
     obtain ⟨r1,r2⟩:=zkq k1.st y aO (st':=3) (pend':=p) (ls':=.exhausted) q3 rfl
     rw [ay] at r1 r2
     have ak:ls≠.busy:=by
      intro h
      rw [h] at q4
      have:st=1:=by
       rcases st with _ | _ | _ | _ | st
       ·cases q4
       ·rfl
       ·cases q4
       ·cases q4
       ·exact q4.elim
      subst this;simp at hz
     have aR:(ls == LoopState.busy)=false:=by cases ls<;>first | rfl | exact absurd rfl ak
     have aP:(Instr.endLoop (w.heap.size+1)).run P w3=.ok p { w3 with heap:=w3.heap.setIfInBounds (w.heap.size+1) (.loop { state:=.exhausted,pending:=p,fn:=aY,tmps:=n,params:=⟨ax⟩,assign:=ao,body:=ai,defers:=d' }) }:=by
      simp [Instr.endLoop,zbM q3,ak,za7 q3]
     have o4:Out P n0 w0 av s3 av s4 _:=Out.write r1 (by rw [←ay]) r2
     have aq:=(oo.trans k1).trans o4
     refine ⟨av,_,[{ target:=.collected w.heap.size,args:=#[] }]++df,aq,aL.mono k1.le,⟨O.calm,?_,fun _ _ _=>az⟩,.head aM (k3.trans (.one (zqw aP)))⟩
     rw [ar]
     have aQ:=O.df
     rw [u] at aQ
     exact ⟨_,df,rfl,⟨_,(k1.le _ _ _ aV).1,rfl⟩,DfR.mono (v:=.ls t dl) aq.le aQ⟩
    cases p with
    | none =>
     intro n0 w0 ν w tmps df b cs kk ae Y l X O
     obtain ⟨W,w',ad,d,U,g3,g4⟩:=core n0 w0 ν w tmps df b cs kk ae Y l X O
     exact ⟨W,w',tmps,ad,d,U,g3,g4⟩
    | some c =>
     cases c with
     | ret =>
      intro n0 w0 ν w tmps df b cs kk ae Y l X O
      obtain ⟨W,w',ad,d,U,g3,g4⟩:=core n0 w0 ν w tmps df b cs kk ae Y l X O
      exact ⟨W,w',tmps,ad,kk,d,U,g3,g4⟩
     | exit i =>
      intro n0 w0 ν w tmps df b cs kk ae Y l X O
      obtain ⟨W,w',ad,d,U,g3,g4⟩:=core n0 w0 ν w tmps df b cs kk ae Y l X O
      exact ⟨W,w',tmps,ad,kk,d,U,g3,rfl,g4⟩
     | _=>exact absurd trivial G
  | _=>rw [y] at G;exact absurd trivial G
 | _=>rw [u] at G;exact absurd trivial G
theorem wk {pc:PC} (p:PcOk P pc) {r:R} (N:RS P pc r) {fi:FI}:∀ (c:Code) (tm:T) (s:S),¬((zj pc fi c).run r tm s).isBad→zh5 P fi c tm s ((zj pc fi c).run r tm s)
 | .skip,tm,s,_=>fun n0 w0 ν w tmps df b cs kk j Y O B z=>⟨ν,w,tmps,df,Out.refl Y,B,z,.one zzl⟩
 | .label l,tm,s,_=>fun n0 w0 ν w tmps df b cs kk j Y O B z=>⟨ν,w,tmps,df,Out.refl Y,B,z,.one zwk⟩
 | .ret,tm,s,_=>fun n0 w0 ν w tmps df b cs kk j Y O B z=>⟨ν,w,tmps,df,kk,Out.refl Y,B,z,Steps.refl P _⟩
 | .exit id,tm,s,_=>by
  have e:(zj pc fi (.exit id)).run r tm s=.ext id tm s:=by simp only [zj,zE]
  rw [e]
  exact fun n0 w0 ν w tmps df b cs kk j Y O B z=>⟨ν,w,tmps,df,kk,Out.refl Y,B,z,rfl,Steps.refl P _⟩
 | .goto l,tm,s,G=>absurd trivial G
 | .refuse m,tm,s,G=>absurd trivial G
 | .region id all d,tm,s,G=>by
  have e:(zj pc fi (.region id all d)).run r tm s=(zg0 pc fi d all.toList).run r tm [] s:=by simp only [zj]
  rw [e] at G ⊢
  exact zv6 p N G id
 | .scope c,tm,s,G=>by
  have e:(zj pc fi (.scope c)).run r tm s=(zj pc fi c).run r tm s:=by simp only [zj]
  rw [e] at G ⊢
  have X:=wk p N c tm s G
  intro n0 w0 ν w tmps df b cs kk j Y O B z
  have:=X n0 w0 ν w tmps df b cs (.inScope c::kk) j Y O B z
  refine jq.steps (.one zxS) ?_
  generalize (zj pc fi c).run r tm s=res at this
  induction res with
  | nrm F U =>
   obtain ⟨W,w',n,L,I,J,Q,K⟩:=this
   exact ⟨W,w',n,L,I,J,Q,K.trans (.one zsn)⟩
  | ext i F U =>
   obtain ⟨W,w',n,L,todo,I,J,Q,K,o⟩:=this
   exact ⟨W,w',n,L,todo,I,J,Q,K,o⟩
  | ret F U =>
   obtain ⟨W,w',n,L,todo,I,J,Q,K⟩:=this
   exact ⟨W,w',n,L,todo,I,J,Q,K⟩
  | _=>exact this.elim
 | .cond x a b,tm,s,G=>by
  have e:(zj pc fi (.cond x a b)).run r tm s=(opd fi [] x).run tm [] fun v=>(@V.rec mA mU eA eC eC (fun y=>(@Bool.rec (fun _=>A) ((zj pc fi b).run r tm s) ((zj pc fi a).run r tm s) y)) eB eD eF eF eB eC eD eF eD () tE v:A):=by simp only [zj]
  rw [e] at G ⊢
  obtain ⟨v,I,J⟩:=qf fi [] x tm [] _ G
  rw [←I] at G ⊢
  cases v with
  | bool t =>
   intro n0 w0 ν w tmps df y cs kk j Y O B z
   have u:=J ν tmps (O.le j) ((FrX.of B).odr x)
   simp only [VR] at u
   cases t with
   | true=>exact (wk p N a tm s G n0 w0 ν w tmps df y cs kk j Y O B z).steps (.one (zsS u))
   | false=>exact (wk p N b tm s G n0 w0 ν w tmps df y cs kk j Y O B z).steps (.one (zsS u))
  | _=>exact absurd trivial G
 | .seq a b,tm,s,G=>by
  have e:(zj pc fi (.seq a b)).run r tm s=zd7 (fun tm s=>(zj pc fi b).run r tm s) (fun i tm s=>.ext i tm s) (fun tm s=>.ret tm s) ((zj pc fi a).run r tm s):=by simp only [zj]
  rw [e] at G ⊢
  have ai:=wk p N a tm s (fun q=>G (zhP q))
  intro n0 w0 ν w tmps df y cs kk j Y O B z
  refine jq.steps (.one zDh) (zjF (kk':=.code b::kk) (fun H s1 ad h=>?_) (fun i H s1 _ h=>?_) (fun H s1 _ h=>?_) G (ai n0 w0 ν w tmps df y cs (.code b::kk) j Y O B z))
  ·obtain ⟨ae,w1,aa,ah,I,J,Q,K⟩:=h
   exact (wk p N b H s1 ad n0 w0 ae w1 aa ah y cs kk j I.st (O.mono I.le) J Q).trans I K
  ·exact h
  ·exact h
 | .block id c,tm,s,G=>by
  have e:(zj pc fi (.block id c)).run r tm s=zd7 (fun tm s=>.nrm tm s) (fun i tm s=>(@Bool.rec (fun _=>A) (.ext i tm s) (.nrm tm s) (Nat.beq i id))) (fun tm s=>.ret tm s) ((zj pc fi c).run r tm s):=by simp only [zj,zE]
  rw [e] at G ⊢
  have X:=wk p N c tm s (fun q=>G (zhP q))
  intro n0 w0 ν w tmps df y cs kk j Y O B z
  refine jq.steps (.one zyi) (zjF (kk':=.inBlock id::kk) (fun H s1 _ h=>?_) (fun i H s1 _ h=>?_) (fun H s1 _ h=>?_) G (X n0 w0 ν w tmps df y cs (.inBlock id::kk) j Y O B z))
  ·obtain ⟨ae,w1,aa,ah,I,J,Q,K⟩:=h
   exact ⟨ae,w1,aa,ah,I,J,Q,K.trans (.one zsH)⟩
  ·obtain ⟨W,w',n,L,todo,I,J,Q,K,o⟩:=h
   cases hi:Nat.beq i id with
   | true =>
    have:=bq hi
    subst this
    have M:exitTo i todo=some kk:=by rw [K];simp [exitTo]
    exact ⟨W,w',n,L,I,J,Q,o.trans (.one (zz1 M))⟩
   | false =>
    have Z:(id == i)=false:=by
     cases hb:(id == i) with
     | false=>rfl
     | true =>
      have:=eq_of_beq hb
      subst this
      simp at hi
    exact ⟨W,w',n,L,todo,I,J,Q,by rw [K];simp [exitTo,Z],o⟩
  ·exact h
 | .loop c,tm,s,G=>by
  have e:(zj pc fi (.loop c)).run r tm s=zd7 (fun tm s=>r.code fi (.loop c) tm s) (fun i tm s=>.ext i tm s) (fun tm s=>.ret tm s) ((zj pc fi c).run r tm s):=by simp only [zj]
  rw [e] at G ⊢
  have X:=wk p N c tm s (fun q=>G (zhP q))
  intro n0 w0 ν w tmps df y cs kk j Y O B z
  refine jq.steps (.one ziW) (zjF (kk':=.inLoop c::kk) (fun H s1 ad h=>?_) (fun i H s1 _ h=>?_) (fun H s1 _ h=>?_) G (X n0 w0 ν w tmps df y cs (.inLoop c::kk) j Y O B z))
  ·obtain ⟨ae,w1,aa,ah,I,J,Q,K⟩:=h
   exact ((N.code fi (.loop c) H s1 ad n0 w0 ae w1 aa ah y cs kk j I.st (O.mono I.le) J Q).loop).trans I K
  ·exact h
  ·exact h
 | .rangeFunc f ps C aj,tm,s,G=>zob p N G
section moves
variable {b:Base} {tm:Array Value} {df:List Deferred} {k:List Item} {cs:List Frame} {w:World}
theorem zxV (G:b.ro=none):step P (lone (b.fr tm df []) cs w)=.next (lone { b.fr tm df [] with mode:=.returning } cs w):=step_lone_go (by simp [stepG,stepG.exec,Base.fr,G])
theorem zxt (G:b.ro=none):step P (lone (b.fr tm df (.code .ret::k)) cs w)=.next (lone { b.fr tm df (.code .ret::k) with mode:=.returning } cs w):=step_lone_go (by simp [stepG,stepG.exec,Base.fr,G])
end moves
theorem zno {fr:Frame} {cs:List Frame} {w w':World} {B:Nat} {args:Array Value} {ds:List Deferred} (Y:fr.mode=.returning) (u:fr.defers={ target:=.collected B,args:=args }::ds) (h:(Instr.takeDeferred B).run P w=.ok [] w') :
  step P (lone fr cs w)=.next (lone { fr with defers:=ds } cs w'):=step_lone_go (by simp [stepG,unwind,Y,u,h])
theorem zcO {pc:PC} {r:R} (n:RS P pc r):∀ (l:List V) (s:S) (c:S→A),¬(jj r l s c).isBad→∃ U,c U=jj r l s c∧∀ n0 w0 ν w (fr:Frame) cs,St P n0 w0 ν s w→yn ν P.globals.size→DfL ν l fr.defers→fr.mode=.returning →
  ∃ W w',Out P n0 w0 ν s W U w'∧Steps P (lone fr cs w) (lone { fr with defers:=[] } cs w')
 | [],s,c,_=>⟨s,rfl,fun n0 w0 ν w fr cs Y _ aa _=>⟨ν,w,Out.refl Y,by
   have e:({ fr with defers:=[] }:Frame)=fr:=by cases fr;simp only [DfL] at aa;subst aa;rfl
   rw [e];exact Steps.refl P _⟩⟩
 | d::l,s,c,G=>by
  cases d with
  | ref t bk =>
   have e:jj r (.ref t bk::l) s c=qk s bk fun o=>(@B.rec mD eA eH eC eI (fun x=>(match x with | some []=>wV s bk (.dfd none) fun s=>jj r l s c | _=>.bad 0)) eD o:A):=rfl
   rw [e,qb] at G
   rw [e,qb]
   cases Q:Tr.get B.none bk s.h with
   | dfd x =>
    rw [Q] at G
    simp only at G ⊢
    match x,G with
    | none,G=>exact absurd trivial G
    | some (_::_),G=>exact absurd trivial G
    | some [],G =>
     simp only [ym] at G ⊢
     obtain ⟨U,I,J⟩:=zcO n l _ c G
     refine ⟨U,I,fun n0 w0 ν w fr cs Y i aa hm=>?_⟩
     obtain ⟨x,rr,L,O,hL⟩:=aa
     match t,O with
     | 2,O =>
      obtain ⟨bl,hb,M⟩:=O
      have ad:=Y.rows bk
      rw [Q] at ad
      have u:∀ v p,ν.blk bk v=some p→v=0:=fun v p Z=>(ad v p.1 p.2 Z).1
      obtain ⟨_,j,_⟩:=ad 0 bl 0 hb
      have j:=j rfl
      have wV:=zgM Y (B':=.dfd none) (o:=.deferred none) hb (by rw [Q];trivial) (by rw [Q];exact fun h=>h) u (fun h=>h) (fun w' an v b' av ae=>by
       have ao:=u v _ ae
       subst ao
       rw [hb] at ae
       simp only [Option.some.injEq,Prod.mk.injEq] at ae
       rw [←ae.1]
       exact ⟨rfl,fun h=>(by cases h),_,an⟩)
      have ai:(Instr.takeDeferred bl).run P w=.ok [] { w with heap:=w.heap.setIfInBounds bl (.deferred none) }:=by
       simp [Instr.takeDeferred,getObj,setObj,Sem.run,j]
      have aj:=zno (P:=P) (cs:=cs) hm (by rw [L,M]) ai
      have o1:Out P n0 w0 ν s ν ⟨Tr.set B.none (.dfd none) bk s.h,s.nx⟩ { w with heap:=w.heap.setIfInBounds bl (.deferred none) }:=Out.write wV rfl (zba hb _)
      obtain ⟨W,w',k1,k2⟩:=J n0 w0 ν _ { fr with defers:=rr } cs wV i hL hm
      exact ⟨W,w',o1.trans k1,.head aj k2⟩
   | _=>rw [Q] at G;exact absurd trivial G
  | ls t p =>
   have ak:∃ g first cap t2 args,p=[.fn (.func g) first cap,.ls t2 args]:=by
    cases p with
    | nil=>exact absurd trivial G
    | cons x q =>
     cases x with
     | fn f first cap =>
      cases f with
      | func g =>
       cases q with
       | nil=>exact absurd trivial G
       | cons y a =>
        cases y with
        | ls t2 args =>
         cases a with
         | nil=>exact ⟨g,first,cap,t2,args,rfl⟩
         | cons _ _=>exact absurd trivial G
        | _=>exact absurd trivial G
      | _=>exact absurd trivial G
     | _=>exact absurd trivial G
   obtain ⟨g,first,cap,t2,args,aq⟩:=ak
   subst aq
   ·have e:jj r (.ls t [.fn (.func g) first cap,.ls t2 args]::l) s c=(F.rec (motive:=fun _=>A) (fun _ s=>jj r l s c) (fun m=>.bad m) (r.call g (first++(args++cap)) s):A):=by
     have:jj r (.ls t [.fn (.func g) first cap,.ls t2 args]::l) s c=zBU first args cap fun l'=>(F.rec (motive:=fun _=>A) (fun _ s=>jj r l s c) (fun m=>.bad m) (r.call g l' s):A):=rfl
     rw [this]
     simp only [zBU,wr]
    rw [e] at G ⊢
    cases X:r.call g (first++(args++cap)) s with
    | ret v s1 =>
     rw [X] at G
     simp only at G ⊢
     obtain ⟨U,I,J⟩:=zcO n l s1 c G
     refine ⟨U,I,fun n0 w0 ν w fr cs Y i aa hm=>?_⟩
     obtain ⟨x,rr,L,O,hL⟩:=aa
     have ar:∃ cf cc ca,VRs ν first cf∧VRs ν cap cc∧VRs ν args ca∧x={ target:=.fn (.func g) ⟨cc⟩,args:=⟨cf++ca⟩ }:=by
      unfold DfE at O
      split at O
      ·rename_i ah;cases ah
      ·rename_i ah
       simp only [V.ls.injEq,List.cons.injEq,V.fn.injEq,Fn.func.injEq,and_true] at ah
       obtain ⟨_,⟨j,a,q3⟩,_,q4⟩:=ah
       subst j a q3 q4
       exact O
      ·exact O.elim
     obtain ⟨cf,cc,ca,H,C,v3,M⟩:=ar
     obtain ⟨K,N⟩:=n.call _ _ _ _ _ X n0 w0 ν w (cf++(ca++cc)) Y i (H.append (v3.append C))
     obtain ⟨au,z,w1,aw,k1,k2,k3,k4,k5,k6,k7,fn,k8,k9⟩:=N .deferred ({ fr with defers:=rr }::cs) (.inr ⟨rfl,_,_,rfl,hm⟩)
     have hinv:(invoke x.target x.args).run P w=.ok (.enter g ⟨cf++(ca++cc)⟩) w:=by
      rw [M]
      have ea:((⟨cf++ca⟩:Array Value)++⟨cc⟩:Array Value)=⟨cf++(ca++cc)⟩:=by apply Array.ext';simp
      simp only [invoke,ea]
      exact K
     have aj:=step_defer (P:=P) (fr:=fr) (cs:=cs) (by rw [hm];simp) L (by rw [M]) hinv
     have al:=step_going_returned (P:=P) (c:={ fr with defers:=rr }) (cs:=cs) (w:=w1) (v:=z) k4 ⟨k5,k6,fn,by rw [k7];exact k8,k9⟩
     have wV:({ ({ fr with defers:=rr }:Frame) with mode:=settle ({ fr with defers:=rr }:Frame).mode }:Frame)={ fr with defers:=rr }:=by
      cases fr;simp only at hm;subst hm;rfl
     rw [wV] at al
     obtain ⟨W,w',j,a⟩:=J n0 w0 au w1 { fr with defers:=rr } cs k1.st (i.mono k1.le) (hL.mono k1.le) hm
     exact ⟨W,w',k1.trans j,.head aj (k3.trans (.head al a))⟩
    | bad m=>rw [X] at G;exact absurd trivial G
  | _=>exact absurd trivial G
def rv (tmps:Array Value):ResultVar→Sem Value
 | .tmp t=>pure (tmps.getD t Go.undef)
 | .cell a t=>do loadVar t (←asAddr (tmps.getD a Go.undef))
theorem ziZ {pc:PC} (Z:PcOk P pc) {fi:FI}:∀ (l:List ResultVar) (tm:T) (s:S) (c:List V→A),¬((jU pc fi l).run tm s c).isBad→∃ vs,c vs=(jU pc fi l).run tm s c∧∀ (ν:Val) (w:World) (tmps:Array Value),zbt P ν s w→FrR ν fi T.get tm tmps →
  ∃ ys,VRs ν vs ys∧(l.mapM (rv tmps)).run P w=.ok ys w
 | [],tm,s,c,_=>⟨[],rfl,fun ν w tmps _ _=>⟨[],rfl,by simp⟩⟩
 | .tmp t::l,tm,s,c,G=>by
  have e:(jU pc fi (.tmp t::l)).run tm s c=(geC (qy fi.ns t)).run tm fun v=>(jU pc fi l).run tm s fun l=>c (v::l):=rfl
  rw [e] at G ⊢
  obtain ⟨I,J,Q⟩:=zbn (zrM G)
  have C:=zd2 G
  rw [←C] at G ⊢
  obtain ⟨vs,K,d⟩:=ziZ Z l tm s _ G
  refine ⟨_,K,fun ν w tmps F B=>?_⟩
  obtain ⟨ys,R,U⟩:=d ν w tmps F B
  refine ⟨tmps.getD t Go.undef::ys,⟨_,_,rfl,by rw [Q];exact B.2 t I J,R⟩,?_⟩
  simp [List.mapM_cons,rv,U]
 | .cell t ty::l,tm,s,c,G=>by
  have fin:∀ (ag:Bool) (sz:Nat) (u:TypeDesc),P.underlying ty=some u→zlt u=ag→(ag=true→(P.info? ty).map (·.size)=some sz)→(jU pc fi (.cell t ty::l)).run tm s c=(geC (qy fi.ns t)).run tm (fun p=>zd ag sz p s fun v _=>(jU pc fi l).run tm s fun l=>c (v::l)) →
    ∃ vs,c vs=(jU pc fi (.cell t ty::l)).run tm s c∧∀ (ν:Val) (w:World) (tmps:Array Value),zbt P ν s w→FrR ν fi T.get tm tmps→∃ ys,VRs ν vs ys∧((ResultVar.cell t ty::l).mapM (rv tmps)).run P w=.ok ys w:=by
   intro ag sz u hu X hi e
   rw [e] at G ⊢
   obtain ⟨I,J,Q⟩:=zbn (zrM G)
   have C:=zd2 G
   rw [←C] at G ⊢
   obtain ⟨v,W,Y⟩:=zoN (P:=P) G
   rw [←W] at G ⊢
   obtain ⟨vs,K,d⟩:=ziZ Z l tm s _ G
   refine ⟨_,K,fun ν w tmps F B=>?_⟩
   obtain ⟨ys,R,U⟩:=d ν w tmps F B
   have Z:=B.2 t I J
   rw [←Q] at Z
   obtain ⟨a,j,o⟩:=Y ν w _ F Z
   obtain ⟨z,x,y⟩:=o ty u hu X hi
   refine ⟨z::ys,⟨_,_,rfl,x,R⟩,?_⟩
   simp only [List.mapM_cons,rv,j,asAddr,Sem.run_bind,Sem.run_pure,Result.andThen_ok,y,U]
  have e:(jU pc fi (.cell t ty::l))=(match jU pc fi l,geC (qy fi.ns t) with
   | ⟨g⟩,⟨f⟩=>pc.ag ty ⟨fun _ _ _=>.bad 0⟩ fun ag=>(match ag with
    | true=>pc.sz ty ⟨fun _ _ _=>.bad 0⟩ fun sz=>⟨fun tm s c=>f tm fun p=>zd true sz p s fun v _=>g tm s fun l=>c (v::l)⟩
    | false=>⟨fun tm s c=>f tm fun p=>zd false 1 p s fun v _=>g tm s fun l=>c (v::l)⟩)):=rfl
  rcases PC.ag_or pc ty (⟨fun _ _ _=>.bad 0⟩:ReC) (fun ag=>(match ag with
    | true=>pc.sz ty ⟨fun _ _ _=>.bad 0⟩ fun sz=>⟨fun tm s c=>(geC (qy fi.ns t)).run tm fun p=>zd true sz p s fun v _=>(jU pc fi l).run tm s fun l=>c (v::l)⟩
    | false=>⟨fun tm s c=>(geC (qy fi.ns t)).run tm fun p=>zd false 1 p s fun v _=>(jU pc fi l).run tm s fun l=>c (v::l)⟩)) with h | ⟨u,hu,h⟩
  ·have M:=e.trans h
   rw [M] at G;exact absurd trivial G
  ·have M:=e.trans h
   cases X:zlt u with
   | true =>
    rw [X] at M
    simp only at M
    rcases PC.sz_or pc ty (⟨fun _ _ _=>.bad 0⟩:ReC) (fun sz=>⟨fun tm s c=>(geC (qy fi.ns t)).run tm fun p=>zd true sz p s fun v _=>(jU pc fi l).run tm s fun l=>c (v::l)⟩) with h | ⟨i,hi,h⟩
    ·have N:=M.trans h
     rw [N] at G;exact absurd trivial G
    ·have N:=M.trans h
     exact fin true i.size u (Z.und hu) X (fun _=>by rw [Z.info _ _ hi];rfl) (by rw [N])
   | false =>
    rw [X] at M
    exact fin false 1 u (Z.und hu) X (fun h=>by cases h) (by rw [M])
theorem zie {fn:Func} {tmps:Array Value} {w:World} {ys:List Value} (h:(fn.results.toList.mapM (rv tmps)).run P w=.ok ys w):(results fn tmps).run P w=.ok (match (generalizing:=false) ys with | [y]=>y | _=>.tuple ⟨ys⟩) w:=by
 have Y:(fn.results.mapM (rv tmps)).run P w=.ok ⟨ys⟩ w:=by
  rw [Array.mapM_eq_mapM_toList]
  simp [h]
 have e:results fn tmps=(do let vs ←fn.results.mapM (rv tmps);pure (if h:vs.size=1 then vs[0] else .tuple vs)):=rfl
 rw [e]
 simp only [Sem.run_bind,Y,Result.andThen_ok,Sem.run_pure]
 match ys with
 | []=>rfl
 | [y]=>rfl
 | y::z::r=>rfl
theorem zsU {l:List V} {s:S}:∃ v,wu l s=.fin v s∧∀ (ν:Val) (ys:List Value),VRs ν l ys→VR ν v (match ys with | [y]=>y | _=>.tuple ⟨ys⟩):=by
 match l with
 | []=>exact ⟨_,rfl,fun ν ys h=>by simp only [VRs] at h;subst h;exact VR.undef⟩
 | [v]=>exact ⟨_,rfl,fun ν ys h=>by
   obtain ⟨x,r,e,I,J⟩:=h
   simp only [VRs] at J
   subst e J
   exact I⟩
 | v::w::r=>exact ⟨_,rfl,fun ν ys h=>by
   obtain ⟨x,Y,e,I,y,B,M,J,Q⟩:=h
   subst e M
   exact ⟨_,⟨x,_,rfl,I,y,_,rfl,J,Q⟩,rfl⟩⟩
theorem zD8 (i:Nat):T.get T.new i=.bad:=by
 have h:∀ {α:Type} (x:α) (i:Nat) (y:α),N.get (.mk x x x x x x x x x x x x x x x x:N α) i=some y→y=x:=by
  intro α x i y h
  rcases i with _ | _ | _ | _ | _ | _ | _ | _ | _ | _ | _ | _ | _ | _ | _ | _ | i
  all_goals first
   | (simp [N.get] at h;exact h.symm)
   | (simp [N.get] at h)
 unfold T.get
 cases I:N.get T.new (i / 16) with
 | none=>rfl
 | some u =>
  have hu:u=zj1 .bad:=h _ _ _ I
  subst hu
  simp only [Option.bind_some]
  cases J:N.get (zj1 V.bad) (i % 16) with
  | none=>rfl
  | some v =>
   have H:v=.bad:=h _ _ _ J
   rw [H];rfl
theorem zfQ {fi:FI}:∀ (args:List V) (n:Nat) (t:T) (c:T→A),¬(jz fi args n t c).isBad→∃ tm,c tm=jz fi args n t c∧(args=[]∨n+args.length≤fi.nt)∧T.get tm 240=T.get t 240 ∧
  ∀ (ν:Val) (A:Array Value) (p:List Value),VRs ν args p→(∀ j y,p[j]?=some y→A.getD (n+j) Go.undef=y)→(∀ a,qV fi.ns a=false→yl fi.ns a<240→VR ν (T.get t (yl fi.ns a)) (A.getD a Go.undef)) →
   ∀ a,qV fi.ns a=false→yl fi.ns a<240→VR ν (T.get tm (yl fi.ns a)) (A.getD a Go.undef)
 | [],n,t,c,_=>⟨t,rfl,.inl rfl,rfl,fun ν A p _ _ h=>h⟩
 | v::args,n,t,c,G=>by
  have e:jz fi (v::args) n t c=@Bool.rec (fun _=>A) eA ((puC (qy fi.ns n)).run v t (fun t=>fN (Nat.succ n) fun n=>jz fi args n t c)) (zB (zbj (qV fi.ns n)) (Nat.blt n fi.nt)):=rfl
  rw [e] at G ⊢
  cases X:zB (zbj (qV fi.ns n)) (Nat.blt n fi.nt) with
  | false=>rw [X] at G;exact absurd trivial G
  | true =>
   obtain ⟨I,J⟩:=zy X
   have Q:qV fi.ns n=false:=by cases h:qV fi.ns n with | false=>rfl | true=>rw [h] at I;cases I
   have O:n<fi.nt:=by simpa [Nat.blt_eq] using J
   simp only [X,zE] at G ⊢
   obtain ⟨_,K,d⟩:=zbn (znt G)
   obtain ⟨F,W,M⟩:=zeC G
   rw [←W] at G ⊢
   rw [d] at M
   obtain ⟨tm,R,U,i,C⟩:=zfQ args (n+1) F c G
   refine ⟨tm,R,.inr ?_,by rw [i,M,if_neg (by omega)],fun ν A p u B H=>?_⟩
   ·rcases U with U | U
    ·subst U;simp;omega
    ·simp;omega
   ·obtain ⟨x,r,L,Z,l⟩:=u
    subst L
    refine C ν A r l (fun j y Y=>?_) (fun a N o=>?_)
    ·have:=B (j+1) y (by simpa using Y)
     rw [show n+1+j=n+(j+1) by omega];exact this
    ·rw [M]
     by_cases q:a=n
     ·subst q
      rw [if_pos rfl]
      have:=B 0 x rfl
      rw [Nat.add_zero] at this
      rw [this];exact Z
     ·rw [if_neg (fun e=>q (zgY N Q e))]
      exact H a N o
theorem zA5 {pc:PC} (Z:PcOk P pc) {fi:FI} {l:List ResultVar} {tm:T} {s:S} (G:¬(znr (jU pc fi l).run tm s).isBad):T.get tm 240=.bad∧∃ v,znr (jU pc fi l).run tm s=.fin v s∧∀ (ν:Val) (w:World) (tmps:Array Value),zbt P ν s w→FrR ν fi T.get tm tmps →
  ∃ ys,(l.mapM (rv tmps)).run P w=.ok ys w∧VR ν v (match ys with | [y]=>y | _=>.tuple ⟨ys⟩):=by
 unfold znr at G ⊢
 have C:=zd2 G
 rw [←C] at G ⊢
 cases u:T.get tm 240 with
 | bad =>
  rw [u] at G
  simp only at G ⊢
  obtain ⟨vs,I,J⟩:=ziZ Z l tm s _ G
  obtain ⟨v,Q,K⟩:=zsU (l:=vs) (s:=s)
  refine ⟨trivial,v,by rw [←I];exact Q,fun ν w tmps F B=>?_⟩
  obtain ⟨ys,R,U⟩:=J ν w tmps F B
  exact ⟨ys,U,K ν ys R⟩
 | _=>rw [u] at G;exact absurd trivial G
theorem zAQ {pc:PC} (Z:PcOk P pc) {r:R} (N:RS P pc r) {fi:FI} {l:List ResultVar} {tm:T} {s:S} (G:¬(zln (jU pc fi l).run r tm s).isBad):∃ v U,zln (jU pc fi l).run r tm s=.fin v U ∧
  ∀ n0 w0 ν w (fr:Frame) cs,St P n0 w0 ν s w→yn ν P.globals.size→DfR ν (T.get tm 240) fr.defers→FrR ν fi T.get tm fr.tmps→fr.mode=.returning →
   ∃ W w',Out P n0 w0 ν s W U w'∧Steps P (lone fr cs w) (lone { fr with defers:=[] } cs w')∧∃ ys,(l.mapM (rv fr.tmps)).run P w'=.ok ys w'∧VR W v (match ys with | [y]=>y | _=>.tuple ⟨ys⟩):=by
 unfold zln at G ⊢
 have C:=zd2 G
 rw [←C] at G ⊢
 cases u:T.get tm 240 with
 | ls t dl =>
  rw [u] at G
  simp only at G ⊢
  obtain ⟨U,I,J⟩:=zcO N dl s _ G
  rw [←I] at G ⊢
  obtain ⟨vs,Q,K⟩:=ziZ Z l tm U _ G
  obtain ⟨v,d,H⟩:=zsU (l:=vs) (s:=U)
  refine ⟨v,U,by rw [←Q];exact d,fun n0 w0 ν w fr cs Y O F B p=>?_⟩
  obtain ⟨W,w',n,i⟩:=J n0 w0 ν w fr cs Y O F p
  obtain ⟨ys,z,q⟩:=K W w' fr.tmps n.st.rows (B.mono n.le)
  exact ⟨W,w',n,i,ys,q,H W ys z⟩
 | _=>rw [u] at G;exact absurd trivial G
theorem zxv {pc:PC} (Z:PcOk P pc) {r:R} (Q:RS P pc r) {f:Nat} {args:List V} {s:S} (G:¬((fnC pc f).run r args s).isBad):zqP P f args s ((fnC pc f).run r args s):=by
 unfold fnC at G ⊢
 cases B:pc.func f with
 | none=>rw [B] at G;exact absurd trivial G
 | some fn =>
  rw [B] at G
  simp only at G ⊢
  cases hb:fn.body with
  | none=>rw [hb] at G;exact absurd trivial G
  | some c =>
   rw [hb] at G
   simp only [zE] at G ⊢
   have ak:=Z.func f fn B
   have al:=Z.names f fn ak (by rw [hb];rfl)
   generalize av:(⟨pc.nsOf f,fn.ntmps,pc.ng⟩:FI)=fi at G ⊢
   have aw:fi.ng≤P.globals.size:=by rw [←av];exact Z.ng
   have az:fi.nt=fn.ntmps:=by rw [←av]
   have enter:∀ (p:List Value) w,(callFunc f ⟨p⟩).run P w=.ok (.enter f ⟨p⟩) w:=by
    intro p w
    have aC : (fn.name == "runtime.NumGoroutine") = false := by
     cases M : (fn.name == "runtime.NumGoroutine") with
     | false=>rfl
     | true=>exact absurd (eq_of_beq M) al
    have aA : fn.name ≠ "runtime.NumGoroutine" := al
    simp [callFunc,ak,aA,hb]
   have ai:∀ (p:List Value) kind,Frame.enter P f ⟨p⟩ kind=(⟨f,kind,none⟩:Base).fr (⟨p⟩++Array.replicate (fn.ntmps - p.length) Go.undef) [] [.code c]:=by
    intro p kind
    simp [Frame.enter,Base.fr,ak,hb]
   -- aD first frame
   have first:∀ (tm0:T) (ν:Val) (p:List Value),VRs ν args p→(args=[]∨0+args.length≤fi.nt)→(∀ (ν:Val) (A:Array Value) (p:List Value),VRs ν args p→(∀ j y,p[j]?=some y→A.getD (0+j) Go.undef=y)→(∀ t',qV fi.ns t'=false→yl fi.ns t'<240→VR ν (T.get T.new (yl fi.ns t')) (A.getD t' Go.undef)) →
     ∀ t',qV fi.ns t'=false→yl fi.ns t'<240→VR ν (T.get tm0 (yl fi.ns t')) (A.getD t' Go.undef))→FrR ν fi T.get tm0 (⟨p⟩++Array.replicate (fn.ntmps - p.length) Go.undef):=by
    intro tm0 ν p u X J
    have ax:=u.length
    refine ⟨?_,J ν _ p u (fun j y d=>?_) (fun t' _ _=>by rw [zD8];trivial)⟩
    ·rw [az]
     have:p.length≤fn.ntmps:=by
      rcases X with h | h
      ·subst h;simp at ax;rw [ax];exact Nat.zero_le _
      ·omega
     simp;omega
    ·have L:=(kaE.1 d).1
     rw [kas,Array.getD_eq_getD_getElem?,Array.getElem?_append_left (by simpa using L)]
     have:(⟨p⟩:Array Value)[j]?=some y:=by simpa using d
     rw [this];rfl
   cases F:(zes c || jI c) with
   | false =>
    rw [F] at G
    simp only at G ⊢
    have aj:¬(jz fi args 0 T.new fun tm=>zx (fun tm s=>znr (jU pc fi fn.results.toList).run tm s) ((zj pc fi c).run r tm s)).isBad:=fun q=>G (zcn q)
    obtain ⟨tm0,a1,a2,a3,a4⟩:=zfQ args 0 T.new _ aj
    have ad:zF (jz fi args 0 T.new fun tm=>zx (fun tm s=>znr (jU pc fi fn.results.toList).run tm s) ((zj pc fi c).run r tm s))=zF (zx (fun tm s=>znr (jU pc fi fn.results.toList).run tm s) ((zj pc fi c).run r tm0 s)):=by rw [←a1]
    have ae:¬(zF (zx (fun tm s=>znr (jU pc fi fn.results.toList).run tm s) ((zj pc fi c).run r tm0 s))).isBad:=by rw [←ad];exact G
    show zqP P f args s (zF (jz fi args 0 T.new fun tm=>zx (fun tm s=>znr (jU pc fi fn.results.toList).run tm s) ((zj pc fi c).run r tm s)))
    rw [ad]
    have hX:=wk Z Q c tm0 s (fun q=>ae (zcn (zlP q)))
    intro n0 w0 ν w p Y O u
    refine ⟨enter p w,fun kind cs ah=>?_⟩
    have zck:jq P n0 w0 fi ν s ⟨f,kind,none⟩ cs (lone (Frame.enter P f ⟨p⟩ kind) cs w) [] ((zj pc fi c).run r tm0 s):=by
     rw [ai]
     exact hX n0 w0 ν w _ [] ⟨f,kind,none⟩ cs [] aw Y O (first tm0 ν p u a2 a4) ⟨ah,by rw [a3,zD8];rfl,fun _ _ _=>rfl⟩
    refine zoB (fun I s1 an ao=>?_) ae zck
    obtain ⟨N,C,K,x⟩:=zA5 Z (l:=fn.results.toList) (tm:=I) (s:=s1) an
    rw [K]
    have done:∀ (W:Val) (w':World) (n:Array Value) (aa:List Deferred) (fr:Frame),Out P n0 w0 ν s W s1 w'→FrR W fi T.get I n→Env W ⟨f,kind,none⟩ cs I aa→Steps P (lone (Frame.enter P f ⟨p⟩ kind) cs w) (lone fr cs w')→fr.tmps=n→fr.defers=aa→fr.mode=.returning→fr.kind=kind→fr.fn=f →
      ∃ W y w' fr,Out P n0 w0 ν s W s1 w'∧VR W C y∧Steps P (lone (Frame.enter P f ⟨p⟩ kind) cs w) (lone fr cs w')∧fr.kind=kind∧fr.mode=.returning∧fr.defers=[]∧fr.fn=f∧∃ fn,P.funcs[f]?=some fn∧(results fn fr.tmps).run P w'=.ok y w':=by
     intro W w' n aa fr z U i o g5 g6 g7 g8 g9
     obtain ⟨ys,y1,y2⟩:=x W w' n z.st.rows U
     have aq:=i.df
     rw [N] at aq
     have aq:aa=[]:=aq
     exact ⟨W,_,w',fr,z,y2,o,g8,g7,by rw [g6,aq],g9,fn,ak,zie (g5▸y1)⟩
    rcases ao with ⟨W,w',n,aa,z,U,i,o⟩ | ⟨W,w',n,aa,todo,z,U,i,o⟩
    ·exact done W w' n aa _ z U i (o.trans (.one (zxV rfl))) rfl rfl rfl rfl rfl
    ·exact done W w' n aa _ z U i (o.trans (.one (zxt rfl))) rfl rfl rfl rfl rfl
   | true =>
    rw [F] at G
    simp only at G ⊢
    have aj:¬(jz fi args 0 T.new fun tm=>(puC 240).run (.ls 1 []) tm fun tm=>zx (fun tm s=>zln (jU pc fi fn.results.toList).run r tm s) ((zj pc fi c).run r tm s)).isBad:=fun q=>G (zcn q)
    obtain ⟨ar,a1,a2,a3,a4⟩:=zfQ args 0 T.new _ aj
    have au:¬((puC 240).run (.ls 1 []) ar fun tm=>zx (fun tm s=>zln (jU pc fi fn.results.toList).run r tm s) ((zj pc fi c).run r tm s)).isBad:=by rw [a1];exact aj
    obtain ⟨tm0,e,b2⟩:=zeC au
    have ad:zF (jz fi args 0 T.new fun tm=>(puC 240).run (.ls 1 []) tm fun tm=>zx (fun tm s=>zln (jU pc fi fn.results.toList).run r tm s) ((zj pc fi c).run r tm s))=zF (zx (fun tm s=>zln (jU pc fi fn.results.toList).run r tm s) ((zj pc fi c).run r tm0 s)):=by rw [←a1,←e]
    have ae:¬(zF (zx (fun tm s=>zln (jU pc fi fn.results.toList).run r tm s) ((zj pc fi c).run r tm0 s))).isBad:=by rw [←ad];exact G
    show zqP P f args s (zF (jz fi args 0 T.new fun tm=>(puC 240).run (.ls 1 []) tm fun tm=>zx (fun tm s=>zln (jU pc fi fn.results.toList).run r tm s) ((zj pc fi c).run r tm s)))
    rw [ad]
    have hX:=wk Z Q c tm0 s (fun q=>ae (zcn (zlP q)))
    intro n0 w0 ν w p Y O u
    refine ⟨enter p w,fun kind cs ah=>?_⟩
    have zck:jq P n0 w0 fi ν s ⟨f,kind,none⟩ cs (lone (Frame.enter P f ⟨p⟩ kind) cs w) [] ((zj pc fi c).run r tm0 s):=by
     rw [ai]
     have ay:=first ar ν p u a2 a4
     exact hX n0 w0 ν w _ [] ⟨f,kind,none⟩ cs [] aw Y O ⟨ay.1,fun t z U=>by rw [b2,if_neg (by omega)];exact ay.2 t z U⟩ ⟨ah,by rw [b2,if_pos rfl];rfl,fun _ _ _=>rfl⟩
    refine zoB (fun I s1 an ao=>?_) ae zck
    obtain ⟨C,H,K,x⟩:=zAQ Z Q (l:=fn.results.toList) (tm:=I) (s:=s1) an
    rw [K]
    have done:∀ (W:Val) (w':World) (n:Array Value) (aa:List Deferred) (fr:Frame),Out P n0 w0 ν s W s1 w'→FrR W fi T.get I n→Env W ⟨f,kind,none⟩ cs I aa→Steps P (lone (Frame.enter P f ⟨p⟩ kind) cs w) (lone fr cs w')→fr.tmps=n→fr.defers=aa→fr.mode=.returning→fr.kind=kind→fr.fn=f →
      ∃ W y w' fr,Out P n0 w0 ν s W H w'∧VR W C y∧Steps P (lone (Frame.enter P f ⟨p⟩ kind) cs w) (lone fr cs w')∧fr.kind=kind∧fr.mode=.returning∧fr.defers=[]∧fr.fn=f∧∃ fn,P.funcs[f]?=some fn∧(results fn fr.tmps).run P w'=.ok y w':=by
     intro W w' n aa fr z U i o g5 g6 g7 g8 g9
     obtain ⟨aB,w2,a,v,ys,y1,y2⟩:=x n0 w0 W w' fr cs z.st (O.mono z.le) (by rw [g6];exact i.df) (by rw [g5];exact U) g7
     exact ⟨aB,_,w2,{ fr with defers:=[] },z.trans a,y2,o.trans v,g8,g7,rfl,g9,fn,ak,zie y1⟩
    rcases ao with ⟨W,w',n,aa,z,U,i,o⟩ | ⟨W,w',n,aa,todo,z,U,i,o⟩
    ·exact done W w' n aa _ z U i (o.trans (.one (zxV rfl))) rfl rfl rfl rfl rfl
    ·exact done W w' n aa _ z U i (o.trans (.one (zxt rfl))) rfl rfl rfl rfl rfl
theorem znH {pc:PC} (Z:PcOk P pc):∀ n,RS P pc (run pc n)
 | 0=>⟨fun _ _ _ _ G=>absurd trivial G,fun _ _ _ G=>absurd trivial G⟩
 | n+1=>⟨fun _ c tm s G=>wk Z (znH Z n) c tm s G,fun _ _ _ G=>zxv Z (znH Z n) G⟩
def zck (G:Nat):S:=⟨.lf,yZ 24 (G+1)⟩
def zlG (G:Nat):Bool:=(List.range G).all fun g=>Nat.blt (yZ 24 (g+1)).toNat (yZ 24 (G+1)).toNat && (List.range G).all fun j=>Nat.beq g j || !(Nat.beq (yZ 24 (g+1)).toNat (yZ 24 (j+1)).toNat)
theorem zzd {G g:Nat} (h:zlG G=true) (Q:g<G):(yZ 24 (g+1)).toNat<(yZ 24 (G+1)).toNat:=by
 unfold zlG at h
 rw [kao] at h
 have:=h g (kaM.2 Q)
 rw [kaf] at this
 have I:=this.1
 exact kaJ I
theorem zv3 {G g j:Nat} (h:zlG G=true) (C:g<G) (r:j<G) (e:yZ 24 (g+1)=yZ 24 (j+1)):g=j:=by
 unfold zlG at h
 rw [kao] at h
 have:=h g (kaM.2 C)
 rw [kaf] at this
 have J:=(kao.1 this.2) j (kaM.2 r)
 rw [e] at J
 rcases (Bool.or_eq_true _ _).mp J with Q | Q
 ·exact kac Q
 ·simp at Q
open Classical in
noncomputable def zBb (G:Nat):Val :=
 { blk:=fun a v=>if h:∃ g,g<G∧a=yZ 24 (g+1)∧v=0 then some (h.choose,0) else none,cap:=fun _ _=>0,sz:=fun _=>0 }
theorem zxk {G:Nat} (Q:zlG G=true) (w:World):St P w.heap.size w (zBb G) (zck G) w∧yn (zBb G) G:=by
 have none_:∀ a,Tr.get B.none a (zck G).h=.none:=fun a=>by cases a<;>rfl
 refine ⟨⟨Below.refl _ _,kad _,fun a=>?_,fun a U=>⟨fun v=>?_,none_ a⟩,fun a v b q r F j _ _ u _=>?_,fun a v b q _ u=>?_⟩,fun g h=>?_⟩
 ·rw [none_];trivial
 ·unfold zBb
  simp only
  rw [dif_neg]
  rintro ⟨g,I,J,_⟩
  have:=zzd Q I
  rw [←J] at this
  have:(zck G).nx.toNat≤a.toNat:=U
  have e:(zck G).nx=yZ 24 (G+1):=rfl
  rw [e] at this
  omega
 ·rw [none_] at u;exact u.elim
 ·rw [none_] at u;exact u.elim
 ·have M:∃ K,K<G∧yZ 24 (g+1)=yZ 24 (K+1)∧(0:Nat)=0:=⟨g,h,rfl,rfl⟩
  show (if h:∃ K,K<G∧yZ 24 (g+1)=yZ 24 (K+1)∧(0:Nat)=0 then some (h.choose,0) else none:Option (Nat × Nat))=_
  rw [dif_pos M]
  have:=M.choose_spec
  rw [zv3 Q this.1 h this.2.1.symm]
end Go.Ev
