/- The evaluator is right on drawn regions, loops, functions; a closed call that it answers is a call of the program. No statement of the seat stands here. No condition. By an AI agent. -/
import Derived.Test.YtlklljjppambpaaGreatDoorEvE
import Derived.Maps.RangeRun
namespace Go.Ev
open Go.RowKit
variable {P:Program}
variable {l:List Oper} {i:Nat} {o:Oper}
theorem zc5 {pc:PC} {fi:FI} (ho:l[i]?=some o) (rest:List (Bool × Nat)) (ds:List Nat):jH pc fi l ((false,i)::rest) ds=jh fi ds l o (zp9 fi o (op pc fi ds o) (jH pc fi l rest (push o ds))) (zka fi o (jH pc fi l rest (push o ds))):=by
 simp only [jH,ho]
theorem zjq {pc:PC} {fi:FI} (ho:l[i]?=some o) (rest:List (Bool × Nat)) (ds:List Nat):jH pc fi l ((true,i)::rest) ds=jh fi ds l o (zdi fi ds o (op pc fi ds o) (jH pc fi l rest ds)) (jH pc fi l rest ds):=by
 simp only [jH,ho]
variable {d:Nat}
theorem zgY {fi:FI} {ds:List Nat} {f:OpC} {g:LoC} (hd:o.dst=some d) (r:R) (tm:T) (le:List V) (s:S):(zdi fi ds o f g).run r tm le s=f.run r tm le s fun v _=>(opd fi ds (.tmp d)).run tm le fun w=>@Bool.rec (fun _=>A) eA (g.run r tm le s) (yS v w):=by
 unfold zdi
 rw [hd]
theorem zlL {fi:FI} {ds:List Nat} {f:OpC} {g:LoC} (hd:o.dst=none) (r:R) (tm:T) (le:List V) (s:S):((zdi fi ds o f g).run r tm le s).isBad:=by
 unfold zdi
 rw [hd];trivial
theorem zMe {fi:FI} {ds:List Nat} {k:Nat} (h:idx d ds 0=some k) {tm:T} {le:List V} {c:V→A} (hnb:¬((opd fi ds (.tmp d)).run tm le c).isBad):c (le.getD k .bad)=(opd fi ds (.tmp d)).run tm le c:=by
 simp only [opd,h] at hnb ⊢
 exact zLg hnb
variable {r:List (Bool × Nat)}
theorem za3 {all:Array Oper} {D stale:List Nat} (h:yd (yB all.toList []) (all.toList.map qa) all.toList D stale ((false,i)::r)=true) :
    i<all.size∧i ∉ D∧(∀ j,j<all.size→jq all i j=true→j∈D)∧(∀ f∈D,kd all f=3→jq all i f=true) ∧
    (if kd all i=3 then stale=[]∧yd (yB all.toList []) (all.toList.map qa) all.toList (i::D) (D.filter fun j=>Nat.beq (kd all j) 2 && !(jq all i j)) r=true
     else yd (yB all.toList []) (all.toList.map qa) all.toList (i::D) stale r=true):=by
  simp only [yd,kas] at h
  obtain ⟨⟨⟨⟨h1,h2⟩,h3⟩,h4⟩,h5⟩:=h
  refine ⟨by simpa [Nat.blt_eq] using h1,?_,fun j hj hp=>?_,fun f hf hk=>?_,?_⟩
  · intro hm
    have:=List.elem_eq_true_of_mem hm
    rw [List.contains,this] at h2;cases h2
  · rw [kaD] at h3
    have:=h3 j ((zeb _ _ _).2 (.inl (by simpa using hj)))
    rw [Bool.or_eq_true] at this
    rcases this with h | h
    · have hp':bit ((yB all.toList []).getD i 0) j=true:=hp
      rw [hp'] at h;cases h
    · exact List.mem_of_elem_eq_true h
  · rw [kaD] at h4
    have:=h4 f hf
    rw [Bool.or_eq_true] at this
    rcases this with h | h
    · have hk':(all.toList.map qa).getD f 3=3:=hk
      rw [hk'] at h;cases h
    · exact h
  · by_cases hk:kd all i=3
    · rw [if_pos hk]
      have hk':Nat.beq ((all.toList.map qa).getD i 3) 3=true:=by
        have:(all.toList.map qa).getD i 3=3:=hk
        rw [this];rfl
      rw [hk'] at h5
      simp only [kas,List.isEmpty_iff] at h5
      exact h5
    · rw [if_neg hk]
      have hk':Nat.beq ((all.toList.map qa).getD i 3) 3=false:=by
        cases hb:Nat.beq ((all.toList.map qa).getD i 3) 3 with
        | false=>rfl
        | true=>exact absurd (bq hb) hk
      rw [hk'] at h5
      exact h5
theorem zGH {all:Array Oper} {D stale:List Nat} (h:yd (yB all.toList []) (all.toList.map qa) all.toList D stale ((true,i)::r)=true) :
  i∈D∧kd all i=2∧(∀ j∈D,∀ o t,all[i]?=some o→yG all j=some t→t∈jw all.toList o→jq all i j=true)∧yd (yB all.toList []) (all.toList.map qa) all.toList D (stale.filter fun j=>!(Nat.beq j i)) r=true:=by
 simp only [yd,kas] at h
 obtain ⟨⟨⟨h1,h2⟩,h3⟩,h4⟩:=h
 refine ⟨List.mem_of_elem_eq_true h1,bq h2,fun j hj o t ho hd ht=>?_,h4⟩
 rw [kaD] at h3
 have:=h3 j hj
 have e1:(all.toList[j]?).bind (·.dst)=some t:=by rw [kao];exact hd
 have e2:all.toList[i]?=some o:=by rw [kao];exact ho
 rw [e1,e2] at this
 simp only [Bool.or_eq_true] at this
 rcases this with h | h
 ·have hc:(jw all.toList o).contains t=true:=List.elem_eq_true_of_mem ht
  rw [hc] at h;cases h
 ·exact h
theorem zzT {all:Array Oper} {D stale:List Nat} (h:yd (yB all.toList []) (all.toList.map qa) all.toList D stale []=true):stale=[]∧∀ i,i<all.size→i∈D:=by
 simp only [yd,kas,List.isEmpty_iff,kaD] at h
 exact ⟨h.1,fun i hi=>List.mem_of_elem_eq_true (h.2 i ((zeb _ _ _).2 (.inl (by simpa using hi))))⟩
theorem ziu {all:Array Oper}:∀ {r:List (Bool × Nat)} {D stale:List Nat},yd (yB all.toList []) (all.toList.map qa) all.toList D stale r=true→∀ {e:Nat},e∈D→kd all e=3→∀ i,i<all.size→i ∉ D→jq all i e=true
 | [],D,stale,h,e,he,hk,i,hi,hn=>absurd ((zzT h).2 i hi) hn
 | (true,j)::r,D,stale,h,e,he,hk,i,hi,hn=>ziu (zGH h).2.2.2 he hk i hi hn
 | (false,j)::r,D,stale,h,e,he,hk,i,hi,hn=>by
  obtain ⟨h1,h2,h3,h4,h5⟩:=za3 h
  by_cases hij:i=j
  ·subst hij;exact h4 e he hk
  ·have hn':i ∉ j::D:=by simp [hij,hn]
   by_cases hkj:kd all j=3
   ·rw [if_pos hkj] at h5
    exact ziu h5.2 (kaC _ he) hk i hi hn'
   ·rw [if_neg hkj] at h5
    exact ziu h5 (kaC _ he) hk i hi hn'
theorem zDD.ext {all:Array Oper} {fi:FI} {tm0:T} {D D1:List DE} {stale:List Nat} {s s':S} {ν:Val} {e:DE} (hD:∀ x∈D,x∈D1) (hs:∀ a,Tr.get B.none a s.h=.none∨Tr.get B.none a s.h=Tr.get B.none a s'.h) (hnx:s.nx.toNat≤s'.nx.toNat) (hk:∀ a,a.toNat<s.nx.toNat→Tr.get B.none a s'.h=Tr.get B.none a s.h)
  (h:zDD P all fi tm0 D stale s ν e):zDD P all fi tm0 D1 stale s' ν e:=by
 obtain ⟨X,o,h1,h2,h3,h4⟩:=h
 refine ⟨X,o,h1,fun ν' tmps hG hr=>h2 ν' tmps hG (hr.mono hD),h3,fun hX=>?_⟩
 rcases h4 hX with h | h | ⟨hk2,h⟩ | ⟨a,b,g1,g2,g3,g4,g5⟩
 ·exact .inl fun ν' tmps hG hr=>h ν' tmps hG (hr.mono hD)
 ·exact .inr (.inl h)
 ·have lv:∀ a,(Tr.get B.none a s.h).live→(Tr.get B.none a s'.h).live:=fun a hl=>by
   rcases hs a with e1 | e1
   ·rw [e1] at hl;exact hl.elim
   ·rw [←e1];exact hl
  refine .inr (.inr (.inl ⟨hk2,fun ν' w tmps hw hG hr=>h ν' w tmps ⟨fun a=>?_,fun a v b δ a' v' δ' k1 k2 k3 k4=>hw.2 a v b δ a' v' δ' k1 k2 (lv a k3) (lv a' k4)⟩ hG (hr.mono hD)⟩))
  rcases hs a with e1 | e1
  ·rw [e1];trivial
  ·rw [e1];exact hw.1 a
 ·exact .inr (.inr (.inr ⟨a,b,g1,fun n0 w0 ν' tmps s2 w q1 q2 q3=>g2 n0 w0 ν' tmps s2 w q1 q2 (q3.mono hD),g3,by omega,by rw [hk a g4];exact g5⟩))
section
variable {all:Array Oper} {fi:FI} {tm0:T} {tmps0:Array Value} {n0:Nat} {w0:World} {ν0:Val} {s0:S} {D:List DE} {ds:List Nat} {tm:T} {le:List V} {s:S} {stale:List Nat} {Sx:Nat→Prop} {ν:Val} {w:World} {tmps:Array Value}
variable {i:Nat}
theorem wB:i∈D.map (·.i)↔∃ e∈D,e.i=i:=kav
theorem zm0 (hI:Inv P all fi tm0 tmps0 n0 w0 ν0 s0 D ds tm le s stale Sx ν w tmps) {o:Oper} {v:V} {key:Option K} {s':S} {ds':List Nat} {tm':T} {le':List V} (hi:i<all.size) (hni:∀ e∈D,e.i≠i) (ho:all[i]?=some o)
  (hpr:∀ j,j<all.size→jq all i j=true→∃ e∈D,e.i=j) (hk3:kd all i≠3) (hcfg:Acfg all fi tm0 (⟨i,v,key⟩::D) ds' tm' le') (hdl:∀ d,o.dst=some d→d<fi.nt) (hst:St P n0 w0 ν s' w)
  (hs:∀ a,Tr.get B.none a s.h=.none∨Tr.get B.none a s.h=Tr.get B.none a s'.h) (hnx:s.nx.toNat≤s'.nx.toNat) (hkp:∀ a,a.toNat<s.nx.toNat→Tr.get B.none a s'.h=Tr.get B.none a s.h) (hkey:∀ k,key=some k→k=s.nx∧s.nx.toNat<s'.nx.toNat)
  (hp:zDD P all fi tm0 (⟨i,v,key⟩::D) stale s' ν ⟨i,v,key⟩):Inv P all fi tm0 tmps0 n0 w0 ν0 s0 (⟨i,v,key⟩::D) ds' tm' le' s' stale Sx ν w tmps:=by
 have hSi:¬Sx i:=fun h=>by obtain ⟨e,he,h2⟩:=hI.c4 i h;exact hni e he h2
 have hout:Out P n0 w0 ν0 s0 ν s' w:=⟨hI.out.le,hst,kar hI.out.nx hnx,fun a ha hlt=>by
  obtain ⟨k1,k2⟩:=hI.out.keep a ha hlt
  exact ⟨k1,by rw [hkp a (kaf hlt hI.out.nx)];exact k2⟩⟩
 refine ⟨hout,hI.glob,hI.ng,hcfg,?_,fun e he=>?_,⟨hpr,hI.topL⟩,⟨fun e he k hk=>?_,fun e he e' he' hne k hk hk'=>?_⟩,hI.szt,fun e he t hd=>?_,fun e he hS t hd=>?_,hI.c2,hI.fr0,hI.c3,fun j hj=>?_,fun e he hk=>?_,fun e he hS=>?_⟩
 ·simp only [kaN,List.nodup_cons]
  exact ⟨fun h=>by obtain ⟨e,he,h2⟩:=wB.1 h;exact hni e he h2,hI.nd⟩
 ·rcases kaj.1 he with h | h
  ·subst h;exact hi
  ·exact hI.lt e h
 ·rcases kaj.1 he with h | h
  ·subst h
   obtain ⟨h1,h2⟩:=hkey k hk
   subst h1
   exact ⟨hI.out.nx,h2⟩
  ·have:=hI.keys.lt e h k hk;omega
 ·rcases kaj.1 he with h | h
  ·rcases kaj.1 he' with h' | h'
   ·subst h h';exact hne rfl
   ·subst h
    obtain ⟨h1,_⟩:=hkey k hk
    have:=(hI.keys.lt e' h' k hk').2
    rw [h1] at this;omega
  ·rcases kaj.1 he' with h' | h'
   ·subst h'
    obtain ⟨h1,_⟩:=hkey k hk'
    have:=(hI.keys.lt e h k hk).2
    rw [h1] at this;omega
   ·exact hI.keys.ne e h e' h' hne k hk hk'
 ·rcases kaj.1 he with h | h
  ·subst h
   have:yG all i=o.dst:=by unfold yG;rw [ho];rfl
   rw [this] at hd
   exact hdl t hd
  ·exact hI.dlt e h t hd
 ·rcases kaj.1 he with h | h
  ·subst h;exact absurd hS hSi
  ·exact hI.c1 e h hS t hd
 ·obtain ⟨e,he,h2⟩:=hI.c4 j hj
  exact ⟨e,kaC _ he,h2⟩
 ·rcases kaj.1 he with h | h
  ·subst h;exact absurd hk hk3
  ·exact hI.eff e h hk
 ·rcases kaj.1 he with h | h
  ·subst h;exact hp
  ·exact (hI.pend e h hS).ext (fun x hx=>kaC _ hx) hs hnx hkp
theorem zbS {pc:PC} (hpc:PcOk P pc) {r:R} (ht:Tidy all) (hnd:∀ (i:Nat) (o:Oper),all[i]?=some o→zW o=false):∀ (rest:List (Bool × Nat)) (D:List Nat) (stale:List Nat) (ds:List Nat) (tm:T) (le:List V) (s:S),yd (yB all.toList []) (all.toList.map qa) all.toList D stale rest=true →
  ¬((jH pc fi all.toList rest ds).run r tm le s).isBad→∃ rest' D' stale' ds' tm' le' s',(rest'=[]∨∃ i r',rest'=(false,i)::r'∧kd all i=3)∧yd (yB all.toList []) (all.toList.map qa) all.toList D' stale' rest'=true ∧
   (jH pc fi all.toList rest' ds').run r tm' le' s'=(jH pc fi all.toList rest ds).run r tm le s∧∀ (tm0:T) (tmps0:Array Value) (n0:Nat) (w0:World) (ν0:Val) (s0:S) (E:List DE) (Sx:Nat→Prop) (ν:Val) (w:World) (tmps:Array Value),E.map (·.i)=D→Inv P all fi tm0 tmps0 n0 w0 ν0 s0 E ds tm le s stale Sx ν w tmps →
    ∃ E',E'.map (·.i)=D'∧Inv P all fi tm0 tmps0 n0 w0 ν0 s0 E' ds' tm' le' s' stale' Sx ν w tmps
 | [],D,stale,ds,tm,le,s,hok,hnb=>⟨[],D,stale,ds,tm,le,s,.inl rfl,hok,rfl,fun _ _ _ _ _ _ E _ _ _ _ hE hI=>⟨E,hE,hI⟩⟩
 | (true,i)::rest,D,stale,ds,tm,le,s,hok,hnb=>by
  obtain ⟨h1,h2,h3,h4⟩:=zGH hok
  have hio:∃ o,all[i]?=some o:=by
   cases hx:all[i]? with
   | some o=>exact ⟨o,rfl⟩
   | none =>
    have:kd all i=3:=by unfold kd;simp [List.getD,hx]
    rw [this] at h2;cases h2
  obtain ⟨o,ho⟩:=hio
  have hol:all.toList[i]?=some o:=by rw [kao];exact ho
  rw [zjq hol] at hnb
  rw [zjq hol]
  obtain ⟨X,hX,hwant⟩:=zcc hnb
  rw [←hX] at hnb ⊢
  have hkind:qa o=2:=by rw [←zLT ho];exact h2
  -- what follows from an invariant
  have sl:∀ {tm0:T} {tmps0:Array Value} {n0:Nat} {w0:World} {ν0:Val} {s0:S} {E:List DE} {Sx:Nat→Prop} {ν:Val} {w:World} {tmps:Array Value},E.map (·.i)=D→Inv P all fi tm0 tmps0 n0 w0 ν0 s0 E ds tm le s stale Sx ν w tmps →
    ∀ (ν':Val) (tmps':Array Value),Rdy all fi tm0 E ν' tmps' i→∀ t∈jw all.toList o,SlR ν' fi T.get ds tm le tmps' t:=by
   intro tm0 tmps0 n0 w0 ν0 s0 E Sx ν w tmps hE hI ν' tmps' hr
   refine zyW hI.cfg ho (fun e he t hd hts=>h3 e.i (by rw [←hE];exact kav.2 ⟨e,he,rfl⟩) o t ho hd hts) (fun j hj hp=>?_) hr
   rw [←hE] at h1
   obtain ⟨e,he,e2⟩:=wB.1 h1
   exact hI.top e he j hj (by rw [e2];exact hp)
  -- the invariant with i looked at anew
  have upd:∀ (tm0:T) (tmps0:Array Value) (n0:Nat) (w0:World) (ν0:Val) (s0:S) (E:List DE) (Sx:Nat→Prop) (ν:Val) (w:World) (tmps:Array Value),E.map (·.i)=D→Inv P all fi tm0 tmps0 n0 w0 ν0 s0 E ds tm le s stale Sx ν w tmps →
    (∀ e∈E,e.i=i→(∀ ν' tmps,yq ν' fi.ng→Rdy all fi tm0 E ν' tmps i→Region.wanted o (yielded all tmps)=true)→zKk P all fi tm0 E s e o) →
    Inv P all fi tm0 tmps0 n0 w0 ν0 s0 E ds tm le s (stale.filter fun j=>!(Nat.beq j i)) Sx ν w tmps:=by
   intro tm0 tmps0 n0 w0 ν0 s0 E Sx ν w tmps hE hI hrd
   refine ⟨hI.out,hI.glob,hI.ng,hI.cfg,hI.nd,hI.lt,hI.topL,hI.keys,hI.szt,hI.dlt,hI.c1,hI.c2,hI.fr0,hI.c3,hI.c4,hI.eff,fun e he hS=>?_⟩
   obtain ⟨Y,o',q1,q2,q3,q4⟩:=hI.pend e he hS
   refine ⟨Y,o',q1,q2,q3,fun hY=>?_⟩
   rcases q4 hY with h | ⟨h,h'⟩ | h | h
   ·exact .inl h
   ·by_cases hei:e.i=i
    ·right;right;left
     rw [hei,ho] at q1
     simp only [Option.some.injEq] at q1
     subst q1
     refine ⟨h',hrd e he hei (fun ν' tmps hG hr=>?_)⟩
     have:=q2 ν' tmps hG (by rw [hei];exact hr)
     rw [this];exact hY
    ·right;left
     refine ⟨List.mem_filter.2 ⟨h,?_⟩,h'⟩
     cases hb:Nat.beq e.i i with
     | false=>rfl
     | true=>exact absurd (bq hb) hei
   ·exact .inr (.inr (.inl h))
   ·exact .inr (.inr (.inr h))
  cases X with
  | false =>
   simp only [Bool.false_eq_true,if_false] at hnb ⊢
   obtain ⟨rest',D',stale',ds',tm',le',s',g1,g2,g3,g4⟩:=zbS hpc ht hnd rest D _ ds tm le s h4 hnb
   refine ⟨rest',D',stale',ds',tm',le',s',g1,g2,g3,fun tm0 tmps0 n0 w0 ν0 s0 E Sx ν w tmps hE hI=>g4 tm0 tmps0 n0 w0 ν0 s0 E Sx ν w tmps hE (upd _ _ _ _ _ _ _ _ _ _ _ hE hI fun e he hei hw=>?_)⟩
   intro ν' w' tmps' hrows hG hr
   rw [hei] at hr
   have q1:=hw ν' tmps' hG hr
   have q2:=hwant ν' tmps' hG (zba (sl hE hI ν' tmps' hr))
   rw [q1] at q2;cases q2
  | true =>
   simp only [if_true] at hnb ⊢
   cases hd:o.dst with
   | none=>exact absurd (zlL hd r tm le s) hnb
   | some d =>
    rw [zgY hd] at hnb ⊢
    obtain ⟨v,q1,q2⟩:=zwS hpc hkind r tm le s _ hnb
    rw [←q1] at hnb ⊢
    obtain ⟨u,q3,q4⟩:=qc fi ds (.tmp d) tm le _ hnb
    cases hb:yS v u with
    | false=>rw [←q3] at hnb;simp only [hb] at hnb;exact absurd trivial hnb
    | true =>
     have hnb':¬((jH pc fi all.toList rest ds).run r tm le s).isBad:=by rw [←q3] at hnb;simp only [hb] at hnb;exact hnb
     obtain ⟨rest',D',stale',ds',tm',le',s',g1,g2,g3,g4⟩:=zbS hpc ht hnd rest D _ ds tm le s h4 hnb'
     refine ⟨rest',D',stale',ds',tm',le',s',g1,g2,by rw [g3,←q3];simp only [hb],fun tm0 tmps0 n0 w0 ν0 s0 E Sx ν w tmps hE hI=>g4 tm0 tmps0 n0 w0 ν0 s0 E Sx ν w tmps hE (upd _ _ _ _ _ _ _ _ _ _ _ hE hI fun e he hei hw=>?_)⟩
     -- the slot's value is the known one
     have hdst:yG all e.i=some d:=by rw [hei];unfold yG;rw [ho];exact hd
     obtain ⟨k,hk⟩:=Option.isSome_iff_exists.1 (hI.cfg.a3 e he d hdst)
     have hval:yS v (le.getD k .bad)=true:=by
      cases hb2:yS v (le.getD k .bad) with
      | true=>rfl
      | false =>
       have:=zMe hk hnb
       simp only [hb2] at this
       rw [←this] at hnb
       exact absurd trivial hnb
     obtain ⟨e',he',k1,k2⟩:=hI.cfg.a1 d k hk
     have:e'=e:=zNk hI.nd he' he (ht.uniq _ _ d k1 hdst)
     subst this
     rw [k2] at hval
     have hv:=zfx _ _ hval
     intro ν' w' tmps' hrows hG hr
     rw [hei] at hr
     obtain ⟨y,y1,y2⟩:=q2 ν' w' tmps' hrows hG (zqo (sl hE hI ν' tmps' hr))
     exact ⟨y,by rw [←hv];exact y1,y2⟩
 | (false,i)::rest,D,stale,ds,tm,le,s,hok,hnb=>by
  obtain ⟨h1,h2,h3,h4,h5⟩:=za3 hok
  by_cases hk3:kd all i=3
  ·exact ⟨(false,i)::rest,D,stale,ds,tm,le,s,.inr ⟨i,rest,rfl,hk3⟩,hok,rfl,fun _ _ _ _ _ _ E _ _ _ _ hE hI=>⟨E,hE,hI⟩⟩
  ·rw [if_neg hk3] at h5
   obtain ⟨o,ho⟩:∃ o,all[i]?=some o:=⟨all[i],Array.getElem?_eq_getElem h1⟩
   have hol:all.toList[i]?=some o:=by rw [kao];exact ho
   rw [zc5 hol] at hnb
   rw [zc5 hol]
   obtain ⟨X,hX,hwant⟩:=zcc hnb
   rw [←hX] at hnb ⊢
   have hkk:qa o≠3:=by rw [←zLT ho];exact hk3
   have hndo:=hnd i o ho
   -- what follows from an invariant
   have base:∀ {tm0:T} {tmps0:Array Value} {n0:Nat} {w0:World} {ν0:Val} {s0:S} {E:List DE} {Sx:Nat→Prop} {ν:Val} {w:World} {tmps:Array Value},E.map (·.i)=D→Inv P all fi tm0 tmps0 n0 w0 ν0 s0 E ds tm le s stale Sx ν w tmps →
     (∀ e∈E,e.i≠i)∧(∀ j,j<all.size→jq all i j=true→∃ e∈E,e.i=j)∧∀ (x:DE) (ν':Val) (tmps':Array Value),Rdy all fi tm0 (x::E) ν' tmps' i→∀ t∈jw all.toList o,SlR ν' fi T.get ds tm le tmps' t:=by
    intro tm0 tmps0 n0 w0 ν0 s0 E Sx ν w tmps hE hI
    have hni:∀ e∈E,e.i≠i:=fun e he h=>h2 (by rw [←hE];exact kav.2 ⟨e,he,h⟩)
    have hpr:∀ j,j<all.size→jq all i j=true→∃ e∈E,e.i=j:=fun j hj hp=>wB.1 (by rw [hE];exact h3 j hj hp)
    refine ⟨hni,hpr,fun x ν' tmps' hr=>zyW hI.cfg ho (fun e he t hd hts=>?_) hpr (hr.mono fun y hy=>kaC _ hy)⟩
    rcases ht.pair i e.i h1 (hI.lt e he) o t ho hd hts with h | h | h
    ·exact absurd h (hni e he)
    ·exact h
    ·obtain ⟨e',he',h9⟩:=hI.top e he i h1 h
     exact absurd h9 (hni e' he')
   cases X with
   | false =>
    simp only [Bool.false_eq_true,if_false,zcE] at hnb ⊢
    obtain ⟨tm1,le1,q1,q2,q3⟩:=zfg ht ho hnb
    rw [←q1] at hnb ⊢
    obtain ⟨rest',D',stale',ds',tm',le',s',g1,g2,g3,g4⟩:=zbS hpc ht hnd rest (i::D) stale (push o ds) tm1 le1 s h5 hnb
    refine ⟨rest',D',stale',ds',tm',le',s',g1,g2,g3,fun tm0 tmps0 n0 w0 ν0 s0 E Sx ν w tmps hE hI=>?_⟩
    obtain ⟨b1,b2,b3⟩:=base hE hI
    refine g4 tm0 tmps0 n0 w0 ν0 s0 (⟨i,undef,none⟩::E) Sx ν w tmps (by simp [hE]) (zm0 hI h1 b1 ho b2 hk3 (q3 tm0 E ds none hI.cfg b1) q2 hI.out.st (fun a=>.inr rfl) (kab _) (fun a _=>rfl) (fun k hk=>by cases hk) ?_)
    exact ⟨false,o,ho,fun ν' tmps' hG hr=>hwant ν' tmps' hG (zba (b3 _ ν' tmps' hr)),fun _=>rfl,fun h=>by cases h⟩
   | true =>
    simp only [if_true,zeE hndo] at hnb ⊢
    rcases zMj o with hk | hk | hk | hk
    ·obtain ⟨v,p1,p2⟩:=zI9 hpc hk r tm le s _ hnb
     rw [←p1] at hnb ⊢
     obtain ⟨tm1,le1,q1,q2,q3⟩:=zfg ht ho hnb
     rw [←q1] at hnb ⊢
     obtain ⟨rest',D',stale',ds',tm',le',s',g1,g2,g3,g4⟩:=zbS hpc ht hnd rest (i::D) stale (push o ds) tm1 le1 s h5 hnb
     refine ⟨rest',D',stale',ds',tm',le',s',g1,g2,g3,fun tm0 tmps0 n0 w0 ν0 s0 E Sx ν w tmps hE hI=>?_⟩
     obtain ⟨b1,b2,b3⟩:=base hE hI
     refine g4 tm0 tmps0 n0 w0 ν0 s0 (⟨i,v,none⟩::E) Sx ν w tmps (by simp [hE]) (zm0 hI h1 b1 ho b2 hk3 (q3 tm0 E ds none hI.cfg b1) q2 hI.out.st (fun a=>.inr rfl) (kab _) (fun a _=>rfl) (fun k hk=>by cases hk) ?_)
     exact ⟨true,o,ho,fun ν' tmps' hG hr=>hwant ν' tmps' hG (zba (b3 _ ν' tmps' hr)),fun h=>(by cases h),fun _=>.inl fun ν' tmps' hG hr=>p2 ν' tmps' hG (zqo (b3 _ ν' tmps' hr))⟩
    ·obtain ⟨v,bb,p1,p2,p3⟩:=zFH hpc hk r tm le s _ hnb
     rw [←p1] at hnb ⊢
     obtain ⟨tm1,le1,q1,q2,q3⟩:=zfg ht ho hnb
     rw [←q1] at hnb ⊢
     obtain ⟨rest',D',stale',ds',tm',le',s',g1,g2,g3,g4⟩:=zbS hpc ht hnd rest (i::D) stale (push o ds) tm1 le1 _ h5 hnb
     refine ⟨rest',D',stale',ds',tm',le',s',g1,g2,g3,fun tm0 tmps0 n0 w0 ν0 s0 E Sx ν w tmps hE hI=>?_⟩
     obtain ⟨b1,b2,b3⟩:=base hE hI
     obtain ⟨hn,hnB⟩:=hI.out.st.fresh s.nx (kab _)
     have hsucc:(⟨Tr.set B.none bb s.nx s.h,s.nx.succ⟩:S).nx.toNat=s.nx.toNat+1:=K.toNat_succ _
     refine g4 tm0 tmps0 n0 w0 ν0 s0 (⟨i,v,some s.nx⟩::E) Sx ν w tmps (by simp [hE]) (zm0 hI h1 b1 ho b2 hk3 (q3 tm0 E ds (some s.nx) hI.cfg b1) q2 (zhl hI.out.st bb (p2 ν w hn)) (fun a=>?_) (by rw [hsucc];omega) (fun a ha=>?_) (fun k hk=>by cases hk;exact ⟨rfl,by rw [hsucc];omega⟩) ?_)
     ·by_cases ha:a=s.nx
      ·subst ha;exact .inl hnB
      ·right;simp only [get_set,if_neg ha]
     ·have hne:a≠s.nx:=by intro e;subst e;omega
      simp only [get_set,if_neg hne]
     ·refine ⟨true,o,ho,fun ν' tmps' hG hr=>hwant ν' tmps' hG (zba (b3 _ ν' tmps' hr)),fun h=>(by cases h),fun _=>.inr (.inr (.inr ⟨s.nx,bb,rfl,?_,hn,by rw [hsucc];omega,.inl (by simp only [get_set,if_true])⟩))⟩
      intro n0' w0' ν' tmps' s2 w' c1 c2 c3 c4 c5 c6
      exact p3 n0' w0' ν' tmps' s2 w' c1 c2 (zqo (b3 _ ν' tmps' c3)) c4 c5 c6
    ·obtain ⟨v,p1,p2⟩:=zwS hpc hk r tm le s _ hnb
     rw [←p1] at hnb ⊢
     obtain ⟨tm1,le1,q1,q2,q3⟩:=zfg ht ho hnb
     rw [←q1] at hnb ⊢
     obtain ⟨rest',D',stale',ds',tm',le',s',g1,g2,g3,g4⟩:=zbS hpc ht hnd rest (i::D) stale (push o ds) tm1 le1 s h5 hnb
     refine ⟨rest',D',stale',ds',tm',le',s',g1,g2,g3,fun tm0 tmps0 n0 w0 ν0 s0 E Sx ν w tmps hE hI=>?_⟩
     obtain ⟨b1,b2,b3⟩:=base hE hI
     refine g4 tm0 tmps0 n0 w0 ν0 s0 (⟨i,v,none⟩::E) Sx ν w tmps (by simp [hE]) (zm0 hI h1 b1 ho b2 hk3 (q3 tm0 E ds none hI.cfg b1) q2 hI.out.st (fun a=>.inr rfl) (kab _) (fun a _=>rfl) (fun k hk=>by cases hk) ?_)
     exact ⟨true,o,ho,fun ν' tmps' hG hr=>hwant ν' tmps' hG (zba (b3 _ ν' tmps' hr)),fun h=>(by cases h),fun _=>.inr (.inr (.inl ⟨by rw [zLT ho];exact hk,fun ν' w' tmps' hrows hG hr=>p2 ν' w' tmps' hrows hG (zqo (b3 _ ν' tmps' hr))⟩))⟩
    ·exact absurd hk hkk
end
section
variable {all:Array Oper} {fi:FI} {tm0:T} {tmps0:Array Value} {n0:Nat} {w0:World} {ν0:Val} {s0:S} {E:List DE} {ds:List Nat} {tm:T} {le:List V} {s:S} {Sx:Nat→Prop} {ν:Val} {w:World} {tmps:Array Value}
theorem zGc (ht:Tidy all) (hI:Inv P all fi tm0 tmps0 n0 w0 ν0 s0 E ds tm le s [] Sx ν w tmps) {i:Nat} {o:Oper} {v:V} {s1:S} {ds1:List Nat} {tm1:T} {le1:List V} (hi:i<all.size) (hni:∀ e∈E,e.i≠i) (ho:all[i]?=some o)
  (hpr:∀ j,j<all.size→jq all i j=true→∃ e∈E,e.i=j) (hcfg:Acfg all fi tm0 (⟨i,v,none⟩::E) ds1 tm1 le1) (hdl:∀ d,o.dst=some d→d<fi.nt) {ν':Val} {w':World} (ho1:Out P n0 w0 ν s ν' s1 w') {y:Value} (hy:VR ν' v y)
  (hr:∀ j,jq all i j=true→Sx j) :
  Inv P all fi tm0 tmps0 n0 w0 ν0 s0 (⟨i,v,none⟩::E) ds1 tm1 le1 s1 ((E.map (·.i)).filter fun j=>Nat.beq (kd all j) 2 && !(jq all i j)) (fun j=>Sx j∨j=i) ν' w' (j0 tmps o.dst y):=by
 have hdst:yG all i=o.dst:=by unfold yG;rw [ho];rfl
 have zY:∀ t,(j0 tmps o.dst y).getD t Go.undef=if o.dst=some t then y else tmps.getD t Go.undef:=by
  intro t
  cases hd:o.dst with
  | none=>simp [j0]
  | some d =>
   have hlt:=hdl d hd
   simp only [j0]
   rw [zci (by rw [hI.szt];exact hlt)]
   by_cases h:t=d
   ·subst h;simp
   ·rw [if_neg h,if_neg];intro e2;simp only [Option.some.injEq] at e2;exact h e2.symm
 refine ⟨hI.out.trans ho1,hI.glob.mono ho1.le,hI.ng,hcfg,?_,fun e he=>?_,⟨hpr,hI.topL⟩,⟨fun e he k hk=>?_,fun e he e' he' hne k hk hk'=>?_⟩,?_,fun e he t hd=>?_,fun e he hS t hd=>?_,fun t hno=>?_,fun t g1 g2=>(hI.fr0 t g1 g2).mono' ho1.le,fun j hS k hk=>?_,fun j hS=>?_,fun e he hk=>?_,fun e he hS=>?_⟩
 ·simp only [kaN,List.nodup_cons]
  exact ⟨fun h=>by obtain ⟨e,he,h2⟩:=wB.1 h;exact hni e he h2,hI.nd⟩
 ·rcases kaj.1 he with h | h
  ·subst h;exact hi
  ·exact hI.lt e h
 ·rcases kaj.1 he with h | h
  ·subst h;cases hk
  ·have:=hI.keys.lt e h k hk
   have:=ho1.nx
   omega
 ·rcases kaj.1 he with h | h
  ·subst h;cases hk
  ·rcases kaj.1 he' with h' | h'
   ·subst h';cases hk'
   ·exact hI.keys.ne e h e' h' hne k hk hk'
 ·cases hd:o.dst<;>simp [j0,hI.szt]
 ·rcases kaj.1 he with h | h
  ·subst h
   rw [hdst] at hd
   exact hdl t hd
  ·exact hI.dlt e h t hd
 ·rw [zY]
  rcases kaj.1 he with h | h
  ·subst h
   rw [hdst] at hd
   rw [if_pos hd];exact hy
  ·rw [if_neg (fun h2=>hni e h (ht.uniq _ _ t hd (by rw [hdst];exact h2)))]
   rcases hS with hS | hS
   ·exact (hI.c1 e h hS t hd).mono' ho1.le
   ·exact absurd hS (hni e h)
 ·rw [zY,if_neg (fun h=>hno i (.inr rfl) (by rw [hdst];exact h))]
  exact hI.c2 t (fun j hj=>hno j (.inl hj))
 ·rcases hS with hS | hS
  ·exact .inl (hI.c3 j hS k hk)
  ·subst hS;exact .inl (hr k hk)
 ·rcases hS with hS | hS
  ·obtain ⟨e,he,h2⟩:=hI.c4 j hS
   exact ⟨e,kaC _ he,h2⟩
  ·exact ⟨⟨i,v,none⟩,by simp,hS.symm⟩
 ·rcases kaj.1 he with h | h
  ·subst h;exact .inr rfl
  ·exact .inl (hI.eff e h hk)
 ·rcases kaj.1 he with h | h
  ·subst h;exact absurd (.inr rfl) hS
  ·have hSe:¬Sx e.i:=fun h2=>hS (.inl h2)
   obtain ⟨Y,o',q1,q2,q3,q4⟩:=hI.pend e h hSe
   have mono:∀ {ν'':Val} {tmps':Array Value},Rdy all fi tm0 (⟨i,v,none⟩::E) ν'' tmps' e.i→Rdy all fi tm0 E ν'' tmps' e.i:=fun hr2=>hr2.mono fun x hx=>kaC _ hx
   refine ⟨Y,o',q1,fun ν'' tmps' hG hr2=>q2 ν'' tmps' hG (mono hr2),q3,fun hY=>?_⟩
   rcases q4 hY with g | g | ⟨g,_⟩ | ⟨a,b,g1,g2,g3,g4,g5⟩
   ·exact .inl fun ν'' tmps' hG hr2=>g ν'' tmps' hG (mono hr2)
   ·exact absurd g.1 (by simp)
   ·refine .inr (.inl ⟨List.mem_filter.2 ⟨kav.2 ⟨e,h,rfl⟩,?_⟩,g⟩)
    rw [g]
    cases hp:jq all i e.i with
    | false=>rfl
    | true=>exact absurd (hr _ hp) hSe
   ·obtain ⟨k1,k2⟩:=ho1.keep a g3 g4
    refine .inr (.inr (.inr ⟨a,b,g1,fun n0' w0' ν'' tmps' s2 w'' c1 c2 c3=>g2 n0' w0' ν'' tmps' s2 w'' c1 c2 (mono c3),k1,kaf g4 ho1.nx,?_⟩))
    rcases k2 with k2 | k2
    ·rw [k2];exact g5
    ·exact .inr k2
end
variable {i:Nat} {r:R}
theorem zJ7 {pc:PC} (hpc:PcOk P pc) (hr:RS P pc r) (hone:r.One) (hh:∀ h∈pc.hooks,jR P h) {all:Array Oper} {fi:FI} (ht:Tidy all) (hnd:∀ (i:Nat) (o:Oper),all[i]?=some o→zW o=false) {rest:List (Bool × Nat)} {D stale ds:List Nat} {tm:T} {le:List V} {s:S}
  (hok:yd (yB all.toList []) (all.toList.map qa) all.toList D stale ((false,i)::rest)=true) (hk3:kd all i=3) (hnb:¬((jH pc fi all.toList ((false,i)::rest) ds).run r tm le s).isBad) :
  ∃ stale1 ds1 tm1 le1 s1 v o,all[i]?=some o∧yd (yB all.toList []) (all.toList.map qa) all.toList (i::D) stale1 rest=true∧(jH pc fi all.toList rest ds1).run r tm1 le1 s1=(jH pc fi all.toList ((false,i)::rest) ds).run r tm le s ∧
   ∀ (tm0:T) (tmps0:Array Value) (n0:Nat) (w0:World) (ν0:Val) (s0:S) (E:List DE) (Sx:Nat→Prop) (ν:Val) (w:World) (tmps:Array Value) (b:Base) (cs:List Frame) (df:List Deferred) (kk:List Item) (rl:List Nat),E.map (·.i)=D→Inv P all fi tm0 tmps0 n0 w0 ν0 s0 E ds tm le s [] Sx ν w tmps→Env ν0 b cs tm0 df→¬Sx i→(∀ j,jq all i j=true→Sx j) →
    ∃ ν' w' tmps',Inv P all fi tm0 tmps0 n0 w0 ν0 s0 (⟨i,v,none⟩::E) ds1 tm1 le1 s1 stale1 (fun j=>Sx j∨j=i) ν' w' tmps'∧Steps P (lone (b.fr tmps df (.inRegion all (i::rl)::kk)) cs w) (lone (b.fr tmps' df (.inRegion all rl::kk)) cs w'):=by
 obtain ⟨h1,h2,h3,h4,h5⟩:=za3 hok
 rw [if_pos hk3] at h5
 obtain ⟨o,ho⟩:∃ o,all[i]?=some o:=⟨all[i],Array.getElem?_eq_getElem h1⟩
 have hol:all.toList[i]?=some o:=by rw [kao];exact ho
 rw [zc5 hol] at hnb ⊢
 obtain ⟨X,hX,hwant⟩:=zcc hnb
 rw [←hX] at hnb ⊢
 have hndo:=hnd i o ho
 have base:∀ {tm0:T} {tmps0:Array Value} {n0:Nat} {w0:World} {ν0:Val} {s0:S} {E:List DE} {Sx:Nat→Prop} {ν:Val} {w:World} {tmps:Array Value},E.map (·.i)=D→Inv P all fi tm0 tmps0 n0 w0 ν0 s0 E ds tm le s [] Sx ν w tmps→¬Sx i→(∀ j,jq all i j=true→Sx j) →
   (∀ e∈E,e.i≠i)∧(∀ j,j<all.size→jq all i j=true→∃ e∈E,e.i=j)∧∀ t∈jw all.toList o,SlR ν fi T.get ds tm le tmps t:=by
  intro tm0 tmps0 n0 w0 ν0 s0 E Sx ν w tmps hE hI hS hrd
  have hni:∀ e∈E,e.i≠i:=fun e he h=>h2 (by rw [←hE];exact kav.2 ⟨e,he,h⟩)
  have hpr:∀ j,j<all.size→jq all i j=true→∃ e∈E,e.i=j:=fun j hj hp=>wB.1 (by rw [hE];exact h3 j hj hp)
  refine ⟨hni,hpr,zyW hI.cfg ho (fun e he t hd hts=>?_) hpr (zKS ht hI h1 hS hrd)⟩
  rcases ht.pair i e.i h1 (hI.lt e he) o t ho hd hts with h | h | h
  ·exact absurd h (hni e he)
  ·exact h
  ·obtain ⟨e',he',h9⟩:=hI.top e he i h1 h
   exact absurd h9 (hni e' he')
 cases X with
 | false =>
  simp only [Bool.false_eq_true,if_false,zcE] at hnb ⊢
  obtain ⟨tm1,le1,q1,q2,q3⟩:=zfg ht ho hnb
  rw [←q1] at hnb ⊢
  refine ⟨_,push o ds,tm1,le1,s,undef,o,ho,h5.2,rfl,fun tm0 tmps0 n0 w0 ν0 s0 E Sx ν w tmps b cs df kk rl hE hI hEnv hS hrd=>?_⟩
  obtain ⟨b1,b2,b3⟩:=base hE hI hS hrd
  have hw:=hwant ν tmps (hI.glob.le hI.ng) (zba b3)
  have:=zGc ht hI h1 b1 ho b2 (q3 tm0 E ds none hI.cfg b1) q2 (Out.refl hI.out.st) (y:=Go.undef) VR.undef hrd
  rw [hE] at this
  refine ⟨ν,w,_,this,.one ?_⟩
  have:=zgE (P:=P) (b:=b) (tm:=tmps) (df:=df) (k:=kk) (cs:=cs) (w:=w) (ops:=all) (i:=i) (rest:=rl) (by simp [ho,hw])
  rw [ho] at this
  exact this
 | true =>
  simp only [if_true,zeE hndo] at hnb ⊢
  obtain ⟨v,s1,p1,p2⟩:=zzG hpc hr hone hh hndo tm le s _ hnb
  rw [←p1] at hnb ⊢
  obtain ⟨tm1,le1,q1,q2,q3⟩:=zfg ht ho hnb
  rw [←q1] at hnb ⊢
  refine ⟨_,push o ds,tm1,le1,s1,v,o,ho,h5.2,rfl,fun tm0 tmps0 n0 w0 ν0 s0 E Sx ν w tmps b cs df kk rl hE hI hEnv hS hrd=>?_⟩
  obtain ⟨b1,b2,b3⟩:=base hE hI hS hrd
  have hw:=hwant ν tmps (hI.glob.le hI.ng) (zba b3)
  obtain ⟨ν',y,w',g1,g2,g3⟩:=p2 n0 w0 ν w tmps df b cs all i rl kk hI.ng hI.out.st hI.glob (zqo b3) ((hEnv.mono hI.out.le).same hI.cfg.a4) ho hw
  have:=zGc ht hI h1 b1 ho b2 (q3 tm0 E ds none hI.cfg b1) q2 g1 g2 hrd
  rw [hE] at this
  exact ⟨ν',w',_,this,g3⟩
theorem zd6 {pc:PC} (hpc:PcOk P pc) {r:R} (hr:RS P pc r) (hone:r.One) (hh:∀ h∈pc.hooks,jR P h) {l:List Oper} {fi:FI} (hnd:∀ (i:Nat) (o:Oper),l[i]?=some o→zW o=false):∀ (st:List (Bool × Nat)) (ds:List Nat) (tm:T) (le:List V) (s:S),¬((jH pc fi l st ds).run r tm le s).isBad→∃ tm' s',(jH pc fi l st ds).run r tm le s=.nrm tm' s'
 | [],ds,tm,le,s,_=>⟨tm,s,rfl⟩
 | (ag,i)::st,ds,tm,le,s,hnb=>by
  cases ho:l[i]? with
  | none =>
   have:(jH pc fi l ((ag,i)::st) ds).run r tm le s=.bad 0:=by simp only [jH,ho]
   rw [this] at hnb;exact absurd trivial hnb
  | some o =>
   have hg:∀ (e g:LoC),¬((jh fi ds l o e g).run r tm le s).isBad→(jh fi ds l o e g).run r tm le s=e.run r tm le s∨(jh fi ds l o e g).run r tm le s=g.run r tm le s:=by
    intro e g hnb
    have hl:(⟨l⟩:Array Oper).toList=l:=rfl
    have:=zcc (all:=⟨l⟩) (by rw [hl];exact hnb)
    obtain ⟨X,hX,_⟩:=this
    rw [hl] at hX
    cases X with
    | true=>exact .inl hX.symm
    | false=>exact .inr hX.symm
   cases ag with
   | false =>
    rw [zc5 ho] at hnb ⊢
    rcases hg _ _ hnb with h | h
    ·rw [h,zeE (hnd i o ho)] at hnb
     rw [h,zeE (hnd i o ho)]
     obtain ⟨v,s1,p1,_⟩:=zzG hpc hr hone hh (hnd i o ho) tm le s _ hnb
     rw [←p1] at hnb ⊢
     obtain ⟨tm1,le1,q1,_⟩:=zjw hnb
     rw [←q1] at hnb ⊢
     exact zd6 hpc hr hone hh hnd st _ _ _ _ hnb
    ·rw [h,zcE] at hnb
     rw [h,zcE]
     obtain ⟨tm1,le1,q1,_⟩:=zjw hnb
     rw [←q1] at hnb ⊢
     exact zd6 hpc hr hone hh hnd st _ _ _ _ hnb
   | true =>
    rw [zjq ho] at hnb ⊢
    rcases hg _ _ hnb with h | h
    ·cases hd:o.dst with
     | none=>rw [h] at hnb;exact absurd (zlL hd r tm le s) hnb
     | some d =>
      rw [h,zgY hd] at hnb
      rw [h,zgY hd]
      obtain ⟨v,s1,p1,_⟩:=zzG hpc hr hone hh (hnd i o ho) tm le s _ hnb
      rw [←p1] at hnb ⊢
      obtain ⟨u,q3,_⟩:=qc fi ds (.tmp d) tm le _ hnb
      rw [←q3] at hnb ⊢
      cases hb:yS v u with
      | false=>simp only [hb] at hnb;exact absurd trivial hnb
      | true =>
       simp only [hb] at hnb ⊢
       exact zd6 hpc hr hone hh hnd st _ _ _ _ hnb
    ·rw [h] at hnb ⊢
     exact zd6 hpc hr hone hh hnd st _ _ _ _ hnb
theorem zmI {p p':Nat→Bool} (h:∀ j,p' j=true→p j=true):∀ (L:List Nat),(L.filter p').length≤(L.filter p).length∧∀ i∈L,p i=true→p' i=false→(L.filter p').length<(L.filter p).length
 | []=>⟨kab _,fun i hi=>by cases hi⟩
 | x::L=>by
  obtain ⟨h1,h2⟩:=zmI h L
  constructor
  ·cases hx:p' x with
   | true=>simp only [List.filter_cons,hx,h x hx,if_true,kaH];omega
   | false=>cases hx2:p x<;>simp only [List.filter_cons,hx,hx2,if_true,Bool.false_eq_true,if_false,kaH]<;>omega
  ·intro i hi hp hp'
   rcases kaj.1 hi with e | e
   ·subst e
    simp only [List.filter_cons,hp,hp',if_true,Bool.false_eq_true,if_false,kaH];omega
   ·have:=h2 i e hp hp'
    cases hx:p' x with
    | true=>simp only [List.filter_cons,hx,h x hx,if_true,kaH];omega
    | false=>cases hx2:p x<;>simp only [List.filter_cons,hx,hx2,if_true,Bool.false_eq_true,if_false,kaH]<;>omega
def cnt (n:Nat) (listed:Array Bool):Nat:=((List.range n).filter fun j=>!(listed.getD j false)).length
theorem zbB {listed:Array Bool} (hi:i<listed.size) (j:Nat):(listed.setIfInBounds i true).getD j false=true↔listed.getD j false=true∨j=i:=by
 by_cases h:i=j
 ·subst h
  simp [hi]
 ·rw [getD_set_ne false h]
  constructor
  ·exact .inl
  ·rintro (h1 | h1)
   ·exact h1
   ·exact absurd h1.symm h
theorem zkJ {all:Array Oper} {Sx:Nat→Prop}:∀ {E:List DE},zIX all E→(∃ e∈E,¬Sx e.i)→∃ e∈E,¬Sx e.i∧∀ j,j<all.size→jq all e.i j=true→Sx j
 | [],_,⟨e,he,_⟩=>by cases he
 | x::E,h,hex=>by
  by_cases hE:∃ e∈E,¬Sx e.i
  ·obtain ⟨e,he,h1,h2⟩:=zkJ h.2 hE
   exact ⟨e,kaC _ he,h1,h2⟩
  ·obtain ⟨e,he,hS⟩:=hex
   rcases kaj.1 he with h1 | h1
   ·subst h1
    refine ⟨e,by simp,hS,fun j hj hp=>?_⟩
    obtain ⟨e',he',h2⟩:=h.1 j hj hp
    by_cases hs:Sx j
    ·exact hs
    ·exact absurd ⟨e',he',by rw [h2];exact hs⟩ hE
   ·exact absurd ⟨e,h1,hS⟩ hE
variable {o:Oper}
theorem zqv {all:Array Oper} (ho:all[i]?=some o):(∀ j,jq all i j=true→∃ e∈o.after.toList,Region.binds .any e=true∧(e.on=j∨jq all e.on j=true))∧∀ e∈o.after.toList,Region.binds .any e=true→jq all i e.on=true:=by
 have:=zt9 all.toList [] i o (by rw [kao];exact ho)
 simp only [List.length_nil,kaF] at this
 exact this
theorem Inv.congr {all:Array Oper} {fi:FI} {tm0:T} {tmps0:Array Value} {n0:Nat} {w0:World} {ν0:Val} {s0:S} {D:List DE} {ds:List Nat} {tm:T} {le:List V} {s:S} {stale:List Nat} {S S':Nat→Prop} {ν:Val} {w:World} {tmps:Array Value} (h:∀ j,S j↔S' j)
  (hI:Inv P all fi tm0 tmps0 n0 w0 ν0 s0 D ds tm le s stale S ν w tmps):Inv P all fi tm0 tmps0 n0 w0 ν0 s0 D ds tm le s stale S' ν w tmps:=by
 have:S=S':=funext fun j=>propext (h j)
 rw [←this];exact hI
theorem zJg {pc:PC} (hpc:PcOk P pc) (hr:RS P pc r) (hone:r.One) (hh:∀ h∈pc.hooks,jR P h) {all:Array Oper} {fi:FI} (ht:Tidy all) (hnd:∀ (i:Nat) (o:Oper),all[i]?=some o→zW o=false) (hed:zy8 all.toList=true) {tm0:T} {tmps0:Array Value} {n0:Nat} {w0:World} {ν0:Val} {s0:S} {b:Base} {cs:List Frame} {df:List Deferred} {kk:List Item} (hEnv:Env ν0 b cs tm0 df) :
  ∀ (fuel t:Nat) (listed:Array Bool) (rest:List (Bool × Nat)) (D stale ds:List Nat) (tm:T) (le:List V) (s:S) (E:List DE) (ν:Val) (w:World) (tmps:Array Value),listed.size=all.size→cnt all.size listed≤fuel→(rest=[]∨∃ i r',rest=(false,i)::r'∧kd all i=3) →
   yd (yB all.toList []) (all.toList.map qa) all.toList D stale rest=true→¬((jH pc fi all.toList rest ds).run r tm le s).isBad→E.map (·.i)=D→Inv P all fi tm0 tmps0 n0 w0 ν0 s0 E ds tm le s stale (fun j=>listed.getD j false=true) ν w tmps →
   ∃ tmF sF ν' w' tmps',(jH pc fi all.toList rest ds).run r tm le s=.nrm tmF sF∧Out P n0 w0 ν0 s0 ν' sF w'∧FrR ν' fi T.get tmF tmps'∧T.get tmF 240=T.get tm0 240 ∧
    Steps P (lone (b.fr tmps df (.inRegion all (Region.linearise.go .any all fuel t listed [])::kk)) cs w) (lone (b.fr tmps' df kk) cs w'):=by
 -- all is done
 have fin:∀ (listed:Array Bool) (rest:List (Bool × Nat)) (D stale ds:List Nat) (tm:T) (le:List V) (s:S) (E:List DE) (ν:Val) (w:World) (tmps:Array Value),(rest=[]∨∃ i r',rest=(false,i)::r'∧kd all i=3) →
   yd (yB all.toList []) (all.toList.map qa) all.toList D stale rest=true→E.map (·.i)=D→Inv P all fi tm0 tmps0 n0 w0 ν0 s0 E ds tm le s stale (fun j=>listed.getD j false=true) ν w tmps→(∀ i,i<all.size→listed.getD i false=true) →
   ∃ tmF sF ν' w' tmps',(jH pc fi all.toList rest ds).run r tm le s=.nrm tmF sF∧Out P n0 w0 ν0 s0 ν' sF w'∧FrR ν' fi T.get tmF tmps'∧T.get tmF 240=T.get tm0 240 ∧
    Steps P (lone (b.fr tmps df (.inRegion all []::kk)) cs w) (lone (b.fr tmps' df kk) cs w'):=by
  intro listed rest D stale ds tm le s E ν w tmps hnf hok hE hI hall
  rcases hnf with h | ⟨i,r',h,hk⟩
  ·subst h
   refine ⟨tm,s,ν,w,tmps,rfl,hI.out,⟨hI.szt,fun t g1 g2=>?_⟩,hI.cfg.a4,.one zfR⟩
   by_cases hex:∃ e∈E,yG all e.i=some t
   ·obtain ⟨e,he,hd⟩:=hex
    rw [hI.cfg.a2' e he t hd g1 g2]
    exact hI.c1 e he (hall _ (hI.lt e he)) t hd
   ·rw [hI.cfg.a2 t g1 g2 (fun e he hd=>hex ⟨e,he,hd⟩),hI.c2 t (fun j hj hd=>by
     obtain ⟨e,he,h2⟩:=hI.c4 j hj
     exact hex ⟨e,he,by rw [h2];exact hd⟩)]
    exact hI.fr0 t g1 g2
  ·subst h
   obtain ⟨h1,h2,_⟩:=za3 hok
   obtain ⟨e,he,h3⟩:=hI.c4 i (hall i h1)
   exact absurd (by rw [←hE];exact wB.2 ⟨e,he,h3⟩) h2
 intro fuel
 induction fuel with
 | zero =>
  intro t listed rest D stale ds tm le s E ν w tmps hsz hcnt hnf hok hnb hE hI
  refine fin listed rest D stale ds tm le s E ν w tmps hnf hok hE hI (fun i hi=>?_)
  cases hl:listed.getD i false with
  | true=>rfl
  | false =>
   have hm:i∈(List.range all.size).filter fun j=>!(listed.getD j false):=List.mem_filter.2 ⟨List.mem_range.2 hi,by rw [hl];rfl⟩
   have:=List.length_pos_of_mem hm
   unfold cnt at hcnt
   omega
 | succ fuel ih =>
  intro t listed rest D stale ds tm le s E ν w tmps hsz hcnt hnf hok hnb hE hI
  have hgo:Region.linearise.go .any all (fuel+1) t listed []=(match (Region.ready .any all listed)[t % (Region.ready .any all listed).length]? with
   | some i=>Region.linearise.go .any all fuel (t / (Region.ready .any all listed).length) (listed.setIfInBounds i true) [i]
   | none=>[].reverse):=rfl
  rw [hgo]
  cases hi:(Region.ready .any all listed)[t % (Region.ready .any all listed).length]? with
  | none =>
   have hnil:Region.ready .any all listed=[]:=by
    cases hrd:Region.ready .any all listed with
    | nil=>rfl
    | cons x xs =>
     rw [hrd] at hi
     have hlt:t % (x::xs).length<(x::xs).length:=Nat.mod_lt _ (by simp)
     rw [kac hlt] at hi
     cases hi
   refine fin listed rest D stale ds tm le s E ν w tmps hnf hok hE hI (fun i hi=>?_)
   cases hl:listed.getD i false with
   | true=>rfl
   | false =>
    exfalso
    -- something is ready
    have hexr:∃ j,j<all.size∧¬listed.getD j false=true∧∀ k,k<all.size→jq all j k=true→listed.getD k false=true:=by
     by_cases hex:∃ e∈E,¬listed.getD e.i false=true
     ·obtain ⟨e,he,h1,h2⟩:=zkJ (Sx:=fun j=>listed.getD j false=true) hI.topL hex
      exact ⟨e.i,hI.lt e he,h1,h2⟩
     ·have hallE:∀ e∈E,listed.getD e.i false=true:=fun e he=>by
       cases hx:listed.getD e.i false with
       | true=>rfl
       | false=>exact absurd ⟨e,he,by rw [hx];simp⟩ hex
      rcases hnf with h | ⟨e,r',h,hk⟩
      ·subst h
       have:=(zzT hok).2 i hi
       rw [←hE] at this
       obtain ⟨x,hx,h2⟩:=wB.1 this
       have:=hallE x hx
       rw [h2,hl] at this;cases this
      ·subst h
       obtain ⟨h1,h2,h3,_⟩:=za3 hok
       refine ⟨e,h1,fun hS=>?_,fun k hk2 hp=>?_⟩
       ·obtain ⟨x,hx,h4⟩:=hI.c4 e hS
        exact h2 (by rw [←hE];exact wB.2 ⟨x,hx,h4⟩)
       ·have:=h3 k hk2 hp
        rw [←hE] at this
        obtain ⟨x,hx,h4⟩:=wB.1 this
        rw [←h4];exact hallE x hx
    obtain ⟨j,hj,hjS,hjp⟩:=hexr
    have hmem:j∈Region.ready .any all listed:=by
     rw [mem_ready]
     obtain ⟨o,ho⟩:∃ o,all[j]?=some o:=⟨all[j],Array.getElem?_eq_getElem hj⟩
     refine ⟨?_,o,ho,fun e he hb=>?_⟩
     ·have hlt:j<listed.size:=by omega
      cases hx:listed[j]'hlt with
      | false=>simp [Array.getD_eq_getD_getElem?,hlt,hx]
      | true=>exact absurd (by simp [Array.getD_eq_getD_getElem?,hlt,hx]) hjS
     ·have he':e∈o.after.toList:=by simpa using he
      refine hjp e.on ?_ ((zqv ho).2 e he' hb)
      unfold zy8 at hed
      rw [kaD] at hed
      have h5:=hed o (kae (by rw [kao];exact ho))
      rw [kaD] at h5
      have h6:=h5 e he'
      rw [hb] at h6
      simpa [Nat.blt_eq] using h6
    rw [hnil] at hmem;cases hmem
  | some i =>
   simp only
   rw [linearise_go_acc,List.reverse_singleton,List.singleton_append]
   have hmem:=kae hi
   rw [mem_ready] at hmem
   obtain ⟨hi0,o,ho,hedg⟩:=hmem
   have hilt:i<all.size:=(kaB.1 ho).1
   have hisz:i<listed.size:=by omega
   have hS:¬listed.getD i false=true:=by
    intro h
    simp only [Array.getD_eq_getD_getElem?,Array.getElem?_eq_getElem hisz,Option.getD_some] at h hi0
    rw [hi0] at h;cases h
   have hrd:∀ j,jq all i j=true→listed.getD j false=true:=by
    intro j hp
    obtain ⟨e,he,hb,h⟩:=(zqv ho).1 j hp
    have hon:=hedg e (by simpa using he) hb
    rcases h with h | h
    ·rw [←h];exact hon
    ·exact hI.c3 e.on hon j h
   have hcnt':cnt all.size (listed.setIfInBounds i true)≤fuel:=by
    have:=(zmI (p:=fun j=>!(listed.getD j false)) (p':=fun j=>!((listed.setIfInBounds i true).getD j false)) (fun j hj=>by
     cases hx:listed.getD j false with
     | false=>rfl
     | true =>
      have:=(zbB hisz j).2 (.inl hx)
      simp only [this] at hj;cases hj) (List.range all.size)).2 i (List.mem_range.2 hilt) (by
       cases hx:listed.getD i false with
       | false=>rfl
       | true=>exact absurd hx hS) (by
       have:=(zbB hisz i).2 (.inr rfl)
       simp only [this];rfl)
    unfold cnt at hcnt ⊢
    omega
   have hsz':(listed.setIfInBounds i true).size=all.size:=by simpa using hsz
   have hstale:stale=[]:=by
    rcases hnf with h | ⟨e,r',h,hk⟩
    ·subst h;exact (zzT hok).1
    ·subst h
     have:=(za3 hok).2.2.2.2
     rw [if_pos hk] at this
     exact this.1
   subst hstale
   by_cases hex:∃ e∈E,e.i=i
   ·obtain ⟨e,he,h1⟩:=hex
    subst h1
    obtain ⟨ν',w',tmps',g1,g2⟩:=zI5 ht hnd hI he hS hrd
    obtain ⟨tmF,sF,ν2,w2,tmps2,k1,k2,k3,k4,k5⟩:=ih (t / (Region.ready .any all listed).length) (listed.setIfInBounds e.i true) rest D [] ds tm le s E ν' w' tmps' hsz' hcnt' hnf hok hnb hE (g1.congr fun j=>(zbB hisz j).symm)
    exact ⟨tmF,sF,ν2,w2,tmps2,k1,k2,k3,k4,.head (g2 b cs df kk _) k5⟩
   ·have hiD:i ∉ D:=fun h=>by rw [←hE] at h;exact hex (wB.1 h)
    rcases hnf with h | ⟨e,r',h,hk⟩
    ·subst h;exact absurd ((zzT hok).2 i hilt) hiD
    ·subst h
     have hie:i=e:=by
      by_cases h:i=e
      ·exact h
      ·exfalso
       obtain ⟨q1,q2,q3,q4,q5⟩:=za3 hok
       rw [if_pos hk] at q5
       have hp:=ziu q5.2 (e:=e) (by simp) hk i hilt (by simp [h,hiD])
       obtain ⟨x,hx,h4⟩:=hI.c4 e (hrd e hp)
       exact q2 (by rw [←hE];exact wB.2 ⟨x,hx,h4⟩)
     subst hie
     obtain ⟨stale1,ds1,tm1,le1,s1,v,o',p1,p2,p3,p4⟩:=zJ7 hpc hr hone hh ht hnd hok hk hnb
     have hnb1:¬((jH pc fi all.toList r' ds1).run r tm1 le1 s1).isBad:=by rw [p3];exact hnb
     obtain ⟨rest2,D2,stale2,ds2,tm2,le2,s2,a1,a2,a3,a4⟩:=zbS hpc ht hnd r' (i::D) stale1 ds1 tm1 le1 s1 p2 hnb1
     obtain ⟨ν',w',tmps',g1,g2⟩:=p4 tm0 tmps0 n0 w0 ν0 s0 E _ ν w tmps b cs df kk (Region.linearise.go .any all fuel (t / (Region.ready .any all listed).length) (listed.setIfInBounds i true) []) hE hI hEnv hS hrd
     obtain ⟨E2,b1,b2⟩:=a4 tm0 tmps0 n0 w0 ν0 s0 _ _ ν' w' tmps' (by simp [hE]) g1
     obtain ⟨tmF,sF,ν2,w2,tmps2,k1,k2,k3,k4,k5⟩:=ih (t / (Region.ready .any all listed).length) (listed.setIfInBounds i true) rest2 D2 stale2 ds2 tm2 le2 s2 E2 ν' w' tmps' hsz' hcnt' a1 a2 (by rw [a3];exact hnb1) b1 (b2.congr fun j=>(zbB hisz j).symm)
     exact ⟨tmF,sF,ν2,w2,tmps2,by rw [←p3,←a3];exact k1,k2,k3,k4,g2.trans k5⟩
def zJL (g:ME→List ME→V × S):List ME→List ME→F
 | [],_=>.bad 0
 | [e],pre=>.ret (g e pre).1 (g e pre).2
 | e::e'::t,pre=>.alt (.ret (g e (pre++e'::t)).1 (g e (pre++e'::t)).2) (zJL g (e'::t) (pre++[e]))
theorem zC4 (k:V→S→A) (g:ME→List ME→V × S):∀ (l pre:List ME),zek (fun e r=>k (g e r).1 (g e r).2) l pre=zD (zJL g l pre) k
 | [],_=>rfl
 | [e],pre=>by
  have:zek (fun e r=>k (g e r).1 (g e r).2) [e] pre=zah pre [] fun r=>k (g e r).1 (g e r).2:=rfl
  rw [this,yf,List.append_nil];rfl
 | e::e'::t,pre=>by
  have:zek (fun e r=>k (g e r).1 (g e r).2) (e::e'::t) pre=zah pre (e'::t) fun r=>A.alt (k (g e r).1 (g e r).2) (zah pre [e] fun pre=>zek (fun e r=>k (g e r).1 (g e r).2) (e'::t) pre):=rfl
  rw [this,yf,yf,zC4 k g (e'::t) (pre++[e])];rfl
theorem zjh {g:ME→List ME→V × S} {p:V→S→Prop}:∀ {l1 l2 pre:List ME} {e:ME},p (g e (pre++l1++l2)).1 (g e (pre++l1++l2)).2→(zJL g (l1++e::l2) pre).Has p
 | [],[],pre,e,h=>by
  have h:p (g e pre).1 (g e pre).2:=by simpa using h
  exact h
 | [],e'::l2,pre,e,h=>by
  left
  have h:p (g e (pre++e'::l2)).1 (g e (pre++e'::l2)).2:=by simpa using h
  exact h
 | [x],l2,pre,e,h=>by
  right
  exact zjh (l1:=[]) (pre:=pre++[x]) (by simpa using h)
 | x::y::l1,l2,pre,e,h=>by
  right
  exact zjh (l1:=y::l1) (pre:=pre++[x]) (by simpa using h)
theorem zFW {x:Operand} (h:zbR o=some x):o.op=.next x false∧o.guard=none∧zW o=false:=by
 unfold zbR at h
 split at h
 ·rename_i y h1 h2 h3
  simp only [Option.some.injEq] at h
  subst h
  exact ⟨h1,h2,h3⟩
 ·cases h
theorem zcx {ck:Nat}:∀ {l:List ME},j8 ck l=true→∀ e∈l,∀ e'∈l,e.born=e'.born→e=e'
 | [],_,e,he,_,_,_=>by cases he
 | x::l,h,e,he,e',he',hb=>by
  obtain ⟨h1,h2,h3⟩:=zau h
  rcases kaj.1 he with h4 | h4
  ·rcases kaj.1 he' with h5 | h5
   ·rw [h4,h5]
   ·subst h4;exact absurd hb.symm (h2 _ h5)
  ·rcases kaj.1 he' with h5 | h5
   ·subst h5;exact absurd hb (h2 _ h4)
   ·exact zcx h3 e h4 e' h5 hb
theorem zgb {ck:Nat}:∀ {l m:List ME},m.Sublist l→j8 ck l=true→(m.map (·.born)).Nodup
 | _,_,.slnil,_=>by simp
 | _::l,m,.cons _ h,hb=>zgb h (zau hb).2.2
 | x::l,_::m,.cons_cons _ h,hb=>by
  obtain ⟨_,h2,h3⟩:=zau hb
  simp only [kaN,List.nodup_cons]
  refine ⟨fun hm=>?_,zgb h h3⟩
  obtain ⟨y,hy,h4⟩:=kav.1 hm
  exact h2 y (h.subset hy) h4
theorem MRs.mem_back {ν:Val}:∀ {es:List ME} {es':List MapEntry},MRs ν es es'→∀ x∈es',∃ e∈es,MR ν e x
 | [],_,h,x,hx=>by simp only [MRs] at h;subst h;cases hx
 | e::es,_,⟨y,r,e1,m,h⟩,x,hx=>by
  subst e1
  rcases kaj.1 hx with rfl | hx
  ·exact ⟨e,List.mem_cons_self,m⟩
  ·obtain ⟨e',h1,h2⟩:=h.mem_back x hx
   exact ⟨e',kaC _ h1,h2⟩
theorem MRs.mem_fwd {ν:Val}:∀ {es:List ME} {es':List MapEntry},MRs ν es es'→∀ e∈es,∃ x∈es',MR ν e x
 | [],_,_,e,he=>by cases he
 | e::es,_,⟨y,r,e1,m,h⟩,e0,he=>by
  subst e1
  rcases kaj.1 he with rfl | he
  ·exact ⟨y,List.mem_cons_self,m⟩
  ·obtain ⟨x,h1,h2⟩:=h.mem_fwd e0 he
   exact ⟨x,kaC _ h1,h2⟩
theorem zIg {v:V} {s:S} {k:V→S→A} (hnb:¬(zcW v s k).isBad):∃ X:F,zD X k=zcW v s k∧∀ n0 w0 ν w (y:Value) (ty:TypeId),St P n0 w0 ν s w→VR ν v y →
  X.Has fun u s'=>∃ z w',Out P n0 w0 ν s ν s' w'∧VR ν u z∧(Instr.next y false ty).run P w=.ok z w':=by
 cases v with
 | ptr a vv off =>
  unfold zcW at hnb ⊢
  simp only at hnb ⊢
  cases hoff:Nat.beq off 0 with
  | false=>rw [hoff] at hnb;exact absurd trivial hnb
  | true =>
   have hoff:=kaa hoff
   subst hoff
   simp only [yy] at hnb ⊢
   cases hB:Tr.get B.none a s.h with
   | mit m es ck rest cur =>
    rw [hB] at hnb
    simp only at hnb ⊢
    cases hM:Tr.get B.none m s.h with
    | map es' ck' =>
     rw [hM] at hnb
     simp only at hnb ⊢
     cases hc:zq (Nat.beq ck ck') (zcw es es') with
     | false=>rw [hc] at hnb;exact absurd trivial hnb
     | true =>
      obtain ⟨c1,c2⟩:=zh hc
      have c1:=kaa c1
      have c2:=zhW c2
      subst c1 c2
      simp only [hc] at hnb ⊢
      have left_:∀ {ν:Val} {es':Array MapEntry} {seen:Array Nat},MRs ν es es'.toList→(∀ e∈es,seen.contains e.born=!(rest.any fun x=>x.born == e.born))→∀ x,x∈(leftOf es' seen).toList↔x∈es'.toList∧∃ e∈rest,e.born=x.born:=by
       intro ν es' seen hm hs x
       unfold leftOf
       rw [Array.toList_filter,List.mem_filter]
       constructor
       ·rintro ⟨h1,h2⟩
        refine ⟨h1,?_⟩
        obtain ⟨e,he,hr⟩:=hm.mem_back x h1
        have:=hs e he
        rw [hr.2.2] at this
        rw [this] at h2
        simp only [Bool.not_not] at h2
        obtain ⟨e',h3,h4⟩:=List.any_eq_true.1 h2
        exact ⟨e',h3,by simpa using h4⟩
       ·rintro ⟨h1,e',h3,h4⟩
        refine ⟨h1,?_⟩
        obtain ⟨e,he,hr⟩:=hm.mem_back x h1
        have:=hs e he
        rw [hr.2.2] at this
        rw [this]
        simp only [Bool.not_not]
        exact List.any_eq_true.2 ⟨e',h3,by simpa using h4⟩
      have hborn:∀ {ν:Val} {es':Array MapEntry},j8 ck es=true→MRs ν es es'.toList→∀ x∈es'.toList,x.born<ck:=by
       intro ν es' hb hm x hx
       obtain ⟨e,he,hr⟩:=hm.mem_back x hx
       rw [←hr.2.2];exact zGG hb e he
      cases rest with
      | nil =>
       simp only [qp] at hnb ⊢
       refine ⟨.ret _ _,rfl,fun n0 w0 ν w y ty hst hy=>?_⟩
       obtain ⟨b,mb,seen,last,es',g1,g2,g3,g4,⟨i1,i2,i3,i4,i5⟩,g5,g6,g7⟩:=zzC hst hB hM hy
       have hlt:a.toNat<s.nx.toNat:=by
        rcases kaq a.toNat s.nx.toNat with h | h
        ·exact h
        ·have:=(hst.fresh a h).1 0;rw [this] at g2;cases g2
       refine ⟨.tuple #[.bool false],w,⟨ν.le_refl,zrg hst a hlt,kab _,fun a' ha' _=>⟨ha',?_⟩⟩,⟨[.bool false],⟨_,_,rfl,rfl,rfl⟩,rfl⟩,?_⟩
       ·simp only [get_set]
        split
        ·exact .inr rfl
        ·exact .inl rfl
       ·rw [g3]
        rcases run_next_at (P:=P) w ty b mb ck last seen es' ck g4 g6 (hborn i1 g7) (by omega) with ⟨_,h⟩ | ⟨e,he,_⟩
        ·exact h
        ·have:=(left_ g7 i4 e).1 he
         obtain ⟨_,e',h3,_⟩:=this
         cases h3
      | cons r0 rest =>
       simp only [qp] at hnb ⊢
       have hp:=zC4 k (fun e r=>(.ls 1 [.bool true,e.key,e.val],⟨Tr.set B.none (.mit m es ck r (some e)) a s.h,s.nx⟩)) (r0::rest) []
       refine ⟨_,hp.symm,fun n0 w0 ν w y ty hst hy=>?_⟩
       obtain ⟨b,mb,seen,last,es',g1,g2,g3,g4,⟨i1,i2,i3,i4,i5⟩,g5,g6,g7⟩:=zzC hst hB hM hy
       rcases run_next_at (P:=P) w ty b mb ck last seen es' ck g4 g6 (hborn i1 g7) (by omega) with ⟨h0,_⟩ | ⟨x,hx,w1,hw1,hrun⟩
       ·-- something is left
        exfalso
        obtain ⟨x,hx,hr⟩:=g7.mem_fwd r0 (i3.subset List.mem_cons_self)
        have:=(left_ g7 i4 x).2 ⟨hx,r0,List.mem_cons_self,hr.2.2⟩
        rw [←Array.length_toList,kaw] at h0
        rw [h0] at this;cases this
       ·obtain ⟨hxe,e,he,hb⟩:=(left_ g7 i4 x).1 hx
        obtain ⟨e1,he1,hr1⟩:=g7.mem_back x hxe
        have hee:e1=e:=zcx i1 e1 he1 e (i3.subset he) (by rw [hr1.2.2,hb])
        subst hee
        obtain ⟨l1,l2,hl⟩:=List.append_of_mem he
        rw [hl]
        refine zjh (pre:=[]) ?_
        simp only [List.nil_append]
        have hst1:St P n0 w0 ν s w1:=by
         rcases hw1 with h | h
         ·rw [h];exact hst
         ·rw [h];exact hst.heap rfl rfl rfl rfl
        have hv:∀ v p,ν.blk a v=some p→v=0:=by
         intro v p hvp
         have:=hst.rows a
         rw [hB] at this
         exact (this v p.1 p.2 hvp).1
        refine ⟨.tuple #[.bool true,x.key,x.val],_,Out.write (ziv hst1 g2 (by rw [hB];trivial) (by rw [hB];exact fun h=>h) hv (B':=.mit m es ck (l1++l2) (some e1)) (o:=.mapIter (some mb) ck (seen.push x.born) ck) (fun h=>h) (fun w' hw'=>?_)) rfl (wH g2 _),⟨[.bool true,x.key,x.val],⟨_,_,rfl,rfl,_,_,rfl,hr1.1,_,_,rfl,hr1.2.1,rfl⟩,rfl⟩,by rw [g3];exact hrun⟩
        intro v b' δ' hb'
        have hr:=hst.rows a
        rw [hB] at hr
        obtain ⟨q1,q2,_⟩:=hr v b' δ' hb'
        subst q1 q2
        rw [g2] at hb'
        simp only [Option.some.injEq,Prod.mk.injEq,and_true] at hb'
        subst hb'
        have hsub:(l1++l2).Sublist es:=((List.Sublist.refl l1).append (List.sublist_cons_self e1 l2)).trans (hl▸i3)
        refine ⟨rfl,rfl,mb,_,ck,g5,hw',i1,rfl,hsub,fun e' he'=>?_,fun e' he'=>?_⟩
        ·have h9:=i4 e' he'
         rw [hl] at h9
         rw [Array.contains_push,h9]
         have hnd:=zgb (hl▸i3:(l1++e1::l2).Sublist es) i1
         by_cases hee:e'=e1
         ·subst hee
          have h1:(x.born == e'.born)=true:=by rw [hr1.2.2];simp
          have h2:((l1++l2).any fun z=>z.born == e'.born)=false:=by
           rw [List.any_eq_false]
           intro z hz hzb
           have hzb:z.born=e'.born:=by simpa using hzb
           rw [kaE,kaN,kaP] at hnd
           obtain ⟨_,n2,n3⟩:=hnd
           rw [List.nodup_cons] at n2
           rcases kak.1 hz with hz | hz
           ·exact n3 _ (kav.2 ⟨z,hz,rfl⟩) _ List.mem_cons_self hzb
           ·exact n2.1 (kav.2 ⟨z,hz,hzb⟩)
          rw [h2]
          simp [hr1.2.2]
         ·have h1:(e'.born == x.born)=false:=by
           rw [beq_eq_false_iff_ne,←hr1.2.2]
           exact fun h=>hee (zcx i1 e' he' e1 he1 h)
          have h2:(e1.born == e'.born)=false:=by
           rw [beq_eq_false_iff_ne]
           exact fun h=>hee (zcx i1 e' he' e1 he1 h.symm)
          have h3:¬x.born=e'.born:=by rw [←hr1.2.2];exact fun h=>hee (zcx i1 e' he' e1 he1 h.symm)
          simp [List.any_append,h2,h1]
        ·simp only [Option.some.injEq] at he'
         subst he'
         exact ⟨he1,by simp [hr1.2.2],rfl⟩
    | _=>rw [hM] at hnb;exact absurd trivial hnb
   | _=>rw [hB] at hnb;exact absurd trivial hnb
 | _=>exact absurd trivial hnb
theorem zJj {pc:PC} (hpc:PcOk P pc) (hr:RS P pc r) (hh:∀ h∈pc.hooks,jR P h) {fi:FI} {all:Array Oper} {d:Bool} {tm:T} {s:S} (hnb:¬((jp pc fi d all.toList).run r tm [] s).isBad) (id:Nat):zdH P fi (.region id all d) tm s ((jp pc fi d all.toList).run r tm [] s):=by
 cases d with
 | false =>
  have hr0:List.range' 0 all.toList.length=List.range all.size:=by rw [List.range_eq_range'];simp
  have plain:¬((ops pc fi all.toList all.toList []).run r tm [] s).isBad→zdH P fi (.region id all false) tm s ((ops pc fi all.toList all.toList []).run r tm [] s):=by
   intro hnb n0 w0 ν w tmps df b cs kk hng hst hG hf he
   have h2:=zpa hpc hr hh fi all all.toList 0 [] tm [] s (by simp) hnb n0 w0 ν w tmps df b cs kk hng hst hG (FrX.of hf) he
   rw [hr0] at h2
   exact qW.steps (.one zus) h2
  cases hl:all.toList with
  | nil =>
   have e:(jp pc fi false all.toList).run r tm [] s=(ops pc fi all.toList all.toList []).run r tm [] s:=by rw [hl];rfl
   rw [←hl,e]
   rw [e] at hnb
   exact plain hnb
  | cons o os =>
   cases hm:zbR o with
   | none =>
    have e:(jp pc fi false all.toList).run r tm [] s=(ops pc fi all.toList all.toList []).run r tm [] s:=by rw [hl];simp only [jp,hm]
    rw [←hl,e]
    rw [e] at hnb
    exact plain hnb
   | some x =>
    obtain ⟨ho,hg,hd⟩:=zFW hm
    have e:(jp pc fi false all.toList).run r tm [] s=(opd fi [] x).run tm [] fun v=>zcW v s fun w s=>(dsC fi o).run w tm [] fun tm le=>(ops pc fi all.toList os (push o [])).run r tm le s:=by
     rw [hl];simp only [jp,hm];rfl
    rw [←hl,e]
    rw [e] at hnb
    obtain ⟨v,h1,h2⟩:=qc fi [] x tm [] _ hnb
    rw [←h1] at hnb ⊢
    obtain ⟨X,h3,h4⟩:=zIg (P:=P) hnb
    rw [←h3] at hnb ⊢
    intro n0 w0 ν w tmps df b cs kk hng hst hG hf he
    have hfx:=FrX.of hf
    have hv:=h2 ν tmps (hG.le hng) (hfx.odr x)
    have hao:all[0]?=some o:=by rw [←kao,hl];rfl
    have hsz:List.range all.size=0::List.range' 1 os.length:=by rw [←hr0,hl];rfl
    have hw:Region.wanted o (yielded all tmps)=true:=by simp [Region.wanted,hg]
    refine qW.steps (.one zus) ?_
    rw [hsz]
    refine Has.arr hnb (h4 n0 w0 ν w _ o.type hst hv) (fun u s1 hnb1 ⟨z,w',g1,g2,g3⟩=>?_)
    obtain ⟨tm1,le1,q1,q2,q3⟩:=zjw hnb1
    rw [←q1] at hnb1 ⊢
    have h7:=zpa hpc hr hh fi all os 1 (push o []) tm1 le1 s1 (by rw [hl];rfl) hnb1
    have hstep:step P (lone (b.fr tmps df (.inRegion all (0::List.range' 1 os.length)::kk)) cs w)=.next (lone (b.fr (j0 tmps o.dst z) df (.inRegion all (List.range' 1 os.length)::kk)) cs w') :=
     wp hao hw (.inr hd) (.inl (by simp [execOp,ho,g3]))
    exact (h7 n0 w0 ν w' (j0 tmps o.dst z) df b cs kk hng g1.st hG (q3 ν tmps [] z hfx g2) (he.same q2)).trans g1 (.one hstep)
 | true =>
  unfold jp at hnb ⊢
  simp only at hnb ⊢
  cases hc:(pc.mixed && zjb all.toList (yB all.toList []) (all.toList.map qa) (qr all.toList)) with
  | false=>rw [hc] at hnb;exact absurd trivial hnb
  | true =>
   rw [hc] at hnb
   simp only at hnb ⊢
   have e:(match jH pc fi all.toList (qr all.toList) [] with | ⟨f⟩=>(⟨fun r tm le s=>f r.det tm le s⟩:LoC)).run r tm [] s=(jH pc fi all.toList (qr all.toList) []).run r.det tm [] s:=rfl
   rw [e] at hnb ⊢
   have hr:=hr.det
   have hone:=zHz r
   rw [kas] at hc
   obtain ⟨hmx,hc⟩:=hc
   unfold zjb at hc
   simp only [kas] at hc
   obtain ⟨⟨⟨c1,c2⟩,c3⟩,c4⟩:=hc
   have ht:=zMS c1
   have hnd:∀ (i:Nat) (o:Oper),all[i]?=some o→zW o=false:=by
    intro i o ho
    cases hd:zW o with
    | false=>rfl
    | true =>
     have:all.toList.any zW=true:=List.any_eq_true.2 ⟨o,kae (by rw [kao];exact ho),hd⟩
     rw [this] at c4;cases c4
   have hndl:∀ (i:Nat) (o:Oper),all.toList[i]?=some o→zW o=false:=fun i o ho=>hnd i o (by rw [kao] at ho;exact ho)
   obtain ⟨tmF,sF,hres⟩:=zd6 hpc hr hone hh hndl _ _ _ _ _ hnb
   obtain ⟨rest2,D2,stale2,ds2,tm2,le2,s2,a1,a2,a3,a4⟩:=zbS hpc ht hnd (qr all.toList) [] [] [] tm [] s c2 hnb
   rw [hres]
   intro n0 w0 ν w tmps df b cs kk hng hst hG hf he
   have hst1:St P n0 w0 ν s { w with drawn:=w.drawn+1 }:=hst.heap rfl rfl rfl rfl
   have hI:Inv P all fi tm tmps n0 w0 ν s [] [] tm [] s [] (fun j=>(Array.replicate all.size false).getD j false=true) ν { w with drawn:=w.drawn+1 } tmps:=by
    have hno:∀ j,¬(Array.replicate all.size false).getD j false=true:=by
     intro j
     simp only [Array.getD_eq_getD_getElem?,Array.getElem?_replicate]
     split<;>simp
    exact ⟨Out.refl hst1,hG,hng,⟨fun t k hk=>by simp [idx] at hk,fun t _ _ _=>rfl,fun e he=>(by cases he),fun e he=>(by cases he),rfl⟩,by simp,fun e he=>(by cases he),trivial,⟨fun e he=>(by cases he),fun e he=>(by cases he)⟩,hf.1,fun e he=>(by cases he),fun e he=>(by cases he),fun t _=>rfl,hf.2,fun i hi=>absurd hi (hno i),fun i hi=>absurd hi (hno i),fun e he=>(by cases he),fun e he=>(by cases he)⟩
   obtain ⟨E2,b1,b2⟩:=a4 tm tmps n0 w0 ν s [] _ ν _ tmps rfl hI
   have hcnt:cnt all.size (Array.replicate all.size false)≤all.size:=by
    unfold cnt
    have:=List.length_filter_le (fun j=>!((Array.replicate all.size false).getD j false)) (List.range all.size)
    simpa using this
   obtain ⟨tmF2,sF2,ν',w',tmps',k1,k2,k3,k4,k5⟩:=zJg hpc hr hone hh ht hnd c3 (b:=b) (cs:=cs) (df:=df) (kk:=kk) he all.size (w.tape w.drawn (.order b.fn id)) (Array.replicate all.size false) rest2 D2 stale2 ds2 tm2 le2 s2 E2 ν _ tmps (by simp) hcnt a1 a2 (by rw [a3];exact hnb) b1 b2
   rw [a3,hres] at k1
   simp only [A.nrm.injEq] at k1
   obtain ⟨e1,e2⟩:=k1
   subst e1 e2
   refine ⟨ν',w',tmps',df,k2,k3,(he.mono k2.le).same k4,.head zr4 ?_⟩
   have hsch:Region.schedule (P.follows .mixedOrders) all (w.tape w.drawn (.order b.fn id))=Region.linearise.go .any all all.size (w.tape w.drawn (.order b.fn id)) (Array.replicate all.size false) []:=by
    simp only [Region.schedule,hpc.mixed hmx,Bool.true_or,if_true,Region.linearise]
   rw [hsch]
   exact k5
theorem Steps.tail {m m1 m':Machine} (h:step P m=.next m1) (hne:m≠m') (hs:Steps P m m'):Steps P m1 m':=by
 obtain ⟨n,hn⟩:=hs
 cases n with
 | zero=>simp only [runN,Stepped.next.injEq] at hn;exact absurd hn hne
 | succ n=>simp only [runN,h] at hn;exact ⟨n,hn⟩
theorem zyX {b:Base} {cs cs':List Frame} {w w':World} {t t':Array Value} {df df':List Deferred} {k k':List Item} (h:k≠k'):lone (b.fr t df k) cs w≠lone (b.fr t' df' k') cs' w':=by
 intro e
 simp only [lone,Machine.mk.injEq,Array.mk.injEq,List.cons.injEq,Goroutine.mk.injEq,Base.fr,Frame.mk.injEq] at e
 exact h e.2.1.1.1.2.2.1
theorem qW.loop {n0:Nat} {w0 w:World} {fi:FI} {ν:Val} {s:S} {b:Base} {cs:List Frame} {kk:List Item} {res:A} {c:Code} {tmps:Array Value} {df:List Deferred}
  (h:qW P n0 w0 fi ν s b cs (lone (b.fr tmps df (.code (.loop c)::kk)) cs w) kk res):qW P n0 w0 fi ν s b cs (lone (b.fr tmps df (.inLoop c::kk)) cs w) kk res:=by
 induction res with
 | nrm tm' s' =>
  obtain ⟨ν',w',tmps',df',h1,h2,h3,h4⟩:=h
  refine ⟨ν',w',tmps',df',h1,h2,h3,.head zi6 (Steps.tail zm2 (zyX ?_) h4)⟩
  intro e
  have:=congrArg List.length e
  simp at this
 | ext i tm' s' =>
  obtain ⟨ν',w',tmps',df',todo,h1,h2,h3,h4,h5⟩:=h
  exact ⟨ν',w',tmps',df',todo,h1,h2,h3,h4,.head zi6 (Steps.tail zm2 (zyX (by simp)) h5)⟩
 | ret tm' s' =>
  obtain ⟨ν',w',tmps',df',todo,h1,h2,h3,h4⟩:=h
  exact ⟨ν',w',tmps',df',todo,h1,h2,h3,.head zi6 (Steps.tail zm2 (zyX (by simp)) h4)⟩
 | alt x y hx hy=>exact h.imp hx hy
 | _=>exact h
def Wk (s s2:S):Prop:=(∀ k,Tr.get B.none k s2.h=.none∨Tr.get B.none k s2.h=Tr.get B.none k s.h)∧s.nx.toNat≤s2.nx.toNat
variable {s2:S}
theorem St.wk {n0:Nat} {w0 w:World} {ν:Val} {s:S} (hst:St P n0 w0 ν s w) (h:Wk s s2):St P n0 w0 ν s2 w:=by
 obtain ⟨h2,h1⟩:=h
 have hl:∀ k,(Tr.get B.none k s2.h).live→Tr.get B.none k s2.h=Tr.get B.none k s.h:=by
  intro k hk
  rcases h2 k with e | e
  ·rw [e] at hk;exact hk.elim
  ·exact e
 refine ⟨hst.below,hst.n0le,fun a=>?_,fun a ha=>?_,fun a v b δ a' v' δ' g1 g2 l1 l2=>?_,fun a v b δ g1 l1=>?_⟩
 ·rcases h2 a with e | e
  ·rw [e];trivial
  ·rw [e];exact hst.rows a
 ·obtain ⟨q1,q2⟩:=hst.fresh a (by omega)
  refine ⟨q1,?_⟩
  rcases h2 a with e | e
  ·exact e
  ·rw [e];exact q2
 ·exact hst.sep _ _ _ _ _ _ _ g1 g2 (by rw [←hl _ l1];exact l1) (by rw [←hl _ l2];exact l2)
 ·have:=hst.own a v b δ g1 (by rw [←hl _ l1];exact l1)
  rw [hl _ l1];exact this
theorem Out.wk {n0:Nat} {w0 w':World} {ν ν':Val} {s s1:S} (o:Out P n0 w0 ν s ν' s1 w') (h:Wk s1 s2):Out P n0 w0 ν s ν' s2 w':=by
 refine ⟨o.le,o.st.wk h,kar o.nx h.2,fun a ha hl=>?_⟩
 obtain ⟨k1,k2⟩:=o.keep a ha hl
 refine ⟨k1,?_⟩
 rcases h.1 a with h3 | h3
 ·exact .inr h3
 ·rw [h3];exact k2
theorem zLE (a b:B):ztx a b=.none∨(ztx a b=a∧a=b):=by
 cases a with
 | none=>left;rfl
 | row l n el gr mn f1 f2 =>
  have e:ztx (.row l n el gr mn f1 f2) b=Bool.rec (motive:=fun _=>B) .none (.row l n el gr mn f1 f2) (ziO (.row l n el gr mn f1 f2) b):=rfl
  rw [e]
  cases h:ziO (.row l n el gr mn f1 f2) b with
  | false=>left;rfl
  | true =>
   rcases zzl h with h | h
   ·cases h
   ·right;exact ⟨rfl,h⟩
 | map es ck =>
  have e:ztx (.map es ck) b=Bool.rec (motive:=fun _=>B) .none (.map es ck) (ziO (.map es ck) b):=rfl
  rw [e]
  cases h:ziO (.map es ck) b with
  | false=>left;rfl
  | true =>
   rcases zzl h with h | h
   ·cases h
   ·right;exact ⟨rfl,h⟩
 | _=>left;rfl
theorem zfy:∀ (a b:Tr B) (k:K),Tr.get B.none k (zrV a b)=.none∨(Tr.get B.none k (zrV a b)=Tr.get B.none k a∧Tr.get B.none k a=Tr.get B.none k b)
 | .lf,_,k=>.inl (zer _ k)
 | .nd _ _ _,.lf,k=>.inl (zer _ k)
 | .nd l v r,.nd l' v' r',k=>by
  have e:zrV (.nd l v r) (.nd l' v' r')=.nd (zrV l l') (ztx v v') (zrV r r'):=rfl
  rw [e]
  cases k with
  | h=>exact zLE v v'
  | o p=>exact zfy l l' p
  | i p=>exact zfy r r' p
theorem zne:∀ k:K,zjd k=k.toNat
 | .h=>rfl
 | .o p=>by
  have e:zjd (.o p)=Nat.mul 2 (zjd p):=rfl
  rw [e,zne p];rfl
 | .i p=>by
  have e:zjd (.i p)=Nat.succ (Nat.mul 2 (zjd p)):=rfl
  rw [e,zne p];rfl
theorem zDW (a b:S):Wk a (zsb a b)∧Wk b (zsb a b):=by
 obtain ⟨h,nx⟩:=a
 obtain ⟨h',nx'⟩:=b
 have e:zsb ⟨h,nx⟩ ⟨h',nx'⟩=⟨zrV h h',Bool.rec (motive:=fun _=>K) nx nx' (Nat.ble (zjd nx) (zjd nx'))⟩:=rfl
 rw [e]
 have hn:nx.toNat≤(Bool.rec (motive:=fun _=>K) nx nx' (Nat.ble (zjd nx) (zjd nx'))).toNat∧nx'.toNat≤(Bool.rec (motive:=fun _=>K) nx nx' (Nat.ble (zjd nx) (zjd nx'))).toNat:=by
  rw [zne,zne]
  cases hb:Nat.ble nx.toNat nx'.toNat with
  | true=>exact ⟨kaA.mp hb,kab _⟩
  | false =>
   have:=zsm hb
   exact ⟨kab _,by show nx'.toNat≤nx.toNat;omega⟩
 refine ⟨⟨fun k=>?_,hn.1⟩,⟨fun k=>?_,hn.2⟩⟩
 ·rcases zfy h h' k with g | ⟨g,_⟩
  ·exact .inl g
  ·exact .inr g
 ·rcases zfy h h' k with g | ⟨g,g2⟩
  ·exact .inl g
  ·exact .inr (g.trans g2)
theorem zCJ (a b:V):(zcv a b=a∧a=b)∨zcv a b=.bad:=by
 unfold zcv
 cases h:yS a b with
 | true=>exact .inl ⟨rfl,zfx _ _ h⟩
 | false=>exact .inr rfl
variable {x:Value}
theorem zKp {ν:Val} {a b:V}:(VR ν a x→VR ν (zcv a b) x)∧(VR ν b x→VR ν (zcv a b) x):=by
 rcases zCJ a b with ⟨h1,h2⟩ | h
 ·rw [h1];subst h2;exact ⟨fun h=>h,fun h=>h⟩
 ·rw [h];exact ⟨fun _=>trivial,fun _=>trivial⟩
theorem N.get_join (f:V→V→V) (a b:N V):∀ i:Nat,N.get (zLK f a b) i=match N.get a i,N.get b i with | some x,some y=>some (f x y) | _,_=>none:=by
 intro i
 obtain ⟨a0,a1,a2,a3,a4,a5,a6,a7,a8,a9,a10,a11,a12,a13,a14,a15⟩:=a
 obtain ⟨b0,b1,b2,b3,b4,b5,b6,b7,b8,b9,b10,b11,b12,b13,b14,b15⟩:=b
 rcases i with _ | _ | _ | _ | _ | _ | _ | _ | _ | _ | _ | _ | _ | _ | _ | _ | i<;>first | rfl | simp [N.get,zLK]
theorem N.get_joinN (f:N V→N V→N V) (a b:T):∀ i:Nat,N.get (zFM f a b) i=match N.get a i,N.get b i with | some x,some y=>some (f x y) | _,_=>none:=by
 intro i
 obtain ⟨a0,a1,a2,a3,a4,a5,a6,a7,a8,a9,a10,a11,a12,a13,a14,a15⟩:=a
 obtain ⟨b0,b1,b2,b3,b4,b5,b6,b7,b8,b9,b10,b11,b12,b13,b14,b15⟩:=b
 rcases i with _ | _ | _ | _ | _ | _ | _ | _ | _ | _ | _ | _ | _ | _ | _ | _ | i<;>first | rfl | simp [N.get,zFM]
theorem zI3 (a b:T) (i:Nat):T.get (zg8 a b) i=.bad∨T.get (zg8 a b) i=zcv (T.get a i) (T.get b i):=by
 unfold T.get zg8
 rw [N.get_joinN]
 cases h1:N.get a (i / 16) with
 | none=>left;rfl
 | some u =>
  cases h2:N.get b (i / 16) with
  | none=>left;rfl
  | some u' =>
   simp only [Option.bind_some,N.get_join]
   cases h3:N.get u (i % 16) with
   | none=>left;rfl
   | some x =>
    cases h4:N.get u' (i % 16) with
    | none=>left;rfl
    | some y=>right;rfl
theorem zBN {ν:Val} {a b:T}:(VR ν (T.get a i) x→VR ν (T.get (zg8 a b) i) x)∧(VR ν (T.get b i) x→VR ν (T.get (zg8 a b) i) x):=by
 rcases zI3 a b i with h | h
 ·rw [h];exact ⟨fun _=>trivial,fun _=>trivial⟩
 ·rw [h];exact zKp
theorem zFJ {x y:V} (h:ze8 x y=true):x=y∧zcv x y=x:=by
 have key:yS x y=true→x=y∧zcv x y=x:=fun h=>by
  refine ⟨zfx _ _ h,?_⟩
  unfold zcv;rw [h]
 cases x with
 | bad =>
  cases y with
  | bad=>exact ⟨rfl,rfl⟩
  | _=>cases h
 | _=>exact key h
theorem zA1 (t:T) (c:V→Bool):zhM t c=c (T.get t 240):=by
 obtain ⟨a0,a1,a2,a3,a4,a5,a6,a7,a8,a9,a10,a11,a12,a13,a14,u⟩:=t
 obtain ⟨b0,b1,b2,b3,b4,b5,b6,b7,b8,b9,b10,b11,b12,b13,b14,b15⟩:=u
 rfl
theorem zIG {a b:T} (h:ze8 (T.get a 240) (T.get b 240)=true):T.get a 240=T.get b 240∧T.get (zg8 a b) 240=T.get a 240:=by
 obtain ⟨h1,h2⟩:=zFJ h
 refine ⟨h1,?_⟩
 have e:T.get (zg8 a b) 240=zcv (T.get a 240) (T.get b 240):=by
  obtain ⟨a0,a1,a2,a3,a4,a5,a6,a7,a8,a9,a10,a11,a12,a13,a14,u⟩:=a
  obtain ⟨c0,c1,c2,c3,c4,c5,c6,c7,c8,c9,c10,c11,c12,c13,c14,u'⟩:=b
  obtain ⟨b0,b1,b2,b3,b4,b5,b6,b7,b8,b9,b10,b11,b12,b13,b14,b15⟩:=u
  obtain ⟨d0,d1,d2,d3,d4,d5,d6,d7,d8,d9,d10,d11,d12,d13,d14,d15⟩:=u'
  rfl
 rw [e,h2]
section
variable {n0:Nat} {w0:World} {fi:FI} {ν:Val} {s:S} {b:Base} {cs:List Frame} {m:Machine} {kk:List Item}
theorem zI0 {x y no:A} (h:qW P n0 w0 fi ν s b cs m kk x∨qW P n0 w0 fi ν s b cs m kk y) (hno:zoy x y no=no→qW P n0 w0 fi ν s b cs m kk no):qW P n0 w0 fi ν s b cs m kk (zoy x y no):=by
 cases x with
 | nrm tm s1 =>
  cases y with
  | nrm tm' s2 =>
   have e:zoy (.nrm tm s1) (.nrm tm' s2) no=@Bool.rec (fun _=>A) no (.nrm (zg8 tm tm') (zsb s1 s2)) (zq (zhM tm fun x=>zhM tm' fun y=>ze8 x y) (zGr s1 s2)):=rfl
   rw [e] at hno ⊢
   cases hc:zq (zhM tm fun x=>zhM tm' fun y=>ze8 x y) (zGr s1 s2) with
   | false=>rw [hc] at hno;exact hno rfl
   | true =>
    obtain ⟨h1,_⟩:=zh hc
    rw [zA1] at h1
    simp only [zA1] at h1
    obtain ⟨g1,g2⟩:=zIG h1
    obtain ⟨k1,k2⟩:=zDW s1 s2
    rcases h with ⟨ν',w',tmps',df',q1,q2,q3,q4⟩ | ⟨ν',w',tmps',df',q1,q2,q3,q4⟩
    ·exact ⟨ν',w',tmps',df',q1.wk k1,⟨q2.1,fun t p1 p2=>zBN.1 (q2.2 t p1 p2)⟩,q3.same g2,q4⟩
    ·exact ⟨ν',w',tmps',df',q1.wk k2,⟨q2.1,fun t p1 p2=>zBN.2 (q2.2 t p1 p2)⟩,q3.same (g2.trans g1),q4⟩
  | _=>exact hno rfl
 | _=>exact hno rfl
theorem za1 (x:A):∀ {t:A},t.isBad→(zdb x t).isBad
 | .bad _,_=>trivial
 | .pnc _ _,h=>.inr h
 | .alt a c,h=>by
  have e:zdb x (.alt a c)=@Bool.rec (fun _=>A) (.alt a (zdb x c)) (.alt (zdb x a) c) (zpg x a):=rfl
  rw [e]
  cases zpg x a with
  | true =>
   rcases h with h | h
   ·exact .inl (za1 x h)
   ·exact .inr h
  | false =>
   rcases h with h | h
   ·exact .inl h
   ·exact .inr (za1 x h)
theorem zjA {x:A} (hx:x.isBad):∀ (t:A),(zdb x t).isBad
 | .bad _=>trivial
 | .pnc _ _=>.inl hx
 | .nrm tm s=>by
  have e:zdb x (.nrm tm s)=zoy x (.nrm tm s) (.alt x (.nrm tm s)):=rfl
  rw [e]
  cases x with
  | nrm _ _=>exact hx.elim
  | _=>exact .inl hx
 | .ext _ _ _=>.inl hx
 | .ret _ _=>.inl hx
 | .fin _ _=>.inl hx
 | .alt a c=>by
  have e:zdb x (.alt a c)=@Bool.rec (fun _=>A) (.alt a (zdb x c)) (.alt (zdb x a) c) (zpg x a):=rfl
  rw [e]
  cases zpg x a with
  | true=>exact .inl (zjA hx a)
  | false=>exact .inr (zjA hx c)
theorem zaK {x:A}:∀ {t:A},¬(zdb x t).isBad→(qW P n0 w0 fi ν s b cs m kk x∨qW P n0 w0 fi ν s b cs m kk t)→qW P n0 w0 fi ν s b cs m kk (zdb x t)
 | .nrm tm s',_,h=>zI0 h (fun _=>h)
 | .ext _ _ _,_,h=>h
 | .ret _ _,_,h=>h
 | .pnc _ _,_,h=>h
 | .fin _ _,_,h=>h
 | .bad _,hnb,_=>absurd trivial hnb
 | .alt a c,hnb,h=>by
  have e:zdb x (.alt a c)=@Bool.rec (fun _=>A) (.alt a (zdb x c)) (.alt (zdb x a) c) (zpg x a):=rfl
  rw [e] at hnb ⊢
  cases hc:zpg x a with
  | true =>
   rw [hc] at hnb
   rcases h with h | h | h
   ·exact .inl (zaK (fun g=>hnb (.inl g)) (.inl h))
   ·exact .inl (zaK (fun g=>hnb (.inl g)) (.inr h))
   ·exact .inr h
  | false =>
   rw [hc] at hnb
   rcases h with h | h | h
   ·exact .inr (zaK (fun g=>hnb (.inr g)) (.inl h))
   ·exact .inl h
   ·exact .inr (zaK (fun g=>hnb (.inr g)) (.inr h))
theorem we:∀ (x:A) {t:A},t.isBad→(ju x t).isBad
 | .nrm _ _,_,h=>za1 _ h
 | .ext _ _ _,_,h=>za1 _ h
 | .ret _ _,_,h=>za1 _ h
 | .pnc _ _,_,h=>za1 _ h
 | .fin _ _,_,h=>za1 _ h
 | .bad _,_,_=>trivial
 | .alt a c,t,h=>by
  have e:ju (.alt a c) t=ju a (ju c t):=rfl
  rw [e]
  exact we a (we c h)
theorem zbX:∀ {x:A},x.isBad→∀ t:A,(ju x t).isBad
 | .pnc _ _,h,t=>zjA h t
 | .bad _,_,_=>trivial
 | .alt a c,h,t=>by
  have e:ju (.alt a c) t=ju a (ju c t):=rfl
  rw [e]
  rcases h with h | h
  ·exact zbX h _
  ·exact we a (zbX h t)
theorem zaX:∀ {x t:A},¬(ju x t).isBad→(qW P n0 w0 fi ν s b cs m kk x∨qW P n0 w0 fi ν s b cs m kk t)→qW P n0 w0 fi ν s b cs m kk (ju x t)
 | .nrm _ _,_,hnb,h=>zaK hnb h
 | .ext _ _ _,_,hnb,h=>zaK hnb h
 | .ret _ _,_,hnb,h=>zaK hnb h
 | .pnc _ _,_,hnb,h=>zaK hnb h
 | .fin _ _,_,hnb,h=>zaK hnb h
 | .bad _,_,hnb,_=>absurd trivial hnb
 | .alt a c,t,hnb,h=>by
  have e:ju (.alt a c) t=ju a (ju c t):=rfl
  rw [e] at hnb ⊢
  have hnb2:¬(ju c t).isBad:=fun g=>hnb (we a g)
  rcases h with (h | h) | h
  ·exact zaX hnb (.inl h)
  ·exact zaX hnb (.inr (zaX hnb2 (.inl h)))
  ·exact zaX hnb (.inr (zaX hnb2 (.inr h)))
theorem zjr:∀ {x:A},x.isBad→(zdK x).isBad
 | .pnc _ _,h=>h
 | .bad _,h=>h
 | .alt a c,h=>by
  have e:zdK (.alt a c)=ju (zdK a) (zdK c):=rfl
  rw [e]
  rcases h with h | h
  ·exact zbX (zjr h) _
  ·exact we _ (zjr h)
theorem zsM:∀ {x:A},¬(zdK x).isBad→qW P n0 w0 fi ν s b cs m kk x→qW P n0 w0 fi ν s b cs m kk (zdK x)
 | .nrm _ _,_,h=>h
 | .ext _ _ _,_,h=>h
 | .ret _ _,_,h=>h
 | .pnc _ _,_,h=>h
 | .fin _ _,_,h=>h
 | .bad _,_,h=>h
 | .alt a c,hnb,h=>by
  have e:zdK (.alt a c)=ju (zdK a) (zdK c):=rfl
  rw [e] at hnb ⊢
  refine zaX hnb ?_
  rcases h with h | h
  ·exact .inl (zsM (fun g=>hnb (zbX g _)) h)
  ·exact .inr (zsM (fun g=>hnb (we _ g)) h)
variable {f:T→S→A} {g:Nat→T→S→A} {h:T→S→A}
theorem zcS:∀ {x:A},x.isBad→(wU f g h x).isBad
 | .pnc _ _,h=>h
 | .bad _,h=>h
 | .alt a c,hb=>by
  rcases hb with hb | hb
  ·exact .inl (zcS hb)
  ·exact .inr (zcS hb)
theorem zd9 {kk':List Item} (hf:∀ tm1 s1,¬(f tm1 s1).isBad→qW P n0 w0 fi ν s b cs m kk' (.nrm tm1 s1)→qW P n0 w0 fi ν s b cs m kk (f tm1 s1))
  (hg:∀ i tm1 s1,¬(g i tm1 s1).isBad→qW P n0 w0 fi ν s b cs m kk' (.ext i tm1 s1)→qW P n0 w0 fi ν s b cs m kk (g i tm1 s1))
  (hh:∀ tm1 s1,¬(h tm1 s1).isBad→qW P n0 w0 fi ν s b cs m kk' (.ret tm1 s1)→qW P n0 w0 fi ν s b cs m kk (h tm1 s1)):∀ {x:A},¬(wU f g h x).isBad→qW P n0 w0 fi ν s b cs m kk' x→qW P n0 w0 fi ν s b cs m kk (wU f g h x)
 | .nrm tm s,hnb,hx=>hf tm s hnb hx
 | .ext i tm s,hnb,hx=>hg i tm s hnb hx
 | .ret tm s,hnb,hx=>hh tm s hnb hx
 | .alt a c,hnb,hx=>by
  have e:wU f g h (.alt a c)=.alt (wU f g h a) (wU f g h c):=rfl
  rw [e] at hnb ⊢
  rcases hx with hx | hx
  ·exact .inl (zd9 hf hg hh (fun q=>hnb (.inl q)) hx)
  ·exact .inr (zd9 hf hg hh (fun q=>hnb (.inr q)) hx)
theorem jW:∀ {x:A},x.isBad→(qk x).isBad
 | .pnc _ _,h=>h
 | .bad _,h=>h
 | .alt a c,hb=>by
  rcases hb with hb | hb
  ·exact .inl (jW hb)
  ·exact .inr (jW hb)
theorem zjk:∀ {x:A},x.isBad→(z7 f x).isBad
 | .pnc _ _,h=>h
 | .bad _,h=>h
 | .alt a c,hb=>by
  rcases hb with hb | hb
  ·exact .inl (zjk hb)
  ·exact .inr (zjk hb)
theorem zjN:∀ {x:A},x.isBad→(zcQ f x).isBad
 | .pnc _ _,h=>h
 | .bad _,h=>h
 | .alt a c,hb=>by
  rcases hb with hb | hb
  ·exact .inl (zjN hb)
  ·exact .inr (zjN hb)
theorem znq {p:V→S→Prop} (hf:∀ tm1 s1,¬(f tm1 s1).isBad→(qW P n0 w0 fi ν s b cs m kk (.nrm tm1 s1)∨qW P n0 w0 fi ν s b cs m kk (.ret tm1 s1))→(qk (f tm1 s1)).Has p):∀ {x:A},¬(qk (z7 f x)).isBad→qW P n0 w0 fi ν s b cs m kk x→(qk (z7 f x)).Has p
 | .nrm tm s,hnb,hx=>hf tm s (fun q=>hnb (jW q)) (.inl hx)
 | .ext i tm s,hnb,hx=>absurd trivial hnb
 | .ret tm s,hnb,hx=>hf tm s (fun q=>hnb (jW q)) (.inr hx)
 | .alt a c,hnb,hx=>by
  have e:qk (z7 f (.alt a c))=.alt (qk (z7 f a)) (qk (z7 f c)):=rfl
  rw [e] at hnb ⊢
  rcases hx with hx | hx
  ·exact .inl (znq hf (fun q=>hnb (.inl q)) hx)
  ·exact .inr (znq hf (fun q=>hnb (.inr q)) hx)
theorem zpS {p:V→S→Prop} (hf:∀ tm1 s1,¬(f tm1 s1).isBad→(qW P n0 w0 fi ν s b cs m kk (.nrm tm1 s1)∨qW P n0 w0 fi ν s b cs m kk (.ret tm1 s1))→(qk (f tm1 s1)).Has p):∀ {x:A},¬(qk (zcQ f x)).isBad→qW P n0 w0 fi ν s b cs m kk x→(qk (zcQ f x)).Has p
 | .nrm tm s,hnb,hx=>hf tm s (fun q=>hnb (jW q)) (.inl hx)
 | .ext i tm s,hnb,hx=>absurd trivial hnb
 | .ret tm s,hnb,hx=>hf tm s (fun q=>hnb (jW q)) (.inr hx)
 | .alt a c,hnb,hx=>by
  have e:qk (zcQ f (.alt a c))=.alt (qk (zcQ f a)) (qk (zcQ f c)):=rfl
  rw [e] at hnb ⊢
  rcases hx with hx | hx
  ·exact .inl (zpS hf (fun q=>hnb (.inl q)) hx)
  ·exact .inr (zpS hf (fun q=>hnb (.inr q)) hx)
end
theorem zJv {p:V→S→Prop} (hp:∀ v s v' s',p v s→(v'=v∨v'=.bad)→Wk s s'→p v' s') {x y:F} (hnb:¬(zqM x y).isBad) (h:x.Has p∨y.Has p):(zqM x y).Has p:=by
 cases x with
 | ret v s =>
  cases y with
  | ret v' s' =>
   have e:zqM (.ret v s) (.ret v' s')=.ret (zcv v v') (zsb s s'):=rfl
   rw [e]
   obtain ⟨k1,k2⟩:=zDW s s'
   rcases zCJ v v' with ⟨g1,g2⟩ | g
   ·rcases h with h | h
    ·exact hp _ _ _ _ h (.inl g1) k1
    ·exact hp _ _ _ _ h (.inl (g1.trans g2)) k2
   ·rcases h with h | h
    ·exact hp _ _ _ _ h (.inr g) k1
    ·exact hp _ _ _ _ h (.inr g) k2
  | _=>exact absurd trivial hnb
 | _=>exact absurd trivial hnb
theorem zjC {x y:F} (h:x.isBad∨y.isBad):(zqM x y).isBad:=by
 cases x with
 | ret v s =>
  cases y with
  | ret v' s'=>exact (h.elim id id).elim
  | _=>trivial
 | _=>trivial
theorem zjs:∀ {x:F},x.isBad→(zdI x).isBad
 | .pnc _ _,h=>h
 | .bad _,h=>h
 | .alt a c,hb=>by
  have e:zdI (.alt a c)=zqM (zdI a) (zdI c):=rfl
  rw [e]
  exact zjC (hb.imp zjs zjs)
theorem znz {p:V→S→Prop} (hp:∀ v s v' s',p v s→(v'=v∨v'=.bad)→Wk s s'→p v' s'):∀ {x:F},¬(zdI x).isBad→x.Has p→(zdI x).Has p
 | .ret _ _,_,h=>h
 | .alt a c,hnb,h=>by
  have e:zdI (.alt a c)=zqM (zdI a) (zdI c):=rfl
  rw [e] at hnb ⊢
  have h:a.Has p∨c.Has p:=h
  exact zJv hp hnb (h.imp (znz hp fun q=>hnb (zjC (.inl q))) (znz hp fun q=>hnb (zjC (.inr q))))
theorem zJe {b:Bool} {x:A} (h:x.isBad):(zEa b x).isBad:=by
 cases b
 ·exact zjr h
 ·exact h
theorem zJs {P:Program} {n0:Nat} {w0:World} {fi:FI} {ν:Val} {s:S} {b:Base} {cs:List Frame} {m:Machine} {kk:List Item} {nm:Bool} {x:A} (hnb:¬(zEa nm x).isBad) (h:qW P n0 w0 fi ν s b cs m kk x):qW P n0 w0 fi ν s b cs m kk (zEa nm x):=by
 cases nm
 ·exact zsM hnb h
 ·exact h
theorem zxc {n0:Nat} {w0 w:World} {ν:Val} {s:S} (hst:St P n0 w0 ν s w) (B':B) (o:Obj) (h1:∀ w',BR P ν w' s.nx B')
  (h2:∀ w':World,w'.heap[w.heap.size]?=some o→BR P (ν.add s.nx 0 w.heap.size 0 0) w' s.nx B') :
  Out P n0 w0 ν s (ν.add s.nx 0 w.heap.size 0 0) ⟨Tr.set B.none B' s.nx s.h,s.nx.succ⟩ (w.alloc o):=by
 obtain ⟨hn,_⟩:=hst.fresh s.nx (kab _)
 have hst2:=zhl hst B' (h1 w)
 have hsize:n0≤w.heap.size:=kar hst.n0le hst.below.size
 have:=zeC hst2 s.nx hn (by show _<s.nx.succ.toNat;rw [K.toNat_succ];omega) 0 0 0 (zcG w o) (fun k hk=>Below.heap_alloc w o k hk) (hst2.below.alloc hsize o) (by
  simp only [get_set,if_true]
  exact h2 _ (zaW w o))
 refine ⟨Val.le_add hn,this,by show _≤s.nx.succ.toNat;rw [K.toNat_succ];omega,fun a ha hlt=>?_⟩
 have hne:a≠s.nx:=by intro e;subst e;omega
 exact ⟨fun v=>by rw [Val.add_other hne];exact ha v,.inl (by simp only [get_set,if_neg hne])⟩
section moves
variable {b:Base} {tm:Array Value} {df:List Deferred} {k:List Item} {cs:List Frame} {w w1 w':World}
variable {l:Nat}
theorem zy9 {f:Operand} {ps:Array Tmp} {asg body:Code} {mark:List Deferred} {N:Next} (hro:b.ro=none) (hN:Next.begins N) (h:(Instr.enterLoop b.fn tm ps asg body none).run P w=.ok (l,mark) w1)
  (hc:(do let d ←Deferred.ofValue (ev tm f) #[.func (.yield l) #[] #[]];invoke d.target d.args:Sem Next).run P w1=.ok N w') :
  step P (lone (b.fr tm df (.code (.rangeFunc f ps asg body)::k)) cs w)=.next (lone (znY P N) (b.fr tm (mark++df) (.inRangeFunc l::k)::cs) w'):=by
 have he:(b.fr tm (mark++df) (.inRangeFunc l::k)).eval=ev tm:=zzu b tm _ _
 simp only [Base.fr] at he
 rw [hro] at he
 have hc2:(do let d ←resolve (ev tm) { callee:=.value f,args:=#[.const (.func (.yield l) #[] #[])],argTypes:=#[] } 0;invoke d.target d.args:Sem Next).run P w1=.ok N w':=by
  have:resolve (ev tm) { callee:=.value f,args:=#[.const (.func (.yield l) #[] #[])],argTypes:=#[] } 0=Deferred.ofValue (ev tm f) #[.func (.yield l) #[] #[]]:=by
   simp [resolve,ev]
  rw [this];exact hc
 cases N with
 | enter g a=>exact step_lone_go (by simp [stepG,stepG.exec,stepG.apply,Base.fr,hro,h,he,hc2,znY])
 | round a1 a2 a3 a4 a5=>exact step_lone_go (by simp [stepG,stepG.exec,stepG.apply,Base.fr,hro,h,he,hc2,znY])
 | _=>exact hN.elim
theorem zDt {jump:Option Code} (h:(Instr.endLoop l).run P w=.ok jump w'):step P (lone (b.fr tm df (.endRangeFunc l::k)) cs w)=.next (lone (b.fr tm df ((jump.map Item.code).toList++k)) cs w') :=
 step_lone_go (by simp [stepG,stepG.exec,Base.fr,h])
end moves
theorem ztj (pc:PC) (fi:FI) (f:Operand) (ps:Array Tmp) (asg body:Code) (r:R) (tm:T) (s:S):(zl pc fi (.rangeFunc f ps asg body)).run r tm s=(geC 240).run tm fun dl=>(@V.rec mA mU eA eC eC eB eB eD eF eF eB eC
    (fun _ dl _=>jU s (.dfd (some [])) fun d s=>jU s (.loop 0 none fi tm ps.toList asg body d) fun l s=>(puC 240).run (.ls 1 (.ref 2 d::dl)) tm fun tm =>
       (opd fi [] f).run tm [] fun fv=>jz r.det fv [.ref 3 l] tm s fun _ s=>zY s l fun b=>(@B.rec mD eA eH eC (fun st p _ _ _ _ _ _=>(@Bool.rec (fun _=>A) (zdE s l 3 p fun s=>(match p with
           | none=>.nrm tm s
           | some .ret=>.ret tm s
           | some (.exit i)=>.ext i tm s
           | some _=>.bad 0)) eA (Nat.beq st 1))) eB eD eF b)) eF eD () tE dl:A):=by
  simp only [zl]
  rfl
theorem zzJ {pc:PC} (_:PcOk P pc) {r:R} (hr:RS P pc r) {fi:FI} {f:Operand} {ps:Array Tmp} {asg body:Code} {tm:T} {s:S} (hnb:¬((zl pc fi (.rangeFunc f ps asg body)).run r tm s).isBad):zdH P fi (.rangeFunc f ps asg body) tm s ((zl pc fi (.rangeFunc f ps asg body)).run r tm s):=by
 rw [ztj] at hnb ⊢
 have h240:=zed hnb
 rw [←h240] at hnb ⊢
 cases hl:T.get tm 240 with
 | ls t dl =>
  rw [hl] at hnb
  simp only [zdy] at hnb ⊢
  generalize hs2:(⟨Tr.set B.none (.loop 0 none fi tm ps.toList asg body s.nx) s.nx.succ (Tr.set B.none (.dfd (some [])) s.nx s.h),s.nx.succ.succ⟩:S)=s2 at hnb ⊢
  obtain ⟨tm1,h1,h2⟩:=ze3 hnb
  rw [←h1] at hnb ⊢
  obtain ⟨fv,h3,h4⟩:=qc fi [] f tm1 [] _ hnb
  rw [←h3] at hnb ⊢
  obtain ⟨v,s3,h5,h6⟩:=zEw hr.det (zHz r) hnb
  rw [←h5] at hnb ⊢
  simp only [yy] at hnb ⊢
  have hfr1:∀ (ν:Val) (tmps:Array Value),FrR ν fi T.get tm tmps→FrR ν fi T.get tm1 tmps:=fun ν tmps h=>⟨h.1,fun t g1 g2=>by rw [h2,if_neg (by omega)];exact h.2 t g1 g2⟩
  have h240':T.get tm1 240=.ls 1 (.ref 2 s.nx::dl):=by rw [h2,if_pos rfl]
  cases hB:Tr.get B.none s.nx.succ s3.h with
  | loop st p fi' tm' ps' asg' body' df' =>
   rw [hB] at hnb
   simp only at hnb ⊢
   cases hz:Nat.beq st 1 with
   | true=>rw [hz] at hnb;exact absurd trivial hnb
   | false =>
    simp only [hz] at hnb ⊢
    obtain ⟨st0,p0,fi0,tm0,ps0,asg0,body0,df0,hB0,h7⟩:=zgL hnb
    rw [hB] at hB0
    simp only [B.loop.injEq] at hB0
    obtain ⟨e1,e2,e3,e4,e5,e6,e7,e8⟩:=hB0
    subst e1 e2 e3 e4 e5 e6 e7 e8
    rw [←h7] at hnb ⊢
    generalize hs4:(⟨Tr.set B.none (.loop 3 p fi' tm' ps' asg' body' df') s.nx.succ s3.h,s3.nx⟩:S)=s4 at hnb ⊢
    -- up to the jump
    have core:∀ n0 w0 ν w tmps df b cs kk,fi.ng≤P.globals.size→St P n0 w0 ν s w→yq ν P.globals.size→FrR ν fi T.get tm tmps→Env ν b cs tm df →
      ∃ ν' w' df',Out P n0 w0 ν s ν' s4 w'∧FrR ν' fi T.get tm1 tmps∧Env ν' b cs tm1 df'∧Steps P (lone (b.fr tmps df (.code (.rangeFunc f ps asg body)::kk)) cs w) (lone (b.fr tmps df' ((p.map Item.code).toList++kk)) cs w'):=by
     intro n0 w0 ν w tmps df b cs kk hng hst hG hf he
     have hro:=he.ro _ _ hl
     obtain ⟨hn,_⟩:=hst.fresh s.nx (kab _)
     have o1:=zxc hst (.dfd (some [])) (.deferred (some [])) (fun w' v b' δ h=>by rw [hn] at h;cases h) (fun w' hw' v b' δ h=>by
      obtain ⟨q1,q2⟩:=Val.add_only hn h
      simp only [Prod.mk.injEq] at q2
      rw [q2.1]
      exact ⟨q1,fun _=>hw',_,hw'⟩)
     generalize hs1:(⟨Tr.set B.none (.dfd (some [])) s.nx s.h,s.nx.succ⟩:S)=s1 at o1
     generalize hν1:ν.add s.nx 0 w.heap.size 0 0=ν1 at o1
     have hd1:ν1.blk s.nx 0=some (w.heap.size,0):=by rw [←hν1];exact Val.add_self
     have hnx1:s1.nx=s.nx.succ:=by rw [←hs1]
     obtain ⟨hn1,_⟩:=o1.st.fresh s1.nx (kab _)
     have o2:=zxc o1.st (.loop 0 none fi tm ps.toList asg body s.nx) (.loop { state:=.ready,pending:=none,fn:=b.fn,tmps:=tmps,params:=ps,assign:=asg,body:=body,defers:=w.heap.size }) (fun w' v b' δ h=>by rw [hn1] at h;cases h) (fun w' hw' v b' δ h=>by
      obtain ⟨q1,q2⟩:=Val.add_only hn1 h
      simp only [Prod.mk.injEq] at q2
      rw [q2.1]
      refine ⟨q1,hng,.ready,b.fn,tmps,w.heap.size,hw',rfl,(hf.mono o1.le).mono (Val.le_add hn1),0,?_⟩
      exact (Val.le_add hn1 _ _ _ hd1).1)
     have hs2':(⟨Tr.set B.none (.loop 0 none fi tm ps.toList asg body s.nx) s1.nx s1.h,s1.nx.succ⟩:S)=s2:=by rw [←hs1];exact hs2
     rw [hs2'] at o2
     have hsz1:(w.alloc (.deferred (some []))).heap.size=w.heap.size+1:=by show (w.heap.push _).size=_;rw [Array.size_push]
     rw [hsz1] at o2
     generalize hν2:ν1.add s1.nx 0 (w.heap.size+1) 0 0=ν2 at o2
     have hl2:ν2.blk s.nx.succ 0=some (w.heap.size+1,0):=by rw [←hν2,←hnx1];exact Val.add_self
     have hd2:ν2.blk s.nx 0=some (w.heap.size,0):=(o2.le _ _ _ hd1).1
     have oo:=o1.trans o2
     generalize hw2:(w.alloc (.deferred (some []))).alloc (.loop { state:=.ready,pending:=none,fn:=b.fn,tmps:=tmps,params:=ps,assign:=asg,body:=body,defers:=w.heap.size })=w2 at o2 oo
     have hent:(Instr.enterLoop b.fn tmps ps asg body none).run P w=.ok (w.heap.size+1,[{ target:=.collected w.heap.size,args:=#[] }]) w2:=by
      rw [←hw2]
      simp [Instr.enterLoop]
     have hf2:=hfr1 ν2 tmps (hf.mono oo.le)
     have hfv:=h4 ν2 tmps ((hG.mono oo.le).le hng) ((FrX.of hf2).odr f)
     obtain ⟨N,g1,g2,g3⟩:=h6 n0 w0 ν2 w2 _ [.func (.yield (w.heap.size+1)) #[] #[]] o2.st (hG.mono oo.le) hfv ⟨_,[],rfl,⟨_,hl2,rfl⟩,rfl⟩
     have hst1:=zy9 (P:=P) (b:=b) (tm:=tmps) (df:=df) (k:=kk) (cs:=cs) (w:=w) (w1:=w2) (w':=w2) (f:=f) (N:=N) hro g1 hent (g2 _ rfl)
     obtain ⟨ν3,z,w3,k1,k2,k3⟩:=g3 (b.fr tmps ([{ target:=.collected w.heap.size,args:=#[] }]++df) (.inRangeFunc (w.heap.size+1)::kk)) cs
     have hfin:(b.fr tmps ([{ target:=.collected w.heap.size,args:=#[] }]++df) (.inRangeFunc (w.heap.size+1)::kk)).finish z=b.fr tmps ([{ target:=.collected w.heap.size,args:=#[] }]++df) (.endRangeFunc (w.heap.size+1)::kk):=rfl
     rw [hfin] at k3
     have hl3:=(k1.le _ _ _ hl2).1
     obtain ⟨q1,q2,ls,fn',tmps',d',q3,q4,q5,q6⟩:=zhc k1.st hB hl3
     obtain ⟨r1,r2⟩:=zqX k1.st hB hl3 (st':=3) (pend':=p) (ls':=.exhausted) q3 rfl
     rw [hs4] at r1 r2
     have hbusy:ls≠.busy:=by
      intro h
      rw [h] at q4
      have:st=1:=by
       rcases st with _ | _ | _ | _ | st
       ·cases q4
       ·rfl
       ·cases q4
       ·cases q4
       ·exact q4.elim
      subst this;simp at hz
     have hbusy':(ls == LoopState.busy)=false:=by cases ls<;>first | rfl | exact absurd rfl hbusy
     have hend:(Instr.endLoop (w.heap.size+1)).run P w3=.ok p { w3 with heap:=w3.heap.setIfInBounds (w.heap.size+1) (.loop { state:=.exhausted,pending:=p,fn:=fn',tmps:=tmps',params:=⟨ps'⟩,assign:=asg',body:=body',defers:=d' }) }:=by
      simp [Instr.endLoop,zbV q3,hbusy,zbd q3]
     have o4:Out P n0 w0 ν3 s3 ν3 s4 _:=Out.write r1 (by rw [←hs4]) r2
     have oall:=(oo.trans k1).trans o4
     refine ⟨ν3,_,[{ target:=.collected w.heap.size,args:=#[] }]++df,oall,hf2.mono k1.le,⟨he.calm,?_,fun _ _ _=>hro⟩,.head hst1 (k3.trans (.one (zDt hend)))⟩
     rw [h240']
     have hdf:=he.df
     rw [hl] at hdf
     exact ⟨_,df,rfl,⟨_,(k1.le _ _ _ hd2).1,rfl⟩,DfR.mono (v:=.ls t dl) oall.le hdf⟩
    cases p with
    | none =>
     intro n0 w0 ν w tmps df b cs kk hng hst hG hf he
     obtain ⟨ν',w',df',g1,g2,g3,g4⟩:=core n0 w0 ν w tmps df b cs kk hng hst hG hf he
     exact ⟨ν',w',tmps,df',g1,g2,g3,g4⟩
    | some c =>
     cases c with
     | ret =>
      intro n0 w0 ν w tmps df b cs kk hng hst hG hf he
      obtain ⟨ν',w',df',g1,g2,g3,g4⟩:=core n0 w0 ν w tmps df b cs kk hng hst hG hf he
      exact ⟨ν',w',tmps,df',kk,g1,g2,g3,g4⟩
     | exit i =>
      intro n0 w0 ν w tmps df b cs kk hng hst hG hf he
      obtain ⟨ν',w',df',g1,g2,g3,g4⟩:=core n0 w0 ν w tmps df b cs kk hng hst hG hf he
      exact ⟨ν',w',tmps,df',kk,g1,g2,g3,rfl,g4⟩
     | _=>exact absurd trivial hnb
  | _=>rw [hB] at hnb;exact absurd trivial hnb
 | _=>rw [hl] at hnb;exact absurd trivial hnb
theorem wK {pc:PC} (hpc:PcOk P pc) {r:R} (hr:RS P pc r) (hh:∀ h∈pc.hooks,jR P h) {fi:FI}:∀ (c:Code) (tm:T) (s:S),¬((zl pc fi c).run r tm s).isBad→zdH P fi c tm s ((zl pc fi c).run r tm s)
 | .skip,tm,s,_=>fun n0 w0 ν w tmps df b cs kk hng hst hG hf he=>⟨ν,w,tmps,df,Out.refl hst,hf,he,.one zLZ⟩
 | .label l,tm,s,_=>fun n0 w0 ν w tmps df b cs kk hng hst hG hf he=>⟨ν,w,tmps,df,Out.refl hst,hf,he,.one zJC⟩
 | .ret,tm,s,_=>fun n0 w0 ν w tmps df b cs kk hng hst hG hf he=>⟨ν,w,tmps,df,kk,Out.refl hst,hf,he,Steps.refl P _⟩
 | .exit id,tm,s,_=>by
  have e:(zl pc fi (.exit id)).run r tm s=.ext id tm s:=by simp only [zl,zH]
  rw [e]
  exact fun n0 w0 ν w tmps df b cs kk hng hst hG hf he=>⟨ν,w,tmps,df,kk,Out.refl hst,hf,he,rfl,Steps.refl P _⟩
 | .goto l,tm,s,hnb=>absurd trivial hnb
 | .refuse m,tm,s,hnb=>absurd trivial hnb
 | .region id all d,tm,s,hnb=>by
  have e:(zl pc fi (.region id all d)).run r tm s=(jp pc fi d all.toList).run r tm [] s:=by simp only [zl]
  rw [e] at hnb ⊢
  exact zJj hpc hr hh hnb id
 | .scope c,tm,s,hnb=>by
  have e:(zl pc fi (.scope c)).run r tm s=(zl pc fi c).run r tm s:=by simp only [zl]
  rw [e] at hnb ⊢
  have ih:=wK hpc hr hh c tm s hnb
  intro n0 w0 ν w tmps df b cs kk hng hst hG hf he
  have:=ih n0 w0 ν w tmps df b cs (.inScope c::kk) hng hst hG hf he
  refine qW.steps (.one zKU) ?_
  generalize (zl pc fi c).run r tm s=res at this
  induction res with
  | nrm tm' s' =>
   obtain ⟨ν',w',tmps',df',h1,h2,h3,h4⟩:=this
   exact ⟨ν',w',tmps',df',h1,h2,h3,h4.trans (.one zFT)⟩
  | ext i tm' s' =>
   obtain ⟨ν',w',tmps',df',todo,h1,h2,h3,h4,h5⟩:=this
   exact ⟨ν',w',tmps',df',todo,h1,h2,h3,h4,h5⟩
  | ret tm' s' =>
   obtain ⟨ν',w',tmps',df',todo,h1,h2,h3,h4⟩:=this
   exact ⟨ν',w',tmps',df',todo,h1,h2,h3,h4⟩
  | alt x y hx hy=>exact this.imp hx hy
  | _=>exact this.elim
 | .cond x a b,tm,s,hnb=>by
  have e:(zl pc fi (.cond x a b)).run r tm s=(opd fi [] x).run tm [] fun v=>(@V.rec mA mU eA eC eC (fun b'=>(@Bool.rec (fun _=>A) ((zl pc fi b).run r tm s) ((zl pc fi a).run r tm s) b')) eB eD eF eF eB eC eD eF eD () tE v:A):=by simp only [zl]
  rw [e] at hnb ⊢
  obtain ⟨v,h1,h2⟩:=qc fi [] x tm [] _ hnb
  rw [←h1] at hnb ⊢
  cases v with
  | bool t =>
   intro n0 w0 ν w tmps df b' cs kk hng hst hG hf he
   have hv:=h2 ν tmps (hG.le hng) ((FrX.of hf).odr x)
   simp only [VR] at hv
   cases t with
   | true=>exact (wK hpc hr hh a tm s hnb n0 w0 ν w tmps df b' cs kk hng hst hG hf he).steps (.one (zGh hv))
   | false=>exact (wK hpc hr hh b tm s hnb n0 w0 ν w tmps df b' cs kk hng hst hG hf he).steps (.one (zGh hv))
  | _=>exact absurd trivial hnb
 | .seq a b,tm,s,hnb=>by
  have e:(zl pc fi (.seq a b)).run r tm s=wU (fun tm s=>(zl pc fi b).run r tm s) (fun i tm s=>.ext i tm s) (fun tm s=>.ret tm s) ((zl pc fi a).run r tm s):=by simp only [zl]
  rw [e] at hnb ⊢
  have iha:=wK hpc hr hh a tm s (fun q=>hnb (zcS q))
  intro n0 w0 ν w tmps df b' cs kk hng hst hG hf he
  refine qW.steps (.one zN4) (zd9 (kk':=.code b::kk) (fun tm1 s1 hnb1 h=>?_) (fun i tm1 s1 _ h=>?_) (fun tm1 s1 _ h=>?_) hnb (iha n0 w0 ν w tmps df b' cs (.code b::kk) hng hst hG hf he))
  ·obtain ⟨ν1,w1,tmps1,df1,h1,h2,h3,h4⟩:=h
   exact (wK hpc hr hh b tm1 s1 hnb1 n0 w0 ν1 w1 tmps1 df1 b' cs kk hng h1.st (hG.mono h1.le) h2 h3).trans h1 h4
  ·exact h
  ·exact h
 | .block id c,tm,s,hnb=>by
  have e:(zl pc fi (.block id c)).run r tm s=zEa (zIn 999999 pc.mg) (wU (fun tm s=>.nrm tm s) (fun i tm s=>(@Bool.rec (fun _=>A) (.ext i tm s) (.nrm tm s) (Nat.beq i id))) (fun tm s=>.ret tm s) ((zl pc fi c).run r tm s)):=by simp only [zl,zH];cases zIn 999999 pc.mg<;>rfl
  rw [e] at hnb ⊢
  have hnb2:¬(wU (fun tm s=>.nrm tm s) (fun i tm s=>(@Bool.rec (fun _=>A) (.ext i tm s) (.nrm tm s) (Nat.beq i id))) (fun tm s=>.ret tm s) ((zl pc fi c).run r tm s)).isBad:=fun q=>hnb (zJe q)
  have ih:=wK hpc hr hh c tm s (fun q=>hnb2 (zcS q))
  intro n0 w0 ν w tmps df b' cs kk hng hst hG hf he
  refine zJs hnb (qW.steps (.one zLj) (zd9 (kk':=.inBlock id::kk) (fun tm1 s1 _ h=>?_) (fun i tm1 s1 _ h=>?_) (fun tm1 s1 _ h=>?_) hnb2 (ih n0 w0 ν w tmps df b' cs (.inBlock id::kk) hng hst hG hf he)))
  ·obtain ⟨ν1,w1,tmps1,df1,h1,h2,h3,h4⟩:=h
   exact ⟨ν1,w1,tmps1,df1,h1,h2,h3,h4.trans (.one zF7)⟩
  ·obtain ⟨ν',w',tmps',df',todo,h1,h2,h3,h4,h5⟩:=h
   cases hi:Nat.beq i id with
   | true =>
    have:=bq hi
    subst this
    have hx:exitTo i todo=some kk:=by rw [h4];simp [exitTo]
    exact ⟨ν',w',tmps',df',h1,h2,h3,h5.trans (.one (zMk hx))⟩
   | false =>
    have hne:(id == i)=false:=by
     cases hb:(id == i) with
     | false=>rfl
     | true =>
      have:=eq_of_beq hb
      subst this
      simp at hi
    exact ⟨ν',w',tmps',df',todo,h1,h2,h3,by rw [h4];simp [exitTo,hne],h5⟩
  ·exact h
 | .loop c,tm,s,hnb=>by
  have e:(zl pc fi (.loop c)).run r tm s=wU (fun tm s=>r.code fi (.loop c) tm s) (fun i tm s=>.ext i tm s) (fun tm s=>.ret tm s) ((zl pc fi c).run r tm s):=by simp only [zl]
  rw [e] at hnb ⊢
  have ih:=wK hpc hr hh c tm s (fun q=>hnb (zcS q))
  intro n0 w0 ν w tmps df b' cs kk hng hst hG hf he
  refine qW.steps (.one zm2) (zd9 (kk':=.inLoop c::kk) (fun tm1 s1 hnb1 h=>?_) (fun i tm1 s1 _ h=>?_) (fun tm1 s1 _ h=>?_) hnb (ih n0 w0 ν w tmps df b' cs (.inLoop c::kk) hng hst hG hf he))
  ·obtain ⟨ν1,w1,tmps1,df1,h1,h2,h3,h4⟩:=h
   exact ((hr.code fi (.loop c) tm1 s1 hnb1 n0 w0 ν1 w1 tmps1 df1 b' cs kk hng h1.st (hG.mono h1.le) h2 h3).loop).trans h1 h4
  ·exact h
  ·exact h
 | .rangeFunc f ps asg body,tm,s,hnb=>zzJ hpc hr hnb
section moves
variable {b:Base} {tm:Array Value} {df:List Deferred} {k:List Item} {cs:List Frame} {w:World}
theorem zKW (hro:b.ro=none):step P (lone (b.fr tm df []) cs w)=.next (lone { b.fr tm df [] with mode:=.returning } cs w):=step_lone_go (by simp [stepG,stepG.exec,Base.fr,hro])
theorem zKA (hro:b.ro=none):step P (lone (b.fr tm df (.code .ret::k)) cs w)=.next (lone { b.fr tm df (.code .ret::k) with mode:=.returning } cs w):=step_lone_go (by simp [stepG,stepG.exec,Base.fr,hro])
end moves
theorem zy7 {fr:Frame} {cs:List Frame} {w w':World} {bl:Nat} {args:Array Value} {ds:List Deferred} (hm:fr.mode=.returning) (hd:fr.defers={ target:=.collected bl,args:=args }::ds) (h:(Instr.takeDeferred bl).run P w=.ok [] w') :
  step P (lone fr cs w)=.next (lone { fr with defers:=ds } cs w'):=step_lone_go (by simp [stepG,unwind,hm,hd,h])
theorem zcT {pc:PC} {r:R} (hr:RS P pc r):∀ (l:List V) (s:S) (c:S→A),¬(jJ r l s c).isBad→∃ s',c s'=jJ r l s c∧∀ n0 w0 ν w (fr:Frame) cs,St P n0 w0 ν s w→yq ν P.globals.size→DfL ν l fr.defers→fr.mode=.returning →
  ∃ ν' w',Out P n0 w0 ν s ν' s' w'∧Steps P (lone fr cs w) (lone { fr with defers:=[] } cs w')
 | [],s,c,_=>⟨s,rfl,fun n0 w0 ν w fr cs hst _ hdf _=>⟨ν,w,Out.refl hst,by
   have e:({ fr with defers:=[] }:Frame)=fr:=by cases fr;simp only [DfL] at hdf;subst hdf;rfl
   rw [e];exact Steps.refl P _⟩⟩
 | d::l,s,c,hnb=>by
  cases d with
  | ref t bk =>
   have e:jJ r (.ref t bk::l) s c=zY s bk fun o=>(@B.rec mD eA eH eC eI (fun x=>(match x with | some []=>jP s bk (.dfd none) fun s=>jJ r l s c | _=>.bad 0)) eD eF o:A):=rfl
   rw [e,zK] at hnb
   rw [e,zK]
   cases hB:Tr.get B.none bk s.h with
   | dfd x =>
    rw [hB] at hnb
    simp only at hnb ⊢
    match x,hnb with
    | none,hnb=>exact absurd trivial hnb
    | some (_::_),hnb=>exact absurd trivial hnb
    | some [],hnb =>
     simp only [qp] at hnb ⊢
     obtain ⟨s',h1,h2⟩:=zcT hr l _ c hnb
     refine ⟨s',h1,fun n0 w0 ν w fr cs hst hG hdf hm=>?_⟩
     obtain ⟨x,rr,e1,hE,hL⟩:=hdf
     match t,hE with
     | 2,hE =>
      obtain ⟨bl,hb,e2⟩:=hE
      have hrow:=hst.rows bk
      rw [hB] at hrow
      have hv:∀ v p,ν.blk bk v=some p→v=0:=fun v p hp=>(hrow v p.1 p.2 hp).1
      obtain ⟨_,q1,_⟩:=hrow 0 bl 0 hb
      have q1:=q1 rfl
      have jP:=ziv hst (B':=.dfd none) (o:=.deferred none) hb (by rw [hB];trivial) (by rw [hB];exact fun h=>h) hv (fun h=>h) (fun w' hw' v b' δ' hb'=>by
       have hv0:=hv v _ hb'
       subst hv0
       rw [hb] at hb'
       simp only [Option.some.injEq,Prod.mk.injEq] at hb'
       rw [←hb'.1]
       exact ⟨rfl,fun h=>(by cases h),_,hw'⟩)
      have htake:(Instr.takeDeferred bl).run P w=.ok [] { w with heap:=w.heap.setIfInBounds bl (.deferred none) }:=by
       simp [Instr.takeDeferred,getObj,setObj,Sem.run,q1]
      have hs1:=zy7 (P:=P) (cs:=cs) hm (by rw [e1,e2]) htake
      have o1:Out P n0 w0 ν s ν ⟨Tr.set B.none (.dfd none) bk s.h,s.nx⟩ { w with heap:=w.heap.setIfInBounds bl (.deferred none) }:=Out.write jP rfl (wH hb _)
      obtain ⟨ν',w',k1,k2⟩:=h2 n0 w0 ν _ { fr with defers:=rr } cs jP hG hL hm
      exact ⟨ν',w',o1.trans k1,.head hs1 k2⟩
   | _=>rw [hB] at hnb;exact absurd trivial hnb
  | ls t p =>
   have hpat:∃ g first cap t2 args,p=[.fn (.func g) first cap,.ls t2 args]:=by
    cases p with
    | nil=>exact absurd trivial hnb
    | cons x q =>
     cases x with
     | fn f first cap =>
      cases f with
      | func g =>
       cases q with
       | nil=>exact absurd trivial hnb
       | cons y q2 =>
        cases y with
        | ls t2 args =>
         cases q2 with
         | nil=>exact ⟨g,first,cap,t2,args,rfl⟩
         | cons _ _=>exact absurd trivial hnb
        | _=>exact absurd trivial hnb
      | _=>exact absurd trivial hnb
     | _=>exact absurd trivial hnb
   obtain ⟨g,first,cap,t2,args,hpe⟩:=hpat
   subst hpe
   ·have e:jJ r (.ls t [.fn (.func g) first cap,.ls t2 args]::l) s c=(F.rec (motive:=fun _=>A) (fun _ s=>jJ r l s c) (fun _ _=>.bad 0) (fun m=>.bad m) (fun _ _ _ _=>.bad 0) (r.call g (first++(args++cap)) s):A):=by
     have:jJ r (.ls t [.fn (.func g) first cap,.ls t2 args]::l) s c=zNv first args cap fun l'=>(F.rec (motive:=fun _=>A) (fun _ s=>jJ r l s c) (fun _ _=>.bad 0) (fun m=>.bad m) (fun _ _ _ _=>.bad 0) (r.call g l' s):A):=rfl
     rw [this]
     simp only [zNv,yf]
    rw [e] at hnb ⊢
    cases hc:r.call g (first++(args++cap)) s with
    | ret v s1 =>
     rw [hc] at hnb
     simp only at hnb ⊢
     obtain ⟨s',h1,h2⟩:=zcT hr l s1 c hnb
     refine ⟨s',h1,fun n0 w0 ν w fr cs hst hG hdf hm=>?_⟩
     obtain ⟨x,rr,e1,hE,hL⟩:=hdf
     have hE':∃ cf cc ca,VRs ν first cf∧VRs ν cap cc∧VRs ν args ca∧x={ target:=.fn (.func g) ⟨cc⟩,args:=⟨cf++ca⟩ }:=by
      unfold DfE at hE
      split at hE
      ·rename_i heq;cases heq
      ·rename_i heq
       simp only [V.ls.injEq,List.cons.injEq,V.fn.injEq,Fn.func.injEq,and_true] at heq
       obtain ⟨_,⟨q1,q2,q3⟩,_,q4⟩:=heq
       subst q1 q2 q3 q4
       exact hE
      ·exact hE.elim
     obtain ⟨cf,cc,ca,v1,v2,v3,e2⟩:=hE'
     obtain ⟨g1,g2⟩:=hr.call _ _ _ _ _ hc n0 w0 ν w (cf++(ca++cc)) hst hG (v1.append (v3.append v2))
     obtain ⟨ν1,z,w1,fr2,k1,k2,k3,k4,k5,k6,k7,fn,k8,k9⟩:=g2 .deferred ({ fr with defers:=rr }::cs) (.inr ⟨rfl,_,_,rfl,hm⟩)
     have hinv:(invoke x.target x.args).run P w=.ok (.enter g ⟨cf++(ca++cc)⟩) w:=by
      rw [e2]
      have ea:((⟨cf++ca⟩:Array Value)++⟨cc⟩:Array Value)=⟨cf++(ca++cc)⟩:=by apply Array.ext';simp
      simp only [invoke,ea]
      exact g1
     have hs1:=step_defer (P:=P) (fr:=fr) (cs:=cs) (by rw [hm];simp) e1 (by rw [e2]) hinv
     have hs2:=step_going_returned (P:=P) (c:={ fr with defers:=rr }) (cs:=cs) (w:=w1) (v:=z) k4 ⟨k5,k6,fn,by rw [k7];exact k8,k9⟩
     have jP:({ ({ fr with defers:=rr }:Frame) with mode:=settle ({ fr with defers:=rr }:Frame).mode }:Frame)={ fr with defers:=rr }:=by
      cases fr;simp only at hm;subst hm;rfl
     rw [jP] at hs2
     obtain ⟨ν',w',q1,q2⟩:=h2 n0 w0 ν1 w1 { fr with defers:=rr } cs k1.st (hG.mono k1.le) (hL.mono k1.le) hm
     exact ⟨ν',w',k1.trans q1,.head hs1 (k3.trans (.head hs2 q2))⟩
    | pnc c' s1=>rw [hc] at hnb;exact absurd trivial hnb
    | bad m=>rw [hc] at hnb;exact absurd trivial hnb
    | alt x y=>rw [hc] at hnb;exact absurd trivial hnb
  | _=>exact absurd trivial hnb
def rv (tmps:Array Value):ResultVar→Sem Value
 | .tmp t=>pure (tmps.getD t Go.undef)
 | .cell a t=>do loadVar t (←asAddr (tmps.getD a Go.undef))
theorem zm4 {pc:PC} (hp:PcOk P pc) {fi:FI}:∀ (l:List ResultVar) (tm:T) (s:S) (c:List V→A),¬((ql pc fi l).run tm s c).isBad→∃ vs,c vs=(ql pc fi l).run tm s c∧∀ (ν:Val) (w:World) (tmps:Array Value),zcm P ν s w→FrR ν fi T.get tm tmps →
  ∃ ys,VRs ν vs ys∧(l.mapM (rv tmps)).run P w=.ok ys w
 | [],tm,s,c,_=>⟨[],rfl,fun ν w tmps _ _=>⟨[],rfl,by simp⟩⟩
 | .tmp t::l,tm,s,c,hnb=>by
  have e:(ql pc fi (.tmp t::l)).run tm s c=(geC (yc fi.ns t)).run tm fun v=>(ql pc fi l).run tm s fun l=>c (v::l):=rfl
  rw [e] at hnb ⊢
  obtain ⟨h1,h2,h3⟩:=zbt (zFo hnb)
  have hg:=zed hnb
  rw [←hg] at hnb ⊢
  obtain ⟨vs,h4,h5⟩:=zm4 hp l tm s _ hnb
  refine ⟨_,h4,fun ν w tmps hw hf=>?_⟩
  obtain ⟨ys,g1,g2⟩:=h5 ν w tmps hw hf
  refine ⟨tmps.getD t Go.undef::ys,⟨_,_,rfl,by rw [h3];exact hf.2 t h1 h2,g1⟩,?_⟩
  simp [List.mapM_cons,rv,g2]
 | .cell t ty::l,tm,s,c,hnb=>by
  have fin:∀ (ag:Bool) (sz:Nat) (u:TypeDesc),P.underlying ty=some u→zti u=ag→(ag=true→(P.info? ty).map (·.size)=some sz)→(ql pc fi (.cell t ty::l)).run tm s c=(geC (yc fi.ns t)).run tm (fun p=>zd ag sz p s fun v _=>(ql pc fi l).run tm s fun l=>c (v::l)) →
    ∃ vs,c vs=(ql pc fi (.cell t ty::l)).run tm s c∧∀ (ν:Val) (w:World) (tmps:Array Value),zcm P ν s w→FrR ν fi T.get tm tmps→∃ ys,VRs ν vs ys∧((ResultVar.cell t ty::l).mapM (rv tmps)).run P w=.ok ys w:=by
   intro ag sz u hu hag hi e
   rw [e] at hnb ⊢
   obtain ⟨h1,h2,h3⟩:=zbt (zFo hnb)
   have hg:=zed hnb
   rw [←hg] at hnb ⊢
   obtain ⟨v,h6,h7⟩:=zAq (P:=P) hnb
   rw [←h6] at hnb ⊢
   obtain ⟨vs,h4,h5⟩:=zm4 hp l tm s _ hnb
   refine ⟨_,h4,fun ν w tmps hw hf=>?_⟩
   obtain ⟨ys,g1,g2⟩:=h5 ν w tmps hw hf
   have hp:=hf.2 t h1 h2
   rw [←h3] at hp
   obtain ⟨a,q1,q2⟩:=h7 ν w _ hw hp
   obtain ⟨z,q3,q4⟩:=q2 ty u hu hag hi
   refine ⟨z::ys,⟨_,_,rfl,q3,g1⟩,?_⟩
   simp only [List.mapM_cons,rv,q1,asAddr,Sem.run_bind,Sem.run_pure,Result.andThen_ok,q4,g2]
  have e:(ql pc fi (.cell t ty::l))=(match ql pc fi l,geC (yc fi.ns t) with
   | ⟨g⟩,⟨f⟩=>pc.ag ty ⟨fun _ _ _=>.bad 0⟩ fun ag=>(match ag with
    | true=>pc.sz ty ⟨fun _ _ _=>.bad 0⟩ fun sz=>⟨fun tm s c=>f tm fun p=>zd true sz p s fun v _=>g tm s fun l=>c (v::l)⟩
    | false=>⟨fun tm s c=>f tm fun p=>zd false 1 p s fun v _=>g tm s fun l=>c (v::l)⟩)):=rfl
  rcases PC.ag_or pc ty (⟨fun _ _ _=>.bad 0⟩:ReC) (fun ag=>(match ag with
    | true=>pc.sz ty ⟨fun _ _ _=>.bad 0⟩ fun sz=>⟨fun tm s c=>(geC (yc fi.ns t)).run tm fun p=>zd true sz p s fun v _=>(ql pc fi l).run tm s fun l=>c (v::l)⟩
    | false=>⟨fun tm s c=>(geC (yc fi.ns t)).run tm fun p=>zd false 1 p s fun v _=>(ql pc fi l).run tm s fun l=>c (v::l)⟩)) with h | ⟨u,hu,h⟩
  ·have e2:=e.trans h
   rw [e2] at hnb;exact absurd trivial hnb
  ·have e2:=e.trans h
   cases hag:zti u with
   | true =>
    rw [hag] at e2
    simp only at e2
    rcases PC.sz_or pc ty (⟨fun _ _ _=>.bad 0⟩:ReC) (fun sz=>⟨fun tm s c=>(geC (yc fi.ns t)).run tm fun p=>zd true sz p s fun v _=>(ql pc fi l).run tm s fun l=>c (v::l)⟩) with h | ⟨i,hi,h⟩
    ·have e3:=e2.trans h
     rw [e3] at hnb;exact absurd trivial hnb
    ·have e3:=e2.trans h
     exact fin true i.size u (hp.und hu) hag (fun _=>by rw [hp.info _ _ hi];rfl) (by rw [e3])
   | false =>
    rw [hag] at e2
    exact fin false 1 u (hp.und hu) hag (fun h=>by cases h) (by rw [e2])
theorem zle {fn:Func} {tmps:Array Value} {w:World} {ys:List Value} (h:(fn.results.toList.mapM (rv tmps)).run P w=.ok ys w):(results fn tmps).run P w=.ok (match (generalizing:=false) ys with | [y]=>y | _=>.tuple ⟨ys⟩) w:=by
 have hm:(fn.results.mapM (rv tmps)).run P w=.ok ⟨ys⟩ w:=by
  rw [Array.mapM_eq_mapM_toList]
  simp [h]
 have e:results fn tmps=(do let vs ←fn.results.mapM (rv tmps);pure (if h:vs.size=1 then vs[0] else .tuple vs)):=rfl
 rw [e]
 simp only [Sem.run_bind,hm,Result.andThen_ok,Sem.run_pure]
 match ys with
 | []=>rfl
 | [y]=>rfl
 | y::z::r=>rfl
theorem zGi {l:List V} {s:S}:∃ v,yp l s=.fin v s∧∀ (ν:Val) (ys:List Value),VRs ν l ys→VR ν v (match ys with | [y]=>y | _=>.tuple ⟨ys⟩):=by
 match l with
 | []=>exact ⟨_,rfl,fun ν ys h=>by simp only [VRs] at h;subst h;exact VR.undef⟩
 | [v]=>exact ⟨_,rfl,fun ν ys h=>by
   obtain ⟨x,r,e,h1,h2⟩:=h
   simp only [VRs] at h2
   subst e h2
   exact h1⟩
 | v::w::r=>exact ⟨_,rfl,fun ν ys h=>by
   obtain ⟨x,r',e,h1,y,r'',e2,h2,h3⟩:=h
   subst e e2
   exact ⟨_,⟨x,_,rfl,h1,y,_,rfl,h2,h3⟩,rfl⟩⟩
theorem zOE (i:Nat):T.get T.new i=.bad:=by
 have h:∀ {α:Type} (x:α) (i:Nat) (y:α),N.get (.mk x x x x x x x x x x x x x x x x:N α) i=some y→y=x:=by
  intro α x i y h
  rcases i with _ | _ | _ | _ | _ | _ | _ | _ | _ | _ | _ | _ | _ | _ | _ | _ | i
  all_goals first
   | (simp [N.get] at h;exact h.symm)
   | (simp [N.get] at h)
 unfold T.get
 cases h1:N.get T.new (i / 16) with
 | none=>rfl
 | some u =>
  have hu:u=zpN .bad:=h _ _ _ h1
  subst hu
  simp only [Option.bind_some]
  cases h2:N.get (zpN V.bad) (i % 16) with
  | none=>rfl
  | some v =>
   have hv:v=.bad:=h _ _ _ h2
   rw [hv];rfl
theorem zgH {fi:FI}:∀ (args:List V) (n:Nat) (t:T) (c:T→A),¬(jZ fi args n t c).isBad→∃ tm,c tm=jZ fi args n t c∧(args=[]∨n+args.length≤fi.nt)∧T.get tm 240=T.get t 240 ∧
  ∀ (ν:Val) (A:Array Value) (cargs:List Value),VRs ν args cargs→(∀ j y,cargs[j]?=some y→A.getD (n+j) Go.undef=y)→(∀ t',yE fi.ns t'=false→yM fi.ns t'<240→VR ν (T.get t (yM fi.ns t')) (A.getD t' Go.undef)) →
   ∀ t',yE fi.ns t'=false→yM fi.ns t'<240→VR ν (T.get tm (yM fi.ns t')) (A.getD t' Go.undef)
 | [],n,t,c,_=>⟨t,rfl,.inl rfl,rfl,fun ν A cargs _ _ h=>h⟩
 | v::args,n,t,c,hnb=>by
  have e:jZ fi (v::args) n t c=@Bool.rec (fun _=>A) eA ((puC (yc fi.ns n)).run v t (fun t=>fN (Nat.succ n) fun n=>jZ fi args n t c)) (zq (zat (yE fi.ns n)) (Nat.blt n fi.nt)):=rfl
  rw [e] at hnb ⊢
  cases hc:zq (zat (yE fi.ns n)) (Nat.blt n fi.nt) with
  | false=>rw [hc] at hnb;exact absurd trivial hnb
  | true =>
   obtain ⟨h1,h2⟩:=zh hc
   have hns:yE fi.ns n=false:=by cases h:yE fi.ns n with | false=>rfl | true=>rw [h] at h1;cases h1
   have hlt:n<fi.nt:=by simpa [Nat.blt_eq] using h2
   simp only [hc,zH] at hnb ⊢
   obtain ⟨_,h4,h5⟩:=zbt (zzb hnb)
   obtain ⟨t1,h6,h7⟩:=ze3 hnb
   rw [←h6] at hnb ⊢
   rw [h5] at h7
   obtain ⟨tm,g1,g2,g3,g4⟩:=zgH args (n+1) t1 c hnb
   refine ⟨tm,g1,.inr ?_,by rw [g3,h7,if_neg (by omega)],fun ν A cargs hv hA ht=>?_⟩
   ·rcases g2 with g2 | g2
    ·subst g2;simp;omega
    ·simp;omega
   ·obtain ⟨x,r,e1,hv1,hv2⟩:=hv
    subst e1
    refine g4 ν A r hv2 (fun j y hy=>?_) (fun t' q1 q2=>?_)
    ·have:=hA (j+1) y (by simpa using hy)
     rw [show n+1+j=n+(j+1) by omega];exact this
    ·rw [h7]
     by_cases htn:t'=n
     ·subst htn
      rw [if_pos rfl]
      have:=hA 0 x rfl
      rw [Nat.add_zero] at this
      rw [this];exact hv1
     ·rw [if_neg (fun e=>htn (ziM q1 hns e))]
      exact ht t' q1 q2
theorem zMU {pc:PC} (hp:PcOk P pc) {fi:FI} {l:List ResultVar} {tm:T} {s:S} (hnb:¬(yi (ql pc fi l).run tm s).isBad):T.get tm 240=.bad∧∃ v,yi (ql pc fi l).run tm s=.fin v s∧∀ (ν:Val) (w:World) (tmps:Array Value),zcm P ν s w→FrR ν fi T.get tm tmps →
  ∃ ys,(l.mapM (rv tmps)).run P w=.ok ys w∧VR ν v (match ys with | [y]=>y | _=>.tuple ⟨ys⟩):=by
 unfold yi at hnb ⊢
 have hg:=zed hnb
 rw [←hg] at hnb ⊢
 cases hv:T.get tm 240 with
 | bad =>
  rw [hv] at hnb
  simp only at hnb ⊢
  obtain ⟨vs,h1,h2⟩:=zm4 hp l tm s _ hnb
  obtain ⟨v,h3,h4⟩:=zGi (l:=vs) (s:=s)
  refine ⟨trivial,v,by rw [←h1];exact h3,fun ν w tmps hw hf=>?_⟩
  obtain ⟨ys,g1,g2⟩:=h2 ν w tmps hw hf
  exact ⟨ys,g2,h4 ν ys g1⟩
 | _=>rw [hv] at hnb;exact absurd trivial hnb
theorem zML {pc:PC} (hp:PcOk P pc) {r:R} (hr:RS P pc r) {fi:FI} {l:List ResultVar} {tm:T} {s:S} (hnb:¬(zta (ql pc fi l).run r tm s).isBad):∃ v s',zta (ql pc fi l).run r tm s=.fin v s' ∧
  ∀ n0 w0 ν w (fr:Frame) cs,St P n0 w0 ν s w→yq ν P.globals.size→DfR ν (T.get tm 240) fr.defers→FrR ν fi T.get tm fr.tmps→fr.mode=.returning →
   ∃ ν' w',Out P n0 w0 ν s ν' s' w'∧Steps P (lone fr cs w) (lone { fr with defers:=[] } cs w')∧∃ ys,(l.mapM (rv fr.tmps)).run P w'=.ok ys w'∧VR ν' v (match ys with | [y]=>y | _=>.tuple ⟨ys⟩):=by
 unfold zta at hnb ⊢
 have hg:=zed hnb
 rw [←hg] at hnb ⊢
 cases hv:T.get tm 240 with
 | ls t dl =>
  rw [hv] at hnb
  simp only at hnb ⊢
  obtain ⟨s',h1,h2⟩:=zcT hr dl s _ hnb
  rw [←h1] at hnb ⊢
  obtain ⟨vs,h3,h4⟩:=zm4 hp l tm s' _ hnb
  obtain ⟨v,h5,h6⟩:=zGi (l:=vs) (s:=s')
  refine ⟨v,s',by rw [←h3];exact h5,fun n0 w0 ν w fr cs hst hG hdf hf hm=>?_⟩
  obtain ⟨ν',w',k1,k2⟩:=h2 n0 w0 ν w fr cs hst hG hdf hm
  obtain ⟨ys,g1,g2⟩:=h4 ν' w' fr.tmps k1.st.rows (hf.mono k1.le)
  exact ⟨ν',w',k1,k2,ys,g2,h6 ν' ys g1⟩
 | _=>rw [hv] at hnb;exact absurd trivial hnb
theorem zzv {pc:PC} (hp:PcOk P pc) {r:R} (hr:RS P pc r) (hh:∀ h∈pc.hooks,jR P h) {f:Nat} {args:List V} {s:S} (hnb:¬((fnC pc f).run r args s).isBad):wW P f args s ((fnC pc f).run r args s):=by
 unfold fnC at hnb ⊢
 cases hf:pc.func f with
 | none=>rw [hf] at hnb;exact absurd trivial hnb
 | some fn =>
  rw [hf] at hnb
  simp only at hnb ⊢
  cases hb:fn.body with
  | none=>rw [hb] at hnb;exact absurd trivial hnb
  | some c =>
   rw [hb] at hnb
   simp only [zH] at hnb ⊢
   have hfn:=hp.func f fn hf
   have hname:=hp.names f fn hfn (by rw [hb];rfl)
   generalize hfi:(⟨pc.nsOf f,fn.ntmps,pc.ng⟩:FI)=fi at hnb ⊢
   have hng:fi.ng≤P.globals.size:=by rw [←hfi];exact hp.ng
   have hnt:fi.nt=fn.ntmps:=by rw [←hfi]
   have enter:∀ (cargs:List Value) w,(callFunc f ⟨cargs⟩).run P w=.ok (.enter f ⟨cargs⟩) w:=by
    intro cargs w
    have hn2 : (fn.name == "runtime.NumGoroutine") = false := by
     cases hx : (fn.name == "runtime.NumGoroutine") with
     | false=>rfl
     | true=>exact absurd (eq_of_beq hx) hname
    have hn3 : fn.name ≠ "runtime.NumGoroutine" := hname
    simp [callFunc,hfn,hn3,hb]
   have henter:∀ (cargs:List Value) kind,Frame.enter P f ⟨cargs⟩ kind=(⟨f,kind,none⟩:Base).fr (⟨cargs⟩++Array.replicate (fn.ntmps - cargs.length) Go.undef) [] [.code c]:=by
    intro cargs kind
    simp [Frame.enter,Base.fr,hfn,hb]
   -- the first frame
   have first:∀ (tm0:T) (ν:Val) (cargs:List Value),VRs ν args cargs→(args=[]∨0+args.length≤fi.nt)→(∀ (ν:Val) (A:Array Value) (cargs:List Value),VRs ν args cargs→(∀ j y,cargs[j]?=some y→A.getD (0+j) Go.undef=y)→(∀ t',yE fi.ns t'=false→yM fi.ns t'<240→VR ν (T.get T.new (yM fi.ns t')) (A.getD t' Go.undef)) →
     ∀ t',yE fi.ns t'=false→yM fi.ns t'<240→VR ν (T.get tm0 (yM fi.ns t')) (A.getD t' Go.undef))→FrR ν fi T.get tm0 (⟨cargs⟩++Array.replicate (fn.ntmps - cargs.length) Go.undef):=by
    intro tm0 ν cargs hv hlen ha
    have hcl:=hv.length
    refine ⟨?_,ha ν _ cargs hv (fun j y hy=>?_) (fun t' _ _=>by rw [zOE];trivial)⟩
    ·rw [hnt]
     have:cargs.length≤fn.ntmps:=by
      rcases hlen with h | h
      ·subst h;simp at hcl;rw [hcl];exact Nat.zero_le _
      ·omega
     simp;omega
    ·have hj:=(kad.1 hy).1
     rw [kaF,Array.getD_eq_getD_getElem?,Array.getElem?_append_left (by simpa using hj)]
     have:(⟨cargs⟩:Array Value)[j]?=some y:=by simpa using hy
     rw [this];rfl
   cases hd:(zeX c || wa c) with
   | false =>
    rw [hd] at hnb
    simp only at hnb ⊢
    have hnb1:¬(jZ fi args 0 T.new fun tm=>z7 (fun tm s=>yi (ql pc fi fn.results.toList).run tm s) ((zl pc fi c).run r tm s)).isBad:=fun q=>hnb (jW q)
    obtain ⟨tm0,a1,a2,a3,a4⟩:=zgH args 0 T.new _ hnb1
    have goal_:qk (jZ fi args 0 T.new fun tm=>z7 (fun tm s=>yi (ql pc fi fn.results.toList).run tm s) ((zl pc fi c).run r tm s))=qk (z7 (fun tm s=>yi (ql pc fi fn.results.toList).run tm s) ((zl pc fi c).run r tm0 s)):=by rw [←a1]
    have hnb2:¬(qk (z7 (fun tm s=>yi (ql pc fi fn.results.toList).run tm s) ((zl pc fi c).run r tm0 s))).isBad:=by rw [←goal_];exact hnb
    show wW P f args s (qk (jZ fi args 0 T.new fun tm=>z7 (fun tm s=>yi (ql pc fi fn.results.toList).run tm s) ((zl pc fi c).run r tm s)))
    rw [goal_]
    have hX:=wK hp hr hh c tm0 s (fun q=>hnb2 (jW (zjk q)))
    intro n0 w0 ν w cargs hst hG hv
    refine ⟨enter cargs w,fun kind cs hcalm=>?_⟩
    have start:qW P n0 w0 fi ν s ⟨f,kind,none⟩ cs (lone (Frame.enter P f ⟨cargs⟩ kind) cs w) [] ((zl pc fi c).run r tm0 s):=by
     rw [henter]
     exact hX n0 w0 ν w _ [] ⟨f,kind,none⟩ cs [] hng hst hG (first tm0 ν cargs hv a2 a4) ⟨hcalm,by rw [a3,zOE];rfl,fun _ _ _=>rfl⟩
    refine znq (fun tm1 s1 hnb3 harr=>?_) hnb2 start
    obtain ⟨q1,v2,q2,q3⟩:=zMU hp (l:=fn.results.toList) (tm:=tm1) (s:=s1) hnb3
    rw [q2]
    have done:∀ (ν':Val) (w':World) (tmps':Array Value) (df':List Deferred) (fr:Frame),Out P n0 w0 ν s ν' s1 w'→FrR ν' fi T.get tm1 tmps'→Env ν' ⟨f,kind,none⟩ cs tm1 df'→Steps P (lone (Frame.enter P f ⟨cargs⟩ kind) cs w) (lone fr cs w')→fr.tmps=tmps'→fr.defers=df'→fr.mode=.returning→fr.kind=kind→fr.fn=f →
      ∃ ν' y w' fr,Out P n0 w0 ν s ν' s1 w'∧VR ν' v2 y∧Steps P (lone (Frame.enter P f ⟨cargs⟩ kind) cs w) (lone fr cs w')∧fr.kind=kind∧fr.mode=.returning∧fr.defers=[]∧fr.fn=f∧∃ fn,P.funcs[f]?=some fn∧(results fn fr.tmps).run P w'=.ok y w':=by
     intro ν' w' tmps' df' fr g1 g2 g3 g4 g5 g6 g7 g8 g9
     obtain ⟨ys,y1,y2⟩:=q3 ν' w' tmps' g1.st.rows g2
     have hdf:=g3.df
     rw [q1] at hdf
     have hdf:df'=[]:=hdf
     exact ⟨ν',_,w',fr,g1,y2,g4,g8,g7,by rw [g6,hdf],g9,fn,hfn,zle (g5▸y1)⟩
    rcases harr with ⟨ν',w',tmps',df',g1,g2,g3,g4⟩ | ⟨ν',w',tmps',df',todo,g1,g2,g3,g4⟩
    ·exact done ν' w' tmps' df' _ g1 g2 g3 (g4.trans (.one (zKW rfl))) rfl rfl rfl rfl rfl
    ·exact done ν' w' tmps' df' _ g1 g2 g3 (g4.trans (.one (zKA rfl))) rfl rfl rfl rfl rfl
   | true =>
    rw [hd] at hnb
    simp only at hnb ⊢
    have hnb1:¬(jZ fi args 0 T.new fun tm=>(puC 240).run (.ls 1 []) tm fun tm=>zcQ (fun tm s=>zta (ql pc fi fn.results.toList).run r tm s) ((zl pc fi c).run r tm s)).isBad:=fun q=>hnb (jW q)
    obtain ⟨tm00,a1,a2,a3,a4⟩:=zgH args 0 T.new _ hnb1
    have hnb1':¬((puC 240).run (.ls 1 []) tm00 fun tm=>zcQ (fun tm s=>zta (ql pc fi fn.results.toList).run r tm s) ((zl pc fi c).run r tm s)).isBad:=by rw [a1];exact hnb1
    obtain ⟨tm0,b1,b2⟩:=ze3 hnb1'
    have goal_:qk (jZ fi args 0 T.new fun tm=>(puC 240).run (.ls 1 []) tm fun tm=>zcQ (fun tm s=>zta (ql pc fi fn.results.toList).run r tm s) ((zl pc fi c).run r tm s))=qk (zcQ (fun tm s=>zta (ql pc fi fn.results.toList).run r tm s) ((zl pc fi c).run r tm0 s)):=by rw [←a1,←b1]
    have hnb2:¬(qk (zcQ (fun tm s=>zta (ql pc fi fn.results.toList).run r tm s) ((zl pc fi c).run r tm0 s))).isBad:=by rw [←goal_];exact hnb
    show wW P f args s (qk (jZ fi args 0 T.new fun tm=>(puC 240).run (.ls 1 []) tm fun tm=>zcQ (fun tm s=>zta (ql pc fi fn.results.toList).run r tm s) ((zl pc fi c).run r tm s)))
    rw [goal_]
    have hX:=wK hp hr hh c tm0 s (fun q=>hnb2 (jW (zjN q)))
    intro n0 w0 ν w cargs hst hG hv
    refine ⟨enter cargs w,fun kind cs hcalm=>?_⟩
    have start:qW P n0 w0 fi ν s ⟨f,kind,none⟩ cs (lone (Frame.enter P f ⟨cargs⟩ kind) cs w) [] ((zl pc fi c).run r tm0 s):=by
     rw [henter]
     have hf0:=first tm00 ν cargs hv a2 a4
     exact hX n0 w0 ν w _ [] ⟨f,kind,none⟩ cs [] hng hst hG ⟨hf0.1,fun t g1 g2=>by rw [b2,if_neg (by omega)];exact hf0.2 t g1 g2⟩ ⟨hcalm,by rw [b2,if_pos rfl];rfl,fun _ _ _=>rfl⟩
    refine zpS (fun tm1 s1 hnb3 harr=>?_) hnb2 start
    obtain ⟨v2,s2,q2,q3⟩:=zML hp hr (l:=fn.results.toList) (tm:=tm1) (s:=s1) hnb3
    rw [q2]
    have done:∀ (ν':Val) (w':World) (tmps':Array Value) (df':List Deferred) (fr:Frame),Out P n0 w0 ν s ν' s1 w'→FrR ν' fi T.get tm1 tmps'→Env ν' ⟨f,kind,none⟩ cs tm1 df'→Steps P (lone (Frame.enter P f ⟨cargs⟩ kind) cs w) (lone fr cs w')→fr.tmps=tmps'→fr.defers=df'→fr.mode=.returning→fr.kind=kind→fr.fn=f →
      ∃ ν' y w' fr,Out P n0 w0 ν s ν' s2 w'∧VR ν' v2 y∧Steps P (lone (Frame.enter P f ⟨cargs⟩ kind) cs w) (lone fr cs w')∧fr.kind=kind∧fr.mode=.returning∧fr.defers=[]∧fr.fn=f∧∃ fn,P.funcs[f]?=some fn∧(results fn fr.tmps).run P w'=.ok y w':=by
     intro ν' w' tmps' df' fr g1 g2 g3 g4 g5 g6 g7 g8 g9
     obtain ⟨ν2,w2,k1,k2,ys,y1,y2⟩:=q3 n0 w0 ν' w' fr cs g1.st (hG.mono g1.le) (by rw [g6];exact g3.df) (by rw [g5];exact g2) g7
     exact ⟨ν2,_,w2,{ fr with defers:=[] },g1.trans k1,y2,g4.trans k2,g8,g7,rfl,g9,fn,hfn,zle y1⟩
    rcases harr with ⟨ν',w',tmps',df',g1,g2,g3,g4⟩ | ⟨ν',w',tmps',df',todo,g1,g2,g3,g4⟩
    ·exact done ν' w' tmps' df' _ g1 g2 g3 (g4.trans (.one (zKW rfl))) rfl rfl rfl rfl rfl
    ·exact done ν' w' tmps' df' _ g1 g2 g3 (g4.trans (.one (zKA rfl))) rfl rfl rfl rfl rfl
theorem zI6 {pc:PC} (hp:PcOk P pc) {r:R} (hr:RS P pc r) (hh:∀ h∈pc.hooks,jR P h) {f:Nat} {args:List V} {s:S} (hnb:¬((zzo pc f (fnC pc f)).run r args s).isBad):wW P f args s ((zzo pc f (fnC pc f)).run r args s):=by
 unfold zzo at hnb ⊢
 cases hm:zIn f pc.mg with
 | false =>
  rw [hm] at hnb
  simp only at hnb ⊢
  exact zzv hp hr hh hnb
 | true =>
  rw [hm] at hnb
  have e:(match true,fnC pc f with | true,⟨g⟩=>(⟨fun r args s=>zdI (g r args s)⟩:FnC) | false,g=>g).run r args s=zdI ((fnC pc f).run r args s):=rfl
  rw [e] at hnb ⊢
  have h:=zzv hp hr hh (fun q=>hnb (zjs q))
  intro n0 w0 ν w cargs hst hG hv
  obtain ⟨h1,h2⟩:=h n0 w0 ν w cargs hst hG hv
  refine ⟨h1,fun kind cs hcalm=>znz (fun v s1 v' s2 ⟨ν',y,w',fr,g1,g2,g3⟩ hv hw=>⟨ν',y,w',fr,g1.wk hw,?_,g3⟩) hnb (h2 kind cs hcalm)⟩
  rcases hv with hv | hv
  ·rw [hv];exact g2
  ·rw [hv];trivial
theorem zFc {pc:PC} (hp:PcOk P pc) (hh:∀ h∈pc.hooks,jR P h):∀ n,RS P pc (run pc n)
 | 0=>⟨fun _ _ _ _ hnb=>absurd trivial hnb,fun _ _ _ hnb=>absurd trivial hnb⟩
 | n+1=>⟨fun _ c tm s hnb=>wK hp (zFc hp hh n) hh c tm s hnb,fun _ _ _ hnb=>zI6 hp (zFc hp hh n) hh hnb⟩
def start (G:Nat):S:=⟨.lf,js 24 (G+1)⟩
def ztS (G:Nat):Bool:=(List.range G).all fun g=>Nat.blt (js 24 (g+1)).toNat (js 24 (G+1)).toNat && (List.range G).all fun j=>Nat.beq g j || !(Nat.beq (js 24 (g+1)).toNat (js 24 (j+1)).toNat)
theorem zLU {G g:Nat} (h:ztS G=true) (hg:g<G):(js 24 (g+1)).toNat<(js 24 (G+1)).toNat:=by
 unfold ztS at h
 rw [kaD] at h
 have:=h g (List.mem_range.2 hg)
 rw [kas] at this
 have h1:=this.1
 exact kaM h1
theorem zJh {G g j:Nat} (h:ztS G=true) (hg:g<G) (hj:j<G) (e:js 24 (g+1)=js 24 (j+1)):g=j:=by
 unfold ztS at h
 rw [kaD] at h
 have:=h g (List.mem_range.2 hg)
 rw [kas] at this
 have h2:=(kaD.1 this.2) j (List.mem_range.2 hj)
 rw [e] at h2
 rcases (Bool.or_eq_true _ _).mp h2 with h3 | h3
 ·exact kaa h3
 ·simp at h3
open Classical in
noncomputable def zMZ (G:Nat):Val :=
 { blk:=fun a v=>if h:∃ g,g<G∧a=js 24 (g+1)∧v=0 then some (h.choose,0) else none,cap:=fun _ _=>0,sz:=fun _=>0 }
theorem zKw {G:Nat} (hg:ztS G=true) (w:World):St P w.heap.size w (zMZ G) (start G) w∧yq (zMZ G) G:=by
 have none_:∀ a,Tr.get B.none a (start G).h=.none:=fun a=>by cases a<;>rfl
 refine ⟨⟨Below.refl _ _,kab _,fun a=>?_,fun a ha=>⟨fun v=>?_,none_ a⟩,fun a v b δ a' v' δ' _ _ hl _=>?_,fun a v b δ _ hl=>?_⟩,fun g h=>?_⟩
 ·rw [none_];trivial
 ·unfold zMZ
  simp only
  rw [dif_neg]
  rintro ⟨g,h1,h2,_⟩
  have:=zLU hg h1
  rw [←h2] at this
  have:(start G).nx.toNat≤a.toNat:=ha
  have e:(start G).nx=js 24 (G+1):=rfl
  rw [e] at this
  omega
 ·rw [none_] at hl;exact hl.elim
 ·rw [none_] at hl;exact hl.elim
 ·have hx:∃ g',g'<G∧js 24 (g+1)=js 24 (g'+1)∧(0:Nat)=0:=⟨g,h,rfl,rfl⟩
  show (if h:∃ g',g'<G∧js 24 (g+1)=js 24 (g'+1)∧(0:Nat)=0 then some (h.choose,0) else none:Option (Nat × Nat))=_
  rw [dif_pos hx]
  have:=hx.choose_spec
  rw [zJh hg this.1 h this.2.1.symm]
end Go.Ev
