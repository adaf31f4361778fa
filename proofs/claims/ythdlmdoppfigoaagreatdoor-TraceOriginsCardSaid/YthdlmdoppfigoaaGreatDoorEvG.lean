/- What a program must show by closed tests for the evaluator to be right on it; the tests of a cut call. No statement of the seat stands here. No condition. By an AI agent. -/
import Derived.Test.YthdlmdoppfigoaaGreatDoorEvF
import Derived.KernelRfl
namespace Go.Ev
open Go.RowKit
variable {P:Program}
theorem zfT : ∀ f m : Nat, 1 ≤ m → m < 2 ^ (f + 1) → (yZ f m).toNat = m := by
  intro f
  induction f with
  | zero => intro m I J; simp at J; obtain rfl : m = 1 := by omega
            rfl
  | succ f X =>
    intro m I J
    rw [yZ]
    have Z : 2 ^ (f + 1 + 1) = 2 * 2 ^ (f + 1) := by rw [Nat.pow_succ, Nat.mul_comm]
    by_cases h : m ≤ 1
    · obtain rfl : m = 1 := by omega
      rw [if_pos (by omega)]; rfl
    · rw [if_neg h]
      have := X (m / 2) (by omega) (by omega)
      split
      · show 2 * (yZ f (m / 2)).toNat = m
        omega
      · show 2 * (yZ f (m / 2)).toNat + 1 = m
        omega
theorem zrW:∀ f m:Nat,2 ^ f≤m→2 ^ f≤(yZ f m).toNat:=by
 intro f
 induction f with
 | zero=>intro m h;exact K.toNat_pos _
 | succ f X =>
  intro m h
  have Z:2 ^ (f+1)=2*2 ^ f:=by rw [Nat.pow_succ,Nat.mul_comm]
  have h0:0<2 ^ f:=Nat.two_pow_pos f
  rw [yZ,if_neg (by omega)]
  have:=X (m / 2) (by omega)
  split
  ·show _≤2*(yZ f (m / 2)).toNat
   omega
  ·show _≤2*(yZ f (m / 2)).toNat+1
   omega
theorem zys {m n:Nat} (Y:m+4<2 ^ 24) (e:yZ 24 (n+4)=yZ 24 (m+4)):n=m:=by
 have I:=zfT 24 (m+4) (by omega) (by omega)
 by_cases o:n+4<2 ^ 25
 ·have J:=zfT 24 (n+4) (by omega) o
  rw [e] at J;omega
 ·have J:=zrW 24 (n+4) (by omega)
  rw [e] at J;omega
theorem zhs {α β:Type} (l:List α) (f:l.length+4<2 ^ 24) (c:Tr (Option α)→β):∃ t,zfJ l c=c t∧∀ j x,Tr.get none (yZ 24 (j+4)) t=some x→l[j]?=some x:=by
 have key:∀ (q done:List α) (t:Tr (Option α)),l=done++q→(∀ j x,Tr.get none (yZ 24 (j+4)) t=some x→l[j]?=some x) →
   ∃ a,List.rec (motive:=fun _=>Nat→Tr (Option α)→β) (fun _ t=>c t) (fun x _ X n t=>zgm n fun k=>t.setK none k (some x) fun t=>fN (Nat.succ n) fun n=>X n t) q done.length t=c a ∧
    ∀ j x,Tr.get none (yZ 24 (j+4)) a=some x→l[j]?=some x:=by
  intro q
  induction q with
  | nil=>intro done t _ H;exact ⟨t,rfl,H⟩
  | cons x q X =>
   intro done t u H
   obtain ⟨a,I,J⟩:=X (done++[x]) (Tr.set none (some x) (yZ 24 (done.length+4)) t) (by rw [u];simp) (fun j y Y=>by
    rw [get_set] at Y
    split at Y
    ·rename_i e
     have:=zys (m:=done.length) (n:=j) (by rw [u] at f;simp at f;omega) e
     subst this
     rw [u];simpa using Y
    ·exact H j y Y)
   refine ⟨a,?_,J⟩
   show zgm done.length _=_
   rw [zgm,zi8,zow,zE]
   rw [←I];simp
 exact key l [] .lf rfl (fun j x h=>by rw [zj6] at h;cases h)
def zrT (P:Program) (t:TypeId) (q:Nat):Bool:=match P.underlying t with
 | some .bool=>Nat.beq q 0
 | some (.int _)=>Nat.beq q 7
 | some .string=>Nat.beq q 8
 | _=>false
theorem zgc {t:TypeId} {q:Nat} (h:zrT P t q=true):QTy P t q:=by
 unfold zrT at h
 cases hu:P.underlying t with
 | none=>rw [hu] at h;cases h
 | some d =>
  rw [hu] at h
  cases d with
  | bool=>exact .inl ⟨kac h,hu⟩
  | int k=>exact .inr (.inl ⟨kac h,k,hu⟩)
  | string=>exact .inr (.inr ⟨kac h,hu⟩)
  | _=>cases h
def zi0 (P:Program):Nat→List Field→List Nat→Bool
 | _,[],[]=>true
 | n, f :: A, q :: qs => !(f.name == "_") && Nat.beq f.offset n && zrT P f.type q && zi0 P (n + 1) A qs
 | _,_,_=>false
theorem zjs:∀ (A:List Field) (n:Nat) (qs:List Nat),zi0 P n A qs=true→yL P n A qs
 | [],n,[],_=>trivial
 | f::A,n,q::qs,h=>by
  simp only [zi0,kaf,Bool.not_eq_true'] at h
  obtain ⟨⟨⟨I,J⟩,Q⟩,K⟩:=h
  exact ⟨fun e=>by rw [e] at I;simp at I,kac J,zgc Q,zjs A _ qs K⟩
 | [],_,_::_,h=>by cases h
 | _::_,_,[],h=>by cases h
def zDF (P:Program) (l:List (Nat × List Nat)):Bool:=l.all fun p=>!(P.eqGuardType P.depth p.1) && match P.underlying p.1 with
 | some (.struct A)=>!(P.stoodInHeld p.1) && zi0 P 0 A.toList p.2
 | some (.array n e)=>(match P.info? e,p.2 with
  | some i,[]=>Nat.beq i.size 1 && Nat.beq n 0 && (zrT P e 0 || zrT P e 7 || zrT P e 8)
  | some i,q::qs=>Nat.beq i.size 1 && Nat.beq n (qs.length+1) && zrT P e q && qs.all fun r=>Nat.beq r q
  | none,_=>false)
 | _=>false
def zdk:Nat→String
 | 0 => "internal/abi.NoEscape"
 | 1 => "internal/bytealg.IndexByteString"
 | _ => "internal/bytealg.abigen_runtime_cmpstring"
def zD0 (P:Program) (l:List (Nat × Nat)):Bool:=l.all fun p=>match p.2,P.funcs[p.1]? with
 | 0,_=>true
 | e+1,some fn=>Nat.blt e 3 && fn.body.isNone && (fn.name == zdk e) && (Extern.allNextRows.lookup fn.origin).isNone
 | _,none=>false
theorem zxs {fn:Func} {e:Nat} (z:e<3) (o:fn.name=zdk e) (C:(Extern.allNextRows.lookup fn.origin).isNone=true):Extern.findNext fn=none∧∃ g,zvn e=some g∧Extern.find fn=some g:=by
 have A:Extern.allNextRows.lookup fn.origin=none:=by simpa using C
 have I:Extern.allNextRows.lookup (zdk e)=none:=by
  rcases e with _ | _ | _ | e
  ·kernel_rfl
  ·kernel_rfl
  ·kernel_rfl
  ·omega
 have J:Extern.allGenericRows.lookup (zdk e)=none:=by
  rcases e with _ | _ | _ | e
  ·kernel_rfl
  ·kernel_rfl
  ·kernel_rfl
  ·omega
 have Q:Extern.allTypedRows.lookup (zdk e)=none:=by
  rcases e with _ | _ | _ | e
  ·kernel_rfl
  ·kernel_rfl
  ·kernel_rfl
  ·omega
 have K:∃ g,zvn e=some g∧Extern.allRows.lookup (zdk e)=some g:=by
  rcases e with _ | _ | _ | e
  ·exact ⟨_,rfl,by kernel_rfl⟩
  ·exact ⟨_,rfl,by kernel_rfl⟩
  ·exact ⟨_,rfl,by kernel_rfl⟩
  ·omega
 obtain ⟨g,R,U⟩:=K
 refine ⟨?_,g,R,?_⟩
 ·unfold Extern.findNext
  simp only [o,I,A,Option.map_none]
  rfl
 ·unfold Extern.find
  simp only [o,J,Q,U,Option.map_none]
  rfl
theorem zmG {f:Nat}:∀ {l:List (Nat × Nat)} {e:Nat},zm3 f l=e+1→(f,e+1)∈l
 | [],e,h=>by cases h
 | (g,c)::l,e,h=>by
  unfold zm3 at h
  cases hb:Nat.beq f g with
  | true =>
   rw [hb] at h
   simp only at h
   have:=kac hb
   subst this
   rw [h]
   exact List.mem_cons_self
  | false =>
   rw [hb] at h
   exact kaC _ (zmG h)
theorem zih {t:Nat}:∀ {l:List (Nat × List Nat)} {qs},zbG t l=some qs→(t,qs)∈l
 | [],_,h=>by cases h
 | (u,q)::l,qs,h=>by
  unfold zbG at h
  cases hb:Nat.beq t u with
  | true =>
   rw [hb] at h
   cases h
   obtain rfl:=kac hb
   exact List.mem_cons_self
  | false=>rw [hb] at h;exact kaC _ (zih h)
def zwS (P : Program) : Bool := P.funcs.toList.all fun fn => fn.body.isNone || !(fn.name == "runtime.NumGoroutine")
theorem zz7 {ns:List Nat} {ext:List (Nat × Nat)} {eqs:List (Nat × List Nat)} (I:(Nat.blt (P.types.size+4) (2 ^ 24) && Nat.blt (P.funcs.size+4) (2 ^ 24))=true) (Q:zwS P=true) (K:zDF P eqs=true) (W:zD0 P ext=true) (o:Nat.blt (ns.length+4) (2 ^ 24)=true) :
  PcOk P (PC.of P ns ext eqs):=by
 rw [kaf] at I
 have a1:P.types.toList.length+4<2 ^ 24:=kaJ I.1
 have a2:P.funcs.toList.length+4<2 ^ 24:=kaJ I.2
 have a3:ns.length+4<2 ^ 24:=kaJ o
 unfold PC.of
 obtain ⟨tys,T,R⟩:=zhs P.types.toList a1 (fun tys=>zfJ P.funcs.toList fun fns=>zfJ ns fun ns=>fN P.globals.size fun ng=>(⟨P,tys,fns,ns,ext,eqs,P.follows .mixedOrders,ng⟩:PC))
 rw [T]
 obtain ⟨fns,D,U⟩:=zhs P.funcs.toList a2 (fun fns=>zfJ ns fun ns=>fN P.globals.size fun ng=>(⟨P,tys,fns,ns,ext,eqs,P.follows .mixedOrders,ng⟩:PC))
 rw [D]
 obtain ⟨E,l,_⟩:=zhs ns a3 (fun ns=>fN P.globals.size fun ng=>(⟨P,tys,fns,ns,ext,eqs,P.follows .mixedOrders,ng⟩:PC))
 rw [l,zE]
 refine ⟨fun t i h=>?_,fun f fn h=>?_,kad _,fun f fn B hb=>?_,fun h=>h,fun t qs h=>?_,fun f e h H w=>?_⟩
 ·unfold PC.info at h
  rw [zgm,zi8,zoc] at h
  have:=R t i h
  have h0:P.types[t]?=some i:=by simpa using this
  have O:t<P.types.size:=(kat.1 h0).1
  show (if t<P.types.size then P.types[t]? else _)=some i
  rw [if_pos O];exact h0
 ·unfold PC.func at h
  rw [zgm,zi8,zoc] at h
  have:=U f fn h
  simpa using this
 ·unfold zwS at Q
  rw [kao] at Q
  have:=Q fn (by rw [←Array.mem_def];exact Array.mem_of_getElem? B)
  intro e
  rw [e] at this
  cases M:fn.body with
  | none=>rw [M] at hb;cases hb
  | some c=>rw [M] at this;simp at this
 ·have Y:=zih h
  unfold zDF at K
  rw [kao] at K
  have:=K _ Y
  simp only [kaf,Bool.not_eq_true'] at this
  obtain ⟨v,y⟩:=this
  refine ⟨v,?_⟩
  cases hu:P.underlying t with
  | none=>rw [hu] at y;cases y
  | some d =>
   rw [hu] at y
   cases d with
   | struct C =>
    simp only [kaf,Bool.not_eq_true'] at y
    exact .inl ⟨y.1,C,rfl,zjs _ _ _ y.2⟩
   | array n el =>
    right
    simp only at y
    cases hi:P.info? el with
    | none=>rw [hi] at y;cases y
    | some i =>
     rw [hi] at y
     cases qs with
     | nil =>
      simp only [kaf,Bool.or_eq_true] at y
      obtain ⟨⟨j,p⟩,x⟩:=y
      have p:=kac p
      subst p
      rcases x with (x | x) | x
      ·exact ⟨0,el,0,i,hu,hi,kac j,zgc x,rfl⟩
      ·exact ⟨0,el,7,i,hu,hi,kac j,zgc x,rfl⟩
      ·exact ⟨0,el,8,i,hu,hi,kac j,zgc x,rfl⟩
     | cons q qs =>
      simp only [kaf,kao] at y
      obtain ⟨⟨⟨j,p⟩,x⟩,A⟩:=y
      have p:=kac p
      refine ⟨n,el,q,i,hu,hi,kac j,zgc x,?_⟩
      rw [p]
      exact List.eq_replicate_of_mem (by
       intro r N
       rcases kaj.1 N with rfl | N
       ·rfl
       ·exact kac (A r N))
   | _=>cases y
 ·have Y:=zmG h
  unfold zD0 at W
  rw [kao] at W
  have:=W _ Y
  simp only at this
  cases B:P.funcs[f]? with
  | none=>rw [B] at this;cases this
  | some fn =>
   rw [B] at this
   simp only [kaf] at this
   obtain ⟨⟨⟨j,p⟩,x⟩,A⟩:=this
   have j:e<3:=by simpa [Nat.blt_eq] using j
   have x:fn.name=zdk e:=by simpa using x
   obtain ⟨R,g,U,X⟩:=zxs j x A
   refine ⟨g,U,run_callFunc_extern B ?_ p R X H w⟩
   rw [x]
   rcases e with _ | _ | _ | e
   ·kernel_rfl
   ·kernel_rfl
   ·kernel_rfl
   ·omega
noncomputable def zwL (pc:PC) (n f:Nat) (s:S):Bool:=match (run pc n).call f [] s with
 | .ret (.bool b) _=>b
 | _=>false
end Go.Ev
