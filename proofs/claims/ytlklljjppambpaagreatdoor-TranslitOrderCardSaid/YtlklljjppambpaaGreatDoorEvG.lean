/- What a program must show by closed tests for the evaluator to be right on it; the tests of a cut call. No statement of the seat stands here. No condition. By an AI agent. -/
import Derived.Test.YtlklljjppambpaaGreatDoorEvF
import Derived.KernelRfl
namespace Go.Ev
open Go.RowKit
variable {P:Program}
theorem zgJ : ∀ f m : Nat, 1 ≤ m → m < 2 ^ (f + 1) → (js f m).toNat = m := by
  intro f
  induction f with
  | zero => intro m h1 h2; simp at h2; obtain rfl : m = 1 := by omega
            rfl
  | succ f ih =>
    intro m h1 h2
    rw [js]
    have hp : 2 ^ (f + 1 + 1) = 2 * 2 ^ (f + 1) := by rw [Nat.pow_succ, Nat.mul_comm]
    by_cases h : m ≤ 1
    · obtain rfl : m = 1 := by omega
      rw [if_pos (by omega)]; rfl
    · rw [if_neg h]
      have := ih (m / 2) (by omega) (by omega)
      split
      · show 2 * (js f (m / 2)).toNat = m
        omega
      · show 2 * (js f (m / 2)).toNat + 1 = m
        omega
theorem zFv:∀ f m:Nat,2 ^ f≤m→2 ^ f≤(js f m).toNat:=by
 intro f
 induction f with
 | zero=>intro m h;exact K.toNat_pos _
 | succ f ih =>
  intro m h
  have hp:2 ^ (f+1)=2*2 ^ f:=by rw [Nat.pow_succ,Nat.mul_comm]
  have h0:0<2 ^ f:=Nat.two_pow_pos f
  rw [js,if_neg (by omega)]
  have:=ih (m / 2) (by omega)
  split
  ·show _≤2*(js f (m / 2)).toNat
   omega
  ·show _≤2*(js f (m / 2)).toNat+1
   omega
theorem zLv {m n:Nat} (hm:m+4<2 ^ 24) (e:js 24 (n+4)=js 24 (m+4)):n=m:=by
 have h1:=zgJ 24 (m+4) (by omega) (by omega)
 by_cases hn:n+4<2 ^ 25
 ·have h2:=zgJ 24 (n+4) (by omega) hn
  rw [e] at h2;omega
 ·have h2:=zFv 24 (n+4) (by omega)
  rw [e] at h2;omega
theorem zju {α β:Type} (l:List α) (hl:l.length+4<2 ^ 24) (c:Tr (Option α)→β):∃ t,zgA l c=c t∧∀ j x,Tr.get none (js 24 (j+4)) t=some x→l[j]?=some x:=by
 have key:∀ (rest done:List α) (t:Tr (Option α)),l=done++rest→(∀ j x,Tr.get none (js 24 (j+4)) t=some x→l[j]?=some x) →
   ∃ t',List.rec (motive:=fun _=>Nat→Tr (Option α)→β) (fun _ t=>c t) (fun x _ ih n t=>zhO n fun k=>t.setK none k (some x) fun t=>fN (Nat.succ n) fun n=>ih n t) rest done.length t=c t' ∧
    ∀ j x,Tr.get none (js 24 (j+4)) t'=some x→l[j]?=some x:=by
  intro rest
  induction rest with
  | nil=>intro done t _ ht;exact ⟨t,rfl,ht⟩
  | cons x rest ih =>
   intro done t hd ht
   obtain ⟨t',h1,h2⟩:=ih (done++[x]) (Tr.set none (some x) (js 24 (done.length+4)) t) (by rw [hd];simp) (fun j y hy=>by
    rw [get_set] at hy
    split at hy
    ·rename_i e
     have:=zLv (m:=done.length) (n:=j) (by rw [hd] at hl;simp at hl;omega) e
     subst this
     rw [hd];simpa using hy
    ·exact ht j y hy)
   refine ⟨t',?_,h2⟩
   show zhO done.length _=_
   rw [zhO,znb,zz9,zH]
   rw [←h1];simp
 exact key l [] .lf rfl (fun j x h=>by rw [zer] at h;cases h)
def zFs (P:Program) (t:TypeId) (q:Nat):Bool:=match P.underlying t with
 | some .bool=>Nat.beq q 0
 | some (.int _)=>Nat.beq q 7
 | some .string=>Nat.beq q 8
 | _=>false
theorem zhg {t:TypeId} {q:Nat} (h:zFs P t q=true):QTy P t q:=by
 unfold zFs at h
 cases hu:P.underlying t with
 | none=>rw [hu] at h;cases h
 | some d =>
  rw [hu] at h
  cases d with
  | bool=>exact .inl ⟨kaa h,hu⟩
  | int k=>exact .inr (.inl ⟨kaa h,k,hu⟩)
  | string=>exact .inr (.inr ⟨kaa h,hu⟩)
  | _=>cases h
def zm5 (P:Program):Nat→List Field→List Nat→Bool
 | _,[],[]=>true
 | n, f :: fs, q :: qs => !(f.name == "_") && Nat.beq f.offset n && zFs P f.type q && zm5 P (n + 1) fs qs
 | _,_,_=>false
theorem zog:∀ (fs:List Field) (n:Nat) (qs:List Nat),zm5 P n fs qs=true→jc P n fs qs
 | [],n,[],_=>trivial
 | f::fs,n,q::qs,h=>by
  simp only [zm5,kas,Bool.not_eq_true'] at h
  obtain ⟨⟨⟨h1,h2⟩,h3⟩,h4⟩:=h
  exact ⟨fun e=>by rw [e] at h1;simp at h1,kaa h2,zhg h3,zog fs _ qs h4⟩
 | [],_,_::_,h=>by cases h
 | _::_,_,[],h=>by cases h
def zOk (P:Program) (l:List (Nat × List Nat)):Bool:=l.all fun p=>!(P.eqGuardType P.depth p.1) && match P.underlying p.1 with
 | some (.struct fs)=>!(P.stoodInHeld p.1) && zm5 P 0 fs.toList p.2
 | some (.array n e)=>(match P.info? e,p.2 with
  | some i,[]=>Nat.beq i.size 1 && Nat.beq n 0 && (zFs P e 0 || zFs P e 7 || zFs P e 8)
  | some i,q::qs=>Nat.beq i.size 1 && Nat.beq n (qs.length+1) && zFs P e q && qs.all fun r=>Nat.beq r q
  | none,_=>false)
 | _=>false
def zds:Nat→String
 | 0 => "internal/abi.NoEscape"
 | 1 => "internal/bytealg.IndexByteString"
 | _ => "internal/bytealg.abigen_runtime_cmpstring"
def zOz (P:Program) (l:List (Nat × Nat)):Bool:=l.all fun p=>match p.2,P.funcs[p.1]? with
 | 0,_=>true
 | e+1,some fn=>Nat.blt e 3 && fn.body.isNone && (fn.name == zds e) && (Extern.allNextRows.lookup fn.origin).isNone
 | _,none=>false
theorem zKz {fn:Func} {e:Nat} (he:e<3) (hn:fn.name=zds e) (ho:(Extern.allNextRows.lookup fn.origin).isNone=true):Extern.findNext fn=none∧∃ g,zIT e=some g∧Extern.find fn=some g:=by
 have ho':Extern.allNextRows.lookup fn.origin=none:=by simpa using ho
 have h1:Extern.allNextRows.lookup (zds e)=none:=by
  rcases e with _ | _ | _ | e
  ·kernel_rfl
  ·kernel_rfl
  ·kernel_rfl
  ·omega
 have h2:Extern.allGenericRows.lookup (zds e)=none:=by
  rcases e with _ | _ | _ | e
  ·kernel_rfl
  ·kernel_rfl
  ·kernel_rfl
  ·omega
 have h3:Extern.allTypedRows.lookup (zds e)=none:=by
  rcases e with _ | _ | _ | e
  ·kernel_rfl
  ·kernel_rfl
  ·kernel_rfl
  ·omega
 have h4:∃ g,zIT e=some g∧Extern.allRows.lookup (zds e)=some g:=by
  rcases e with _ | _ | _ | e
  ·exact ⟨_,rfl,by kernel_rfl⟩
  ·exact ⟨_,rfl,by kernel_rfl⟩
  ·exact ⟨_,rfl,by kernel_rfl⟩
  ·omega
 obtain ⟨g,g1,g2⟩:=h4
 refine ⟨?_,g,g1,?_⟩
 ·unfold Extern.findNext
  simp only [hn,h1,ho',Option.map_none]
  rfl
 ·unfold Extern.find
  simp only [hn,h2,h3,g2,Option.map_none]
  rfl
theorem zxx {f:Nat}:∀ {l:List (Nat × Nat)} {e:Nat},zsB f l=e+1→(f,e+1)∈l
 | [],e,h=>by cases h
 | (g,c)::l,e,h=>by
  unfold zsB at h
  cases hb:Nat.beq f g with
  | true =>
   rw [hb] at h
   simp only at h
   have:=kaa hb
   subst this
   rw [h]
   exact List.mem_cons_self
  | false =>
   rw [hb] at h
   exact kaC _ (zxx h)
theorem zlt {t:Nat}:∀ {l:List (Nat × List Nat)} {qs},zbP t l=some qs→(t,qs)∈l
 | [],_,h=>by cases h
 | (u,q)::l,qs,h=>by
  unfold zbP at h
  cases hb:Nat.beq t u with
  | true =>
   rw [hb] at h
   cases h
   obtain rfl:=kaa hb
   exact List.mem_cons_self
  | false=>rw [hb] at h;exact kaC _ (zlt h)
def zJ5 (P : Program) : Bool := P.funcs.toList.all fun fn => fn.body.isNone || !(fn.name == "runtime.NumGoroutine")
theorem zzr {hooks:List Hook} {ns:List Nat} {ext:List (Nat × Nat)} {eqs:List (Nat × List Nat)} {mg:List Nat} (h1:(Nat.blt (P.types.size+4) (2 ^ 24) && Nat.blt (P.funcs.size+4) (2 ^ 24))=true) (h3:zJ5 P=true) (h4:zOk P eqs=true) (h6:zOz P ext=true) (h5:Nat.blt (ns.length+4) (2 ^ 24)=true) :
  PcOk P (PC.of P hooks ns ext eqs mg)∧(PC.of P hooks ns ext eqs mg).hooks=hooks:=by
 rw [kas] at h1
 have a1:P.types.toList.length+4<2 ^ 24:=kaM h1.1
 have a2:P.funcs.toList.length+4<2 ^ 24:=kaM h1.2
 have a3:ns.length+4<2 ^ 24:=kaM h5
 unfold PC.of
 obtain ⟨tys,e1,g1⟩:=zju P.types.toList a1 (fun tys=>zgA P.funcs.toList fun fns=>zgA ns fun ns=>fN P.globals.size fun ng=>(⟨P,hooks,tys,fns,ns,ext,eqs,P.follows .mixedOrders,ng,mg⟩:PC))
 rw [e1]
 obtain ⟨fns,e2,g2⟩:=zju P.funcs.toList a2 (fun fns=>zgA ns fun ns=>fN P.globals.size fun ng=>(⟨P,hooks,tys,fns,ns,ext,eqs,P.follows .mixedOrders,ng,mg⟩:PC))
 rw [e2]
 obtain ⟨nst,e3,_⟩:=zju ns a3 (fun ns=>fN P.globals.size fun ng=>(⟨P,hooks,tys,fns,ns,ext,eqs,P.follows .mixedOrders,ng,mg⟩:PC))
 rw [e3,zH]
 refine ⟨⟨fun t i h=>?_,fun f fn h=>?_,kab _,fun f fn hf hb=>?_,fun h=>h,fun t qs h=>?_,fun f e h args w=>?_⟩,rfl⟩
 ·unfold PC.info at h
  rw [zhO,znb,zzN] at h
  have:=g1 t i h
  have h0:P.types[t]?=some i:=by simpa using this
  have hlt:t<P.types.size:=(kaB.1 h0).1
  show (if t<P.types.size then P.types[t]? else _)=some i
  rw [if_pos hlt];exact h0
 ·unfold PC.func at h
  rw [zhO,znb,zzN] at h
  have:=g2 f fn h
  simpa using this
 ·unfold zJ5 at h3
  rw [kaD] at h3
  have:=h3 fn (by rw [←Array.mem_def];exact Array.mem_of_getElem? hf)
  intro e
  rw [e] at this
  cases hx:fn.body with
  | none=>rw [hx] at hb;cases hb
  | some c=>rw [hx] at this;simp at this
 ·have hm:=zlt h
  unfold zOk at h4
  rw [kaD] at h4
  have:=h4 _ hm
  simp only [kas,Bool.not_eq_true'] at this
  obtain ⟨k2,k3⟩:=this
  refine ⟨k2,?_⟩
  cases hu:P.underlying t with
  | none=>rw [hu] at k3;cases k3
  | some d =>
   rw [hu] at k3
   cases d with
   | struct fs =>
    simp only [kas,Bool.not_eq_true'] at k3
    exact .inl ⟨k3.1,fs,rfl,zog _ _ _ k3.2⟩
   | array n el =>
    right
    simp only at k3
    cases hi:P.info? el with
    | none=>rw [hi] at k3;cases k3
    | some i =>
     rw [hi] at k3
     cases qs with
     | nil =>
      simp only [kas,Bool.or_eq_true] at k3
      obtain ⟨⟨q1,q2⟩,q3⟩:=k3
      have q2:=kaa q2
      subst q2
      rcases q3 with (q3 | q3) | q3
      ·exact ⟨0,el,0,i,hu,hi,kaa q1,zhg q3,rfl⟩
      ·exact ⟨0,el,7,i,hu,hi,kaa q1,zhg q3,rfl⟩
      ·exact ⟨0,el,8,i,hu,hi,kaa q1,zhg q3,rfl⟩
     | cons q qs =>
      simp only [kas,kaD] at k3
      obtain ⟨⟨⟨q1,q2⟩,q3⟩,q4⟩:=k3
      have q2:=kaa q2
      refine ⟨n,el,q,i,hu,hi,kaa q1,zhg q3,?_⟩
      rw [q2]
      exact List.eq_replicate_of_mem (by
       intro r hr
       rcases kaj.1 hr with rfl | hr
       ·rfl
       ·exact kaa (q4 r hr))
   | _=>cases k3
 ·have hm:=zxx h
  unfold zOz at h6
  rw [kaD] at h6
  have:=h6 _ hm
  simp only at this
  cases hf:P.funcs[f]? with
  | none=>rw [hf] at this;cases this
  | some fn =>
   rw [hf] at this
   simp only [kas] at this
   obtain ⟨⟨⟨q1,q2⟩,q3⟩,q4⟩:=this
   have q1:e<3:=by simpa [Nat.blt_eq] using q1
   have q3:fn.name=zds e:=by simpa using q3
   obtain ⟨g1,g,g2,g3⟩:=zKz q1 q3 q4
   refine ⟨g,g2,run_callFunc_extern hf ?_ q2 g1 g3 args w⟩
   rw [q3]
   rcases e with _ | _ | _ | e
   ·kernel_rfl
   ·kernel_rfl
   ·kernel_rfl
   ·omega
noncomputable def zJW (pc:PC) (n f:Nat) (s:S):Bool:=match (run pc n).call f [] s with
 | .ret (.bool b) _=>b
 | _=>false
end Go.Ev
