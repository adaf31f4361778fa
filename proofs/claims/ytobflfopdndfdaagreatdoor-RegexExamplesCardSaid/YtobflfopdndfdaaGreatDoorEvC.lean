/- The evaluator is right on pure operations and on reads. No statement of the seat stands here. No condition. By an AI agent. -/
import Derived.Test.YtobflfopdndfdaaGreatDoorEvB
import Derived.MapKept
import Derived.Laws.BytesString
import Derived.Lib.Builder
import Derived.Lib.UnsafeStr
namespace Go.Ev
open Go.RowKit
variable {P : Program}
def PureS (P : Program) (pc : PC) (fi : FI) (ds : List Nat) (o : Oper) : Prop := ∀ r tm le s k, ¬ ((op pc fi ds o).run r tm le s k).isBad →
 ∃ v, k v s = (op pc fi ds o).run r tm le s k ∧ ∀ ν tmps, Glob ν fi.ng → OpsR ν fi ds tm le tmps o → ∃ y, VR ν v y ∧ ∀ w, (execOp (ev tmps) o).run P w = .ok (.value y) w
def ReadS (P : Program) (pc : PC) (fi : FI) (ds : List Nat) (o : Oper) : Prop := ∀ r tm le s k, ¬ ((op pc fi ds o).run r tm le s k).isBad →
 ∃ v, k v s = (op pc fi ds o).run r tm le s k ∧ ∀ ν w tmps, Rows P ν s w → Glob ν fi.ng → OpsR ν fi ds tm le tmps o → ∃ y, VR ν v y ∧ (execOp (ev tmps) o).run P w = .ok (.value y) w
theorem PureS.read {pc : PC} {fi : FI} {ds : List Nat} {o : Oper} (h : PureS P pc fi ds o) : ReadS P pc fi ds o := fun r tm le s k hnb => by
 obtain ⟨v, h1, h2⟩ := h r tm le s k hnb
 exact ⟨v, h1, fun ν w tmps _ hG hf => by obtain ⟨y, h3, h4⟩ := h2 ν tmps hG hf; exact ⟨y, h3, h4 w⟩⟩
theorem un_run (fi : FI) (ds : List Nat) (x : Operand) (h : V → S → (V → S → A) → A) (r : R) (tm : T) (le : List V) (s : S) (k : V → S → A) :
  (un fi ds x h).run r tm le s k = (opd fi ds x).run tm le fun v => h v s k := rfl
theorem bi_run (fi : FI) (ds : List Nat) (x y : Operand) (h : V → V → S → (V → S → A) → A) (r : R) (tm : T) (le : List V) (s : S) (k : V → S → A) :
  (bi fi ds x y h).run r tm le s k = (opd fi ds x).run tm le fun v => (opd fi ds y).run tm le fun u => h v u s k := rfl
theorem pure_un {pc : PC} {fi : FI} {ds : List Nat} {o : Oper} {x : Operand} {X : V → (V → A) → A} (e : op pc fi ds o = un fi ds x (fun v s k => X v fun z => k z s)) (hm : x ∈ o.op.operands.toList)
  (hX : ∀ u c, ¬ (X u c).isBad → ∃ z, c z = X u c ∧ ∀ (ν : Val) (tmps : Array Value), VR ν u (ev tmps x) → ∃ z', VR ν z z' ∧ ∀ w, (execOp (ev tmps) o).run P w = .ok (.value z') w) : PureS P pc fi ds o := by
 intro r tm le s k hnb
 rw [e, un_run] at hnb ⊢
 obtain ⟨u, h1, h2⟩ := opd_ok fi ds x tm le _ hnb
 rw [← h1] at hnb ⊢
 obtain ⟨z, h3, h4⟩ := hX u _ hnb
 exact ⟨z, h3, fun ν tmps hG hf => h4 ν tmps (h2 ν tmps hG (hf x hm))⟩
theorem pure_bi {pc : PC} {fi : FI} {ds : List Nat} {o : Oper} {x y : Operand} {X : V → V → (V → A) → A} (e : op pc fi ds o = bi fi ds x y (fun v u s k => X v u fun z => k z s)) (hm : x ∈ o.op.operands.toList) (hm' : y ∈ o.op.operands.toList)
  (hX : ∀ u v c, ¬ (X u v c).isBad → ∃ z, c z = X u v c ∧ ∀ (ν : Val) (tmps : Array Value), VR ν u (ev tmps x) → VR ν v (ev tmps y) → ∃ z', VR ν z z' ∧ ∀ w, (execOp (ev tmps) o).run P w = .ok (.value z') w) : PureS P pc fi ds o := by
 intro r tm le s k hnb
 rw [e, bi_run] at hnb ⊢
 obtain ⟨u, h1, h2⟩ := opd_ok fi ds x tm le _ hnb
 rw [← h1] at hnb ⊢
 obtain ⟨v, h3, h4⟩ := opd_ok fi ds y tm le _ hnb
 rw [← h3] at hnb ⊢
 obtain ⟨z, h5, h6⟩ := hX u v _ hnb
 exact ⟨z, h5, fun ν tmps hG hf => h6 ν tmps (h2 ν tmps hG (hf x hm)) (h4 ν tmps hG (hf y hm'))⟩
theorem read_un {pc : PC} {fi : FI} {ds : List Nat} {o : Oper} {x : Operand} {X : V → S → (V → A) → A} (e : op pc fi ds o = un fi ds x (fun v s k => X v s fun z => k z s)) (hm : x ∈ o.op.operands.toList)
  (hX : ∀ u s c, ¬ (X u s c).isBad → ∃ z, c z = X u s c ∧ ∀ (ν : Val) (w : World) (tmps : Array Value), Rows P ν s w → VR ν u (ev tmps x) → ∃ z', VR ν z z' ∧ (execOp (ev tmps) o).run P w = .ok (.value z') w) : ReadS P pc fi ds o := by
 intro r tm le s k hnb
 rw [e, un_run] at hnb ⊢
 obtain ⟨u, h1, h2⟩ := opd_ok fi ds x tm le _ hnb
 rw [← h1] at hnb ⊢
 obtain ⟨z, h3, h4⟩ := hX u _ _ hnb
 exact ⟨z, h3, fun ν w tmps hw hG hf => h4 ν w tmps hw (h2 ν tmps hG (hf x hm))⟩
theorem read_bi {pc : PC} {fi : FI} {ds : List Nat} {o : Oper} {x y : Operand} {X : V → V → S → (V → A) → A} (e : op pc fi ds o = bi fi ds x y (fun v u s k => X v u s fun z => k z s)) (hm : x ∈ o.op.operands.toList) (hm' : y ∈ o.op.operands.toList)
  (hX : ∀ u v s c, ¬ (X u v s c).isBad → ∃ z, c z = X u v s c ∧ ∀ (ν : Val) (w : World) (tmps : Array Value), Rows P ν s w → VR ν u (ev tmps x) → VR ν v (ev tmps y) → ∃ z', VR ν z z' ∧ (execOp (ev tmps) o).run P w = .ok (.value z') w) : ReadS P pc fi ds o := by
 intro r tm le s k hnb
 rw [e, bi_run] at hnb ⊢
 obtain ⟨u, h1, h2⟩ := opd_ok fi ds x tm le _ hnb
 rw [← h1] at hnb ⊢
 obtain ⟨v, h3, h4⟩ := opd_ok fi ds y tm le _ hnb
 rw [← h3] at hnb ⊢
 obtain ⟨z, h5, h6⟩ := hX u v _ _ hnb
 exact ⟨z, h5, fun ν w tmps hw hG hf => h6 ν w tmps hw (h2 ν tmps hG (hf x hm)) (h4 ν tmps hG (hf y hm'))⟩
theorem badO_run {m : Nat} {r : R} {tm : T} {le : List V} {s : S} {k : V → S → A} : ((badO m).run r tm le s k).isBad := trivial
theorem pure_bad {pc : PC} {fi : FI} {ds : List Nat} {o : Oper} {m : Nat} (h : op pc fi ds o = badO m) : PureS P pc fi ds o := fun r tm le s k hnb => by rw [h] at hnb; exact absurd trivial hnb
theorem pure_move {pc : PC} {fi : FI} {ds : List Nat} {o : Oper} {x : Operand} (ho : o.op = .move x ∨ o.op = .assign x) : PureS P pc fi ds o := by
 refine pure_un (x := x) (X := fun v c => c v) (by rcases ho with ho | ho <;> simp only [op, ho]) (by rcases ho with ho | ho <;> simp [ho, Op.operands]) (fun u c _ => ⟨u, rfl, fun ν tmps hu => ⟨_, hu, fun w => ?_⟩⟩)
 rcases ho with ho | ho <;> simp [execOp, ho]
theorem pure_pick {pc : PC} {fi : FI} {ds : List Nat} {o : Oper} {c a b : Operand} (ho : o.op = .pick c a b) : PureS P pc fi ds o := by
 intro r tm le s k hnb
 have e : (op pc fi ds o).run r tm le s k = (opd fi ds c).run tm le fun v => xPick v (fun _ => (opd fi ds a).run tm le (fun v => k v s)) (fun _ => (opd fi ds b).run tm le (fun v => k v s)) := by simp only [op, ho]
 rw [e] at hnb ⊢
 obtain ⟨v, h1, h2⟩ := opd_ok fi ds c tm le _ hnb
 rw [← h1] at hnb ⊢
 cases v with
 | bool t =>
  cases t with
  | false =>
   obtain ⟨u, h3, h4⟩ := opd_ok fi ds b tm le _ hnb
   refine ⟨u, h3, fun ν tmps hG hf => ⟨_, h4 ν tmps hG (hf _ (by simp [ho, Op.operands])), fun w => ?_⟩⟩
   have := h2 ν tmps hG (hf _ (by simp [ho, Op.operands]))
   simp only [VR] at this
   simp [execOp, ho, this, asBool]
  | true =>
   obtain ⟨u, h3, h4⟩ := opd_ok fi ds a tm le _ hnb
   refine ⟨u, h3, fun ν tmps hG hf => ⟨_, h4 ν tmps hG (hf _ (by simp [ho, Op.operands])), fun w => ?_⟩⟩
   have := h2 ν tmps hG (hf _ (by simp [ho, Op.operands]))
   simp only [VR] at this
   simp [execOp, ho, this, asBool]
 | _ => exact absurd trivial hnb
theorem opds_ok (fi : FI) (ds : List Nat) : ∀ (l : List Operand) (tm : T) (le : List V) (c : List V → A), ¬ ((opds fi ds l).run tm le c).isBad →
  ∃ v, c v = (opds fi ds l).run tm le c ∧ ∀ (ν : Val) (tmps : Array Value), Glob ν fi.ng → (∀ x ∈ l, OdR ν fi ds tm le tmps x) → VRs ν v (l.map (ev tmps))
 | [], _, _, c, _ => ⟨[], rfl, fun _ _ _ _ => rfl⟩
 | x :: l, tm, le, c, hnb => by
  have e : (opds fi ds (x :: l)).run tm le c = (opd fi ds x).run tm le fun v => (opds fi ds l).run tm le fun l => c (v :: l) := rfl
  rw [e] at hnb ⊢
  obtain ⟨u, h1, h2⟩ := opd_ok fi ds x tm le _ hnb
  rw [← h1] at hnb ⊢
  obtain ⟨v, h3, h4⟩ := opds_ok fi ds l tm le _ hnb
  exact ⟨u :: v, h3, fun ν tmps hG hf => ⟨_, _, rfl, h2 ν tmps hG (hf x (by simp)), h4 ν tmps hG (fun y hy => hf y (by simp [hy]))⟩⟩
theorem pure_makeFunc {pc : PC} {fi : FI} {ds : List Nat} {o : Oper} {fn : Fn} {a b : Array Operand} (ho : o.op = .makeFunc fn a b) : PureS P pc fi ds o := by
 intro r tm le s k hnb
 have e : (op pc fi ds o).run r tm le s k = (opds fi ds a.toList).run tm le fun u => (opds fi ds b.toList).run tm le fun v => k (.fn fn u v) s := by simp only [op, ho]
 rw [e] at hnb ⊢
 obtain ⟨u, h1, h2⟩ := opds_ok fi ds a.toList tm le _ hnb
 rw [← h1] at hnb ⊢
 obtain ⟨v, h3, h4⟩ := opds_ok fi ds b.toList tm le _ hnb
 refine ⟨_, h3, fun ν tmps hG hf => ?_⟩
 refine ⟨.func fn (a.map (ev tmps)) (b.map (ev tmps)), ⟨_, _, h2 ν tmps hG (fun x hx => hf x (by simp [ho, Op.operands]; exact .inl (by simpa using hx))), h4 ν tmps hG (fun x hx => hf x (by simp [ho, Op.operands]; exact .inr (by simpa using hx))), ?_⟩, fun w => ?_⟩
 ·congr 1 <;> (apply Array.ext'; simp)
 ·simp [execOp, ho, Instr.makeFunc]
theorem pure_unOp {pc : PC} {fi : FI} {ds : List Nat} {o : Oper} {u : UnOp} {t : TypeId} {x : Operand} (ho : o.op = .unOp u t x) : PureS P pc fi ds o := by
 refine pure_un (x := x) (X := xUn u) (by simp only [op, ho]) (by simp [ho, Op.operands]) (fun v c hnb => ?_)
 cases u with
 | not =>
  cases v with
  | bool b =>
   refine ⟨.bool (!b), by simp only [xUn, fB_eq, notB_eq], fun ν tmps hu => ⟨_, rfl, fun w => ?_⟩⟩
   simp only [VR] at hu
   simp [execOp, ho, hu, Op.unary]
  | _ => exact absurd trivial hnb
 | neg =>
  cases v with
  | nat k n =>
   refine ⟨_, by simp only [xUn, wrapV_eq]; rfl, fun ν tmps hu => ⟨_, VR_iv ν _ _, fun w => ?_⟩⟩
   simp only [VR] at hu
   have e : ∀ z : Int, Int.sub 0 z = 0 - z := fun _ => rfl
   simp only [execOp, ho, hu, Op.unary, Op.intArith, toI, e]
   rfl
  | neg k n =>
   refine ⟨_, by simp only [xUn, wrapV_eq]; rfl, fun ν tmps hu => ⟨_, VR_iv ν _ _, fun w => ?_⟩⟩
   simp only [VR] at hu
   have e : ∀ z : Int, Int.sub 0 z = 0 - z := fun _ => rfl
   simp only [execOp, ho, hu, Op.unary, Op.intArith, toI, e]
   rfl
  | _ => exact absurd trivial hnb
 | _ => exact absurd trivial hnb
end Go.Ev

namespace Go.Ev
open Go.RowKit
variable {P : Program}
theorem run_und {t : TypeId} {d : TypeDesc} (h : P.underlying t = some d) (w : World) : (underlying t).run P w = .ok d w := by simp [underlying, h]
theorem run_info {t : TypeId} {i : TypeInfo} (h : P.info? t = some i) (w : World) : (typeInfo t).run P w = .ok i w := by simp [typeInfo, h]
theorem run_sz {t : TypeId} {i : TypeInfo} (h : P.info? t = some i) (w : World) : (sizeOf t).run P w = .ok i.size w := by simp [sizeOf, run_info h]
def aggD : TypeDesc → Bool | .struct _ => true | .array _ _ => true | _ => false
theorem run_ag {t : TypeId} {d : TypeDesc} (h : P.underlying t = some d) (w : World) : (isAgg t).run P w = .ok (aggD d) w := by
 unfold isAgg; cases d <;> simp [run_und h, aggD]
theorem PC.sz_or {β : Type} (pc : PC) (t : Nat) (d : β) (k : Nat → β) : pc.sz t d k = d ∨ ∃ i, pc.info t = some i ∧ pc.sz t d k = k i.size := by
 unfold PC.sz
 cases hi : pc.info t with
 | none => exact .inl rfl
 | some i => exact .inr ⟨i, rfl, by simp only [fN_eq]⟩
theorem PC.by_or {β : Type} (pc : PC) (t : Nat) (d : β) (k : Nat → β) : pc.by t d k = d ∨ ∃ i, pc.info t = some i ∧ pc.by t d k = k i.bytes := by
 unfold PC.by
 cases hi : pc.info t with
 | none => exact .inl rfl
 | some i => exact .inr ⟨i, rfl, by simp only [fN_eq]⟩
theorem PC.ag_or {β : Type} (pc : PC) (t : Nat) (d : β) (k : Bool → β) : pc.ag t d k = d ∨ ∃ u, pc.und t = some u ∧ pc.ag t d k = k (aggD u) := by
 unfold PC.ag
 cases hi : pc.und t with
 | none => exact .inl rfl
 | some i => exact .inr ⟨i, rfl, by cases i <;> rfl⟩
theorem chk_or {β : Type} (b : Bool) (d k : β) : chk b d k = d ∨ (b = true ∧ chk b d k = k) := by cases b <;> simp [chk]
theorem lenC_eq (l : List V) : lenC l = l.length := lenL_eq l id
theorem VR_one {ν : Val} {v : V} {x : Value} (h : VR ν v x) (h1 : v ≠ .bad) (h2 : ∀ t l, v ≠ .ls t l) : x.oneCell' = true := by
 cases v with
 | bad => exact absurd rfl h1
 | ls t l => exact absurd rfl (h2 t l)
 | nat k n => simp only [VR] at h; subst h; rfl
 | neg k n => simp only [VR] at h; subst h; rfl
 | bool b => simp only [VR] at h; subst h; rfl
 | str l => obtain ⟨s, rfl, _⟩ := h; rfl
 | ptr a v o => obtain ⟨b, δ, _, rfl⟩ := h; rfl
 | sl a v o len cap => obtain ⟨b, δ, _, rfl, _⟩ := h; rfl
 | so a v o len e => obtain ⟨b, δ, cap, _, rfl, _⟩ := h; rfl
 | nil t =>
  rcases t with _ | _ | _ | _ | _ | t <;> simp only [VR] at h
  all_goals (subst h; rfl)
 | ref t a =>
  rcases t with _ | _ | _ | _ | t
  ·obtain ⟨b, _, rfl⟩ := h; rfl
  ·obtain ⟨_, _, rfl⟩ := VR.ref1 h; rfl
  ·exact h.elim
  ·obtain ⟨b, _, rfl⟩ := h; rfl
  ·exact h.elim
 | fn f a b => obtain ⟨c, d, _, _, rfl⟩ := h; rfl
 | ifc t v => obtain ⟨y, _, rfl⟩ := h; rfl
theorem cells_one {x : Value} (h : x.oneCell' = true) : x.cells = #[x] := by cases x <;> first | rfl | cases h
theorem PC.zero_ok {pc : PC} (hp : PcOk P pc) {t : Nat} (h : pc.zero t ≠ .bad) : ∃ z, ∀ w, (zeroValue t).run P w = .ok z w ∧ ∀ ν, VR ν (pc.zero t) z := by
 unfold PC.zero at *
 cases hi : pc.info t with
 | none => rw [hi] at h; exact absurd rfl h
 | some i =>
  rw [hi] at h
  simp only at h ⊢
  cases hz : i.zero with
  | none => rw [hz] at h; exact absurd rfl h
  | some v =>
   rw [hz] at h
   exact ⟨v, fun w => ⟨by simp [zeroValue, run_info (hp.info t i hi), hz], fun ν => cv_ok ν v h⟩⟩
theorem PC.zc_or {pc : PC} (hp : PcOk P pc) {β : Type} (t : Nat) (d : β) (k : List V → β) : pc.zc t d k = d ∨ ∃ zc, pc.zc t d k = k zc ∧ ∃ z : Value, (∀ w, (zeroValue t).run P w = .ok z w) ∧ (∀ ν, VRs ν zc z.cells.toList) ∧ (∀ y ∈ z.cells.toList, y.oneCell' = true) := by
 unfold PC.zc
 cases hz : pc.zero t with
 | bad => exact .inl rfl
 | ls u l =>
  rcases u with _ | u
  ·right
   obtain ⟨z, h1⟩ := PC.zero_ok hp (t := t) (by rw [hz]; simp)
   refine ⟨l, rfl, z, fun w => (h1 w).1, fun ν => ?_, ?_⟩
   ·have := (h1 default).2 ν
    rw [hz] at this
    obtain ⟨c, h2, rfl, h3⟩ := this
    simpa [Value.cells] using h2
   ·have := (h1 default).2 ⟨fun _ _ => none, fun _ _ => 0, fun _ => 0⟩
    rw [hz] at this
    obtain ⟨c, h2, rfl, h3⟩ := this
    simpa [Value.cells] using h3
  ·exact .inl rfl
 | _ =>
  right
  obtain ⟨z, h1⟩ := PC.zero_ok hp (t := t) (by rw [hz]; simp)
  rw [hz] at h1
  have h1c : z.oneCell' = true := VR_one ((h1 default).2 ⟨fun _ _ => none, fun _ _ => 0, fun _ => 0⟩) (by simp) (by simp)
  refine ⟨_, rfl, z, fun w => (h1 w).1, fun ν => ?_, ?_⟩
  ·rw [cells_one h1c]; exact ⟨z, [], rfl, (h1 default).2 ν, rfl⟩
  ·rw [cells_one h1c]; intro y hy; simp at hy; subst hy; exact h1c
theorem pure_or {pc : PC} {fi : FI} {ds : List Nat} {o : Oper} {X : OpC} {m : Nat} (e : op pc fi ds o = X) (h : X = badO m ∨ PureS P pc fi ds o) : PureS P pc fi ds o := by
 rcases h with h | h
 ·exact pure_bad (e.trans h)
 ·exact h
theorem pure_nilCheck {pc : PC} {fi : FI} {ds : List Nat} {o : Oper} {x : Operand} (ho : o.op = .nilCheck x) : PureS P pc fi ds o := by
 refine pure_un (x := x) (X := xNilCheck) (by simp only [op, ho]) (by simp [ho, Op.operands]) (fun v c hnb => ?_)
 have key : ∀ (ν : Val) (tmps : Array Value), VR ν v (ev tmps x) → (ev tmps x ≠ .pointer none ∧ ev tmps x ≠ .nilIface ∧ ev tmps x ≠ .nilFunc ∧ ∀ f a b, ev tmps x = .func f a b → ∀ n, f ≠ .method n) → ∃ z', VR ν v z' ∧ ∀ w, (execOp (ev tmps) o).run P w = .ok (.value z') w := by
  intro ν tmps hv ⟨h1, h2, h3, h4⟩
  refine ⟨_, hv, fun w => ?_⟩
  simp only [execOp, ho]
  generalize ev tmps x = y at *
  cases y <;> first
   | (rename_i f a b; cases f <;> first | rfl | exact absurd rfl (h4 _ _ _ rfl _))
   | (rename_i a; cases a <;> first | rfl | exact absurd rfl h1)
   | rfl
   | exact absurd rfl h2
   | exact absurd rfl h3
 cases v with
 | bad => exact absurd trivial hnb
 | nil t => exact absurd trivial hnb
 | fn f a b =>
  cases f with
  | func f =>
   refine ⟨_, rfl, fun ν tmps hv => key ν tmps hv ?_⟩
   obtain ⟨c, d, _, _, e⟩ := hv
   rw [e]
   refine ⟨by simp, by simp, by simp, fun f a b h n => by simp at h; rw [← h.1]; simp⟩
  | _ => exact absurd trivial hnb
 | ref t a =>
  unfold xNilCheck at hnb
  simp only at hnb
  cases ht : Nat.beq t 3 with
  | true => rw [ht] at hnb; exact absurd trivial hnb
  | false =>
   refine ⟨.ref t a, by simp only [xNilCheck, ht], fun ν tmps hv => key ν tmps hv ?_⟩
   rcases t with _ | _ | _ | _ | t
   ·obtain ⟨b, _, e⟩ := hv; rw [e]; simp
   ·obtain ⟨_, _, e⟩ := VR.ref1 hv; rw [e]; simp
   ·exact hv.elim
   ·simp at ht
   ·exact hv.elim
 | nat k n => exact ⟨_, rfl, fun ν tmps hv => key ν tmps hv (by simp only [VR] at hv; rw [hv]; simp)⟩
 | neg k n => exact ⟨_, rfl, fun ν tmps hv => key ν tmps hv (by simp only [VR] at hv; rw [hv]; simp)⟩
 | bool b => exact ⟨_, rfl, fun ν tmps hv => key ν tmps hv (by simp only [VR] at hv; rw [hv]; simp)⟩
 | str l => exact ⟨_, rfl, fun ν tmps hv => key ν tmps hv (by obtain ⟨s, e, _⟩ := hv; rw [e]; simp)⟩
 | ptr a v o => exact ⟨_, rfl, fun ν tmps hv => key ν tmps hv (by obtain ⟨b, δ, _, e⟩ := hv; rw [e]; simp)⟩
 | sl a v o len cap => exact ⟨_, rfl, fun ν tmps hv => key ν tmps hv (by obtain ⟨b, δ, _, e, _⟩ := hv; rw [e]; simp)⟩
 | so a v o len e => exact ⟨_, rfl, fun ν tmps hv => key ν tmps hv (by obtain ⟨b, δ, cap, _, e, _⟩ := hv; rw [e]; simp)⟩
 | ls t l => exact ⟨_, rfl, fun ν tmps hv => key ν tmps hv (by
   obtain ⟨c, _, e⟩ := hv
   rcases t with _ | _ | t
   ·rw [e.1]; simp
   ·rw [e]; simp
   ·exact e.elim)⟩
 | ifc t v => exact ⟨_, rfl, fun ν tmps hv => key ν tmps hv (by obtain ⟨y, _, e⟩ := hv; rw [e]; simp)⟩
theorem nthA_ok {m o : Nat} {l : List V} {c : V → A} (hnb : ¬ (nthA o l c (.bad m)).isBad) : ∃ x, l[o]? = some x ∧ c x = nthA o l c (.bad m) := by
 induction o generalizing l with
 | zero => cases l with
  | nil => exact absurd trivial hnb
  | cons x l => exact ⟨x, rfl, rfl⟩
 | succ o ih => cases l with
  | nil => exact absurd trivial hnb
  | cons x l =>
   have e : nthA (o + 1) (x :: l) c (.bad m) = nthA o l c (.bad m) := rfl
   rw [e] at hnb ⊢
   simpa using ih hnb
theorem pure_extract {pc : PC} {fi : FI} {ds : List Nat} {o : Oper} {x : Operand} {i : Nat} (ho : o.op = .extract x i) : PureS P pc fi ds o := by
 refine pure_un (x := x) (X := xExtract i) (by simp only [op, ho, fN_eq]) (by simp [ho, Op.operands]) (fun v c hnb => ?_)
 cases v with
 | ls t l =>
  unfold xExtract at hnb ⊢
  simp only at hnb ⊢
  cases ht : Nat.beq t 1 with
  | false => rw [ht] at hnb; exact absurd trivial hnb
  | true =>
   have ht' : t = 1 := Nat.eq_of_beq_eq_true ht
   subst ht'
   obtain ⟨z, h1, h2⟩ := nthA_ok hnb
   refine ⟨z, h2, fun ν tmps hv => ?_⟩
   obtain ⟨cc, h3, h4⟩ := hv
   obtain ⟨y, h5, h6⟩ := h3.get i z h1
   refine ⟨y, h6, fun w => ?_⟩
   have h4 : ev tmps x = .tuple ⟨cc⟩ := h4
   simp [execOp, ho, h4, Instr.extract, h5]
 | _ => exact absurd trivial hnb
theorem VRs.drop {ν : Val} {l : List V} {c : List Value} (h : VRs ν l c) (n : Nat) : VRs ν (l.drop n) (c.drop n) := by
 refine VRs.of_get (by simp [h.length]) fun i x hi => ?_
 rw [List.getElem?_drop] at hi ⊢
 exact h.get _ _ hi
theorem VRs.take {ν : Val} {l : List V} {c : List Value} (h : VRs ν l c) (n : Nat) : VRs ν (l.take n) (c.take n) := by
 refine VRs.of_get (by simp [h.length]) fun i x hi => ?_
 rw [List.getElem?_take] at hi ⊢
 split at hi
 ·rename_i hlt; rw [if_pos hlt]; exact h.get _ _ hi
 ·cases hi
theorem part_ok {ag : Bool} {off sz : Nat} {v : V} {c : V → A} (hnb : ¬ (xField ag off sz v c).isBad) : ∃ z, c z = xField ag off sz v c ∧ ∀ (ν : Val) (a : Value), VR ν v a → ∃ cs, a = .agg cs ∧ ∀ t i u, P.info? t = some i → i.size = sz → P.underlying t = some u → aggD u = ag → ∃ z', VR ν z z' ∧ ∀ w, (part t cs off).run P w = .ok z' w := by
 cases v with
 | ls t l =>
  unfold xField at hnb ⊢
  simp only at hnb ⊢
  cases ht : Nat.beq t 0 with
  | false => rw [ht] at hnb; exact absurd trivial hnb
  | true =>
   have ht' : t = 0 := Nat.eq_of_beq_eq_true ht
   subst ht'
   simp only [ht] at hnb ⊢
   cases ag with
   | true =>
    refine ⟨_, by simp only [dropL_eq, takeL_eq]; rfl, fun ν a hv => ?_⟩
    obtain ⟨cc, h3, h4, h5⟩ := hv
    refine ⟨⟨cc⟩, h4, fun t i u hi hs hu hag => ⟨.agg (Array.extract ⟨cc⟩ off (off + sz)), ⟨(cc.drop off).take sz, (h3.drop off).take sz, ?_, fun y hy => h5 y (List.mem_of_mem_drop (List.mem_of_mem_take hy))⟩, fun w => ?_⟩⟩
    ·congr 1
     apply Array.ext'
     simp [List.extract_eq_take_drop]
    ·simp [part, run_ag hu, hag, run_sz hi, hs]
   | false =>
    obtain ⟨z, h1, h2⟩ := nthA_ok hnb
    refine ⟨z, h2, fun ν a hv => ?_⟩
    obtain ⟨cc, h3, h4, h5⟩ := hv
    obtain ⟨y, h6, h7⟩ := h3.get off z h1
    refine ⟨⟨cc⟩, h4, fun t i u hi hs hu hag => ⟨y, h7, fun w => ?_⟩⟩
    simp [part, run_ag hu, hag, h6]
 | _ => exact absurd trivial hnb
theorem pure_field {pc : PC} (hp : PcOk P pc) {fi : FI} {ds : List Nat} {o : Oper} {t : TypeId} {x : Operand} {i : Nat} (ho : o.op = .field t x i) : PureS P pc fi ds o := by
 have e : op pc fi ds o = op pc fi ds o := rfl
 conv at e => rhs; simp only [op, ho]
 cases hu : pc.und t with
 | none => rw [hu] at e; exact pure_bad e
 | some d =>
  rw [hu] at e
  cases d with
  | struct fs =>
   simp only at e
   cases hf : fs[i]? with
   | none => rw [hf] at e; exact pure_bad e
   | some fl =>
    rw [hf] at e
    simp only [fN_eq] at e
    rcases PC.ag_or pc fl.type (badO 152) _ with h | ⟨u, hu', h⟩
    ·exact pure_bad (e.trans h)
    ·rw [h] at e
     rcases PC.sz_or pc fl.type (badO 152) _ with h | ⟨j, hj, h⟩
     ·exact pure_bad (e.trans h)
     ·rw [h] at e
      refine pure_un e (by simp [ho, Op.operands]) (fun v c hnb => ?_)
      obtain ⟨z, h1, h2⟩ := part_ok (P := P) hnb
      refine ⟨z, h1, fun ν tmps hv => ?_⟩
      obtain ⟨cs, h3, h4⟩ := h2 ν _ hv
      obtain ⟨z', h5, h6⟩ := h4 _ j u (hp.info _ _ hj) rfl (hp.und hu') rfl
      refine ⟨z', h5, fun w => ?_⟩
      simp [execOp, ho, Instr.field, run_und (hp.und hu), hf, h3, asAgg, h6]
  | _ => exact pure_bad e
theorem asInt_nat {k : IntKind} {n : Nat} (w : World) : (asIntOf (.int k (Int.ofNat n))).run P w = .ok (k, Int.ofNat n) w := rfl
theorem pure_index {pc : PC} (hp : PcOk P pc) {fi : FI} {ds : List Nat} {o : Oper} {t : TypeId} {x y : Operand} (ho : o.op = .index t x y) : PureS P pc fi ds o := by
 have e : op pc fi ds o = op pc fi ds o := rfl
 conv at e => rhs; simp only [op, ho]
 cases hu : pc.und t with
 | none => rw [hu] at e; exact pure_bad e
 | some d =>
  rw [hu] at e
  cases d with
  | array n el =>
   simp only [fN_eq] at e
   rcases PC.ag_or pc el (badO 155) _ with h | ⟨u, hu', h⟩
   ·exact pure_bad (e.trans h)
   ·rw [h] at e
    rcases PC.sz_or pc el (badO 155) _ with h | ⟨j, hj, h⟩
    ·exact pure_bad (e.trans h)
    ·rw [h] at e
     refine pure_bi e (by simp [ho, Op.operands]) (by simp [ho, Op.operands]) (fun v ix c hnb => ?_)
     cases ix with
     | nat k m =>
      unfold xIndexA at hnb ⊢
      simp only at hnb ⊢
      cases hm : Nat.blt m n with
      | false => rw [hm] at hnb; exact absurd trivial hnb
      | true =>
       have hm' : m < n := by simpa [Nat.blt_eq] using hm
       simp only [hm] at hnb ⊢
       obtain ⟨z, h1, h2⟩ := part_ok (P := P) hnb
       refine ⟨z, h1, fun ν tmps hv hix => ?_⟩
       obtain ⟨cs, h3, h4⟩ := h2 ν _ hv
       obtain ⟨z', h5, h6⟩ := h4 _ j u (hp.info _ _ hj) rfl (hp.und hu') rfl
       refine ⟨z', h5, fun w => ?_⟩
       simp only [VR] at hix
       have h6 : ∀ w, (part el cs (m * j.size)).run P w = .ok z' w := h6
       simp [execOp, ho, Instr.index, run_und (hp.und hu), hix, h3, asIntOf, hm', run_sz (hp.info _ _ hj), h6]
     | _ => exact absurd trivial hnb
  | string =>
   refine pure_bi e (by simp [ho, Op.operands]) (by simp [ho, Op.operands]) (fun v ix c hnb => ?_)
   cases ix with
   | nat k m =>
    cases v with
    | str l =>
     unfold xIndexS at hnb ⊢
     simp only at hnb ⊢
     have key : ∀ (m : Nat) (l : List Nat) (c : Nat → A), ¬ (nthN m l c (.bad 93)).isBad → ∃ z, l[m]? = some z ∧ c z = nthN m l c (.bad 93) := by
      intro m
      induction m with
      | zero => intro l c hnb; cases l with
       | nil => exact absurd trivial hnb
       | cons x l => exact ⟨x, rfl, rfl⟩
      | succ m ih => intro l c hnb; cases l with
       | nil => exact absurd trivial hnb
       | cons x l =>
        have e : nthN (m + 1) (x :: l) c (.bad 93) = nthN m l c (.bad 93) := rfl
        rw [e] at hnb ⊢
        simpa using ih l c hnb
     obtain ⟨z, h1, h2⟩ := key _ _ _ hnb
     refine ⟨.nat .u8 z, h2, fun ν tmps hv hix => ⟨.int .u8 (Int.ofNat z), rfl, fun w => ?_⟩⟩
     simp only [VR] at hix
     obtain ⟨s, h3, h4⟩ := hv
     have h5 : s[m]? = some (UInt8.ofNat z) ∧ z < 256 := by
      rw [← h4] at h1
      unfold bytesL at h1
      rw [List.getElem?_map] at h1
      cases hq : s.data.toList[m]? with
      | none => rw [hq] at h1; cases h1
      | some b =>
       rw [hq] at h1
       simp only [Option.map_some, Option.some.injEq] at h1
       subst h1
       refine ⟨?_, b.toNat_lt⟩
       have hlt : m < s.data.size := by
        have := (List.getElem?_eq_some_iff.1 hq).1; simpa using this
       have hlt2 : m < s.size := hlt
       rw [getElem?_pos s m hlt2]
       have := (List.getElem?_eq_some_iff.1 hq).2
       have h9 : s[m] = b := by rw [← this]; rfl
       rw [h9]; simp
     have h6 : (0 : Int) ≤ (m : Int) := Int.natCast_nonneg m
     have h7 : (UInt8.ofNat z).toNat = z := by simp; omega
     simp [execOp, ho, Instr.index, run_und (hp.und hu), hix, h3, asIntOf, h5.1, h6]
     omega
    | _ => exact absurd trivial hnb
   | _ => exact absurd trivial hnb
  | _ => exact pure_bad e
end Go.Ev

namespace Go.Ev
open Go.RowKit
variable {P : Program}
theorem PC.size_of {pc : PC} {t : Nat} {i : TypeInfo} (h : pc.info t = some i) : pc.size t = i.size := by simp [PC.size, h]
theorem add_off (b x n : Nat) : (⟨b, x, none⟩ : Addr).add n = ⟨b, x + n, none⟩ := by unfold Addr.add; split <;> simp_all
theorem pure_fieldAddr {pc : PC} (hp : PcOk P pc) {fi : FI} {ds : List Nat} {o : Oper} {t : TypeId} {x : Operand} {i : Nat} (ho : o.op = .fieldAddr t x i) : PureS P pc fi ds o := by
 have e : op pc fi ds o = op pc fi ds o := rfl
 conv at e => rhs; simp only [op, ho]
 cases hu : pc.und t with
 | none => rw [hu] at e; exact pure_bad e
 | some d =>
  rw [hu] at e
  cases d with
  | struct fs =>
   simp only at e
   cases hf : fs[i]? with
   | none => rw [hf] at e; exact pure_bad e
   | some fl =>
    rw [hf] at e
    simp only at e
    rcases PC.sz_or pc fl.type (badO 150) _ with h | ⟨j, hj, h⟩
    ·exact pure_bad (e.trans h)
    ·rw [h] at e
     rcases chk_or (!(Nat.beq j.size 0)) (badO 150) _ with h | ⟨hz, h⟩
     ·exact pure_bad (e.trans h)
     ·rw [h] at e
      simp only [fN_eq] at e
      have hz' : j.size ≠ 0 := fun k => by rw [k] at hz; cases hz
      refine pure_un e (by simp [ho, Op.operands]) (fun v c hnb => ?_)
      cases v with
      | ptr a v p =>
       refine ⟨_, by simp only [xFieldAddr, fN_eq]; rfl, fun ν tmps hv => ?_⟩
       obtain ⟨b, δ, h1, h2⟩ := hv
       refine ⟨.pointer (some ⟨b, δ + (p + fl.offset), none⟩), ⟨b, δ, h1, rfl⟩, fun w => ?_⟩
       simp [execOp, ho, Instr.fieldAt, run_und (hp.und hu), hf, h2, Instr.sureAddr, fieldPlace, run_sz (hp.info _ _ hj), hz', add_off, Nat.add_assoc]
      | _ => exact absurd trivial hnb
  | _ => exact pure_bad e
theorem pure_indexAddr {pc : PC} (hp : PcOk P pc) {fi : FI} {ds : List Nat} {o : Oper} {t : TypeId} {x y : Operand} (ho : o.op = .indexAddr t x y) : PureS P pc fi ds o := by
 have e : op pc fi ds o = op pc fi ds o := rfl
 conv at e => rhs; simp only [op, ho]
 cases hu : pc.und t with
 | none => rw [hu] at e; exact pure_bad e
 | some d =>
  rw [hu] at e
  cases d with
  | slice el =>
   simp only at e
   rcases PC.sz_or pc el (badO 154) _ with h | ⟨j, hj, h⟩
   ·exact pure_bad (e.trans h)
   ·rw [h] at e
    refine pure_bi e (by simp [ho, Op.operands]) (by simp [ho, Op.operands]) (fun v ix c hnb => ?_)
    have key : ∀ (a : K) (vv o' len k m : Nat) (kk : IntKind) (v : V), ix = .nat kk m → (∀ ν z, VR ν v z → ∃ b δ cap, ν.blk a vv = some (b, δ) ∧ z = .slice (some ⟨b, δ + o', none⟩) len cap) →
      xIdxAddrS j.size v ix c = (Bool.rec (motive := fun _ => A) (.bad 53) (fN (Nat.add o' (Nat.mul m j.size)) (fun o => c (.ptr a vv o))) (Nat.blt m len)) → ¬ (xIdxAddrS j.size v ix c).isBad →
      ∃ z, c z = xIdxAddrS j.size v ix c ∧ ∀ (ν : Val) (tmps : Array Value), VR ν v (ev tmps x) → VR ν ix (ev tmps y) → ∃ z', VR ν z z' ∧ ∀ w, (execOp (ev tmps) o).run P w = .ok (.value z') w := by
     intro a vv o' len k m kk v hix hv e2 hnb
     rw [e2] at hnb ⊢
     cases hm : Nat.blt m len with
     | false => rw [hm] at hnb; exact absurd trivial hnb
     | true =>
      have hm' : m < len := by simpa [Nat.blt_eq] using hm
      refine ⟨_, by simp only [fN_eq]; rfl, fun ν tmps h1 h2 => ?_⟩
      obtain ⟨b, δ, cap, h3, h4⟩ := hv ν _ h1
      rw [hix] at h2
      simp only [VR] at h2
      refine ⟨.pointer (some ⟨b, δ + (o' + m * j.size), none⟩), ⟨b, δ, h3, rfl⟩, fun w => ?_⟩
      simp [execOp, ho, Instr.indexAt, run_und (hp.und hu), h2, h4, asIntOf, hm', run_sz (hp.info _ _ hj), add_off, Nat.add_assoc]
    cases ix with
    | nat kk m =>
     cases v with
     | sl a vv o' len cap => exact key a vv o' len 0 m kk _ rfl (fun ν z h => by obtain ⟨b, δ, h1, h2, h3⟩ := h; exact ⟨b, δ, cap, h1, h2⟩) rfl hnb
     | so a vv o' len e0 => exact key a vv o' len 0 m kk _ rfl (fun ν z h => by obtain ⟨b, δ, cap, h1, h2, h3⟩ := h; exact ⟨b, δ, cap, h1, h2⟩) rfl hnb
     | _ => exact absurd trivial hnb
    | _ => exact absurd trivial hnb
  | array n el =>
   simp only [fN_eq] at e
   rcases PC.sz_or pc el (badO 154) _ with h | ⟨j, hj, h⟩
   ·exact pure_bad (e.trans h)
   ·rw [h] at e
    refine pure_bi e (by simp [ho, Op.operands]) (by simp [ho, Op.operands]) (fun v ix c hnb => ?_)
    cases ix with
    | nat kk m =>
     cases v with
     | ptr a vv p =>
      unfold xIdxAddrA at hnb ⊢
      simp only at hnb ⊢
      cases hm : Nat.blt m n with
      | false => rw [hm] at hnb; exact absurd trivial hnb
      | true =>
       have hm' : m < n := by simpa [Nat.blt_eq] using hm
       refine ⟨_, by simp only [fN_eq]; rfl, fun ν tmps h1 h2 => ?_⟩
       obtain ⟨b, δ, h3, h4⟩ := h1
       simp only [VR] at h2
       refine ⟨.pointer (some ⟨b, δ + (p + m * j.size), none⟩), ⟨b, δ, h3, rfl⟩, fun w => ?_⟩
       simp [execOp, ho, Instr.indexAt, run_und (hp.und hu), h2, h4, Instr.sureAddr, asIntOf, hm', run_sz (hp.info _ _ hj), add_off, Nat.add_assoc]
     | _ => exact absurd trivial hnb
    | _ => exact absurd trivial hnb
  | _ => exact pure_bad e
theorem cellsC_ok {sz : Nat} {v : V} {c : List V → A} (hnb : ¬ (cellsC sz v c).isBad) : ∃ xs, c xs = cellsC sz v c ∧ xs.length = sz ∧ ∀ (ν : Val) (x : Value), VR ν v x → VRs ν xs x.cells.toList ∧ ∀ y ∈ x.cells.toList, y.oneCell' = true := by
 have one : v ≠ .bad → (∀ t l, v ≠ .ls t l) → cellsC sz v c = Bool.rec (motive := fun _ => A) (.bad 23) (c [v]) (Nat.beq sz 1) → ∃ xs, c xs = cellsC sz v c ∧ xs.length = sz ∧ ∀ (ν : Val) (x : Value), VR ν v x → VRs ν xs x.cells.toList ∧ ∀ y ∈ x.cells.toList, y.oneCell' = true := by
  intro h1 h2 e
  rw [e] at hnb ⊢
  cases hs : Nat.beq sz 1 with
  | false => rw [hs] at hnb; exact absurd trivial hnb
  | true =>
   refine ⟨[v], rfl, (Nat.eq_of_beq_eq_true hs).symm, fun ν x hx => ?_⟩
   have h3 := VR_one hx h1 h2
   rw [cells_one h3]
   exact ⟨⟨x, [], rfl, hx, rfl⟩, fun y hy => by simp at hy; subst hy; exact h3⟩
 cases v with
 | bad => exact absurd trivial hnb
 | ls t l =>
  unfold cellsC at hnb ⊢
  simp only at hnb ⊢
  cases ht : Nat.beq t 0 with
  | false => rw [ht] at hnb; exact absurd trivial hnb
  | true =>
   have ht' : t = 0 := Nat.eq_of_beq_eq_true ht
   subst ht'
   simp only [ht, lenL_eq] at hnb ⊢
   cases hn : Nat.beq l.length sz with
   | false => rw [hn] at hnb; exact absurd trivial hnb
   | true =>
    refine ⟨l, rfl, Nat.eq_of_beq_eq_true hn, fun ν x hx => ?_⟩
    obtain ⟨cc, h3, h4, h5⟩ := hx
    rw [h4]
    exact ⟨h3, h5⟩
 | _ => exact one (by simp) (by simp) rfl
theorem foldl_set (off : Nat) : ∀ (l : List Value) (j : Nat) (cells : Array Value), off + j + l.length ≤ cells.size →
  ((l.zipIdx j).foldl (fun cs (p : Value × Nat) => cs.setIfInBounds (off + p.2) p.1) cells).size = cells.size ∧
  ∀ i, ((l.zipIdx j).foldl (fun cs (p : Value × Nat) => cs.setIfInBounds (off + p.2) p.1) cells)[i]? = if off + j ≤ i ∧ i < off + j + l.length then l[i - (off + j)]? else cells[i]?
 | [], j, cells, _ => by simp; omega
 | v :: l, j, cells, h => by
  simp only [List.zipIdx_cons, List.foldl_cons, List.length_cons] at h ⊢
  obtain ⟨h1, h2⟩ := foldl_set off l (j + 1) (cells.setIfInBounds (off + j) v) (by simp; omega)
  refine ⟨by rw [h1]; simp, fun i => ?_⟩
  rw [h2]
  have hsz : off + j < cells.size := by omega
  by_cases hi : off + j = i
  ·subst hi
   rw [if_neg (by omega), if_pos (by omega)]
   simp [hsz]
  ·by_cases h3 : off + (j + 1) ≤ i ∧ i < off + (j + 1) + l.length
   ·rw [if_pos h3, if_pos (by omega), show i - (off + j) = (i - (off + (j + 1))) + 1 by omega]; simp
   ·rw [if_neg h3, if_neg (by omega), Array.getElem?_setIfInBounds_ne hi]
theorem VRs_upd {ν : Val} {xs cs : List V} {x : Array Value} {cells : Array Value} {off : Nat} (h1 : VRs ν xs x.toList) (h2 : VRs ν cs cells.toList) (hl : off + xs.length ≤ cs.length)
  (o1 : ∀ y ∈ x.toList, y.oneCell' = true) (o2 : ∀ y ∈ cells.toList, y.oneCell' = true) :
  VRs ν (upd xs off cs) (x.zipIdx.foldl (fun cs (p : Value × Nat) => cs.setIfInBounds (off + p.2) p.1) cells).toList ∧ ∀ y ∈ (x.zipIdx.foldl (fun cs (p : Value × Nat) => cs.setIfInBounds (off + p.2) p.1) cells).toList, y.oneCell' = true := by
 have e : x.zipIdx.foldl (fun cs (p : Value × Nat) => cs.setIfInBounds (off + p.2) p.1) cells = (x.toList.zipIdx 0).foldl (fun cs (p : Value × Nat) => cs.setIfInBounds (off + p.2) p.1) cells := by
  rw [← Array.foldl_toList]; simp
 have l1 := h1.length
 have l2 := h2.length
 obtain ⟨g1, g2⟩ := foldl_set off x.toList 0 cells (by simp at l1 l2 ⊢; omega)
 rw [e]
 generalize (x.toList.zipIdx 0).foldl (fun cs (p : Value × Nat) => cs.setIfInBounds (off + p.2) p.1) cells = q at *
 simp only [Nat.add_zero] at g2
 constructor
 ·refine VRs.of_get ?_ fun i v hi => ?_
  ·rw [upd_length _ _ _ hl]; simp at l2 ⊢; omega
  ·rw [upd_get _ _ _ hl] at hi
   have := g2 i
   rw [l1] at this
   simp only [Array.getElem?_toList]
   rw [this]
   by_cases h3 : off ≤ i ∧ i < off + xs.length
   ·rw [if_pos h3] at hi ⊢
    exact h1.get _ _ hi
   ·rw [if_neg h3] at hi ⊢
    simpa using h2.get _ _ hi
 ·intro y hy
  obtain ⟨i, hi⟩ := List.getElem?_of_mem hy
  simp only [Array.getElem?_toList] at hi
  rw [g2] at hi
  split at hi
  ·exact o1 y (List.mem_of_getElem? hi)
  ·exact o2 y (by rw [← Array.getElem?_toList] at hi; exact List.mem_of_getElem? hi)
theorem paC_ok {fi : FI} {ds : List Nat} {n : Nat} {place : Nat → Option (Nat × Nat)} : ∀ (l : List (Nat × Operand)) (tm : T) (le : List V) (cs : List V) (c : List V → A), cs.length = n → ¬ ((paC fi ds n place l).run tm le cs c).isBad →
  ∃ out, c out = (paC fi ds n place l).run tm le cs c ∧ out.length = n ∧ ∀ (ν : Val) (tmps : Array Value) (cells : Array Value), Glob ν fi.ng → (∀ p ∈ l, OdR ν fi ds tm le tmps p.2) → VRs ν cs cells.toList → (∀ y ∈ cells.toList, y.oneCell' = true) →
   ∃ cells', Instr.fill place cells (l.map fun p => (p.1, ev tmps p.2)) = some cells' ∧ VRs ν out cells'.toList ∧ ∀ y ∈ cells'.toList, y.oneCell' = true
 | [], tm, le, cs, c, hn, _ => ⟨cs, rfl, hn, fun ν tmps cells _ _ h1 h2 => ⟨cells, rfl, h1, h2⟩⟩
 | (i, x) :: l, tm, le, cs, c, hn, hnb => by
  cases hpl : place i with
  | none =>
   have e : (paC fi ds n place ((i, x) :: l)).run tm le cs c = .bad 139 := by simp only [paC, hpl]
   rw [e] at hnb; exact absurd trivial hnb
  | some p =>
   obtain ⟨off, sz⟩ := p
   cases hb : Nat.ble (off + sz) n with
   | false =>
    have e : (paC fi ds n place ((i, x) :: l)).run tm le cs c = .bad 139 := by simp only [paC, hpl, hb, chk]
    rw [e] at hnb; exact absurd trivial hnb
   | true =>
    have e : (paC fi ds n place ((i, x) :: l)).run tm le cs c = (opd fi ds x).run tm le fun v => cellsC sz v fun xs => (paC fi ds n place l).run tm le (upd xs off cs) c := by
     simp only [paC, hpl, hb, chk, fN_eq, updL_eq]
    rw [e] at hnb ⊢
    have hb' : off + sz ≤ n := Nat.ble_eq.mp hb
    obtain ⟨u, h1, h2⟩ := opd_ok fi ds x tm le _ hnb
    rw [← h1] at hnb ⊢
    obtain ⟨xs, h3, h4, h5⟩ := cellsC_ok hnb
    rw [← h3] at hnb ⊢
    obtain ⟨out, h6, h7, h8⟩ := paC_ok l tm le (upd xs off cs) c (by rw [upd_length _ _ _ (by omega)]; exact hn) hnb
    refine ⟨out, h6, h7, fun ν tmps cells hG hf hc ho => ?_⟩
    obtain ⟨g1, g2⟩ := h5 ν _ (h2 ν tmps hG (hf (i, x) (by simp)))
    have g3 := g1.length
    have g4 := hc.length
    obtain ⟨g5, g6⟩ := VRs_upd (off := off) g1 hc (by omega) g2 ho
    obtain ⟨cells', g7, g8, g9⟩ := h8 ν tmps _ hG (fun p hp => hf p (by simp [hp])) g5 g6
    refine ⟨cells', ?_, g8, g9⟩
    simp only [List.map_cons, Instr.fill, hpl]
    simp only [Array.length_toList] at g3 g4
    rw [if_neg]
    ·exact g7
    ·simp; omega
theorem run_places' {pc : PC} (hp : PcOk P pc) (w : World) : ∀ (fs : List Field), allInfo pc fs = true →
  (fs.mapM fun f => Prod.mk f.offset <$> sizeOf f.type).run P w = .ok (fs.map fun f => (f.offset, pc.size f.type)) w
 | [], _ => by simp
 | f :: fs, h => by
  simp only [allInfo] at h
  cases hi : pc.info f.type with
  | none => simp [hi] at h
  | some i =>
   rw [hi] at h
   simp [List.mapM_cons, run_sz (hp.info _ _ hi), run_places' hp w fs h, PC.size_of hi]
theorem pure_build {pc : PC} (hp : PcOk P pc) {fi : FI} {ds : List Nat} {o : Oper} {t : TypeId} {parts : Array (Nat × Operand)} (ho : o.op = .build t parts) : PureS P pc fi ds o := by
 have e : op pc fi ds o = op pc fi ds o := rfl
 conv at e => rhs; simp only [op, ho]
 have fin : ∀ (zc : List V) (z : Value) (place : Nat → Option (Nat × Nat)), (∀ w, (zeroValue t).run P w = .ok z w) → (∀ ν, VRs ν zc z.cells.toList) → (∀ y ∈ z.cells.toList, y.oneCell' = true) →
   (∀ tmps cells' w, Instr.fill place z.cells (parts.toList.map fun p => (p.1, ev tmps p.2)) = some cells' → (execOp (ev tmps) o).run P w = .ok (.value (.agg cells')) w) →
   op pc fi ds o = (match paC fi ds (lenC zc) place parts.toList with | ⟨f⟩ => ⟨fun _ tm le s k => f tm le zc fun l => k (.ls 0 l) s⟩) → PureS P pc fi ds o := by
  intro zc z place h1 h2 h3 h4 e r tm le s k hnb
  have e2 : (op pc fi ds o).run r tm le s k = (paC fi ds (lenC zc) place parts.toList).run tm le zc fun l => k (.ls 0 l) s := by rw [e]
  rw [e2] at hnb ⊢
  obtain ⟨out, g1, g2, g3⟩ := paC_ok _ tm le zc _ (lenC_eq zc).symm hnb
  refine ⟨_, g1, fun ν tmps hG hf => ?_⟩
  obtain ⟨cells', g4, g5, g6⟩ := g3 ν tmps z.cells hG (fun p hp => hf p.2 (by simp [ho, Op.operands]; exact ⟨p.1, by simpa using hp⟩)) (h2 ν) h3
  exact ⟨.agg cells', ⟨cells'.toList, g5, rfl, g6⟩, fun w => h4 tmps cells' w g4⟩
 cases hu : pc.und t with
 | none => rw [hu] at e; exact pure_bad e
 | some d =>
  rw [hu] at e
  cases d with
  | struct fs =>
   simp only at e
   rcases chk_or (allInfo pc fs.toList) (badO 141) _ with h | ⟨hall, h⟩
   ·exact pure_bad (e.trans h)
   ·rw [h] at e
    rcases PC.zc_or hp t (badO 141) _ with h | ⟨zc, h, z, hz, hz1, hz2⟩
    ·exact pure_bad (e.trans h)
    ·rw [h] at e
     refine fin zc z _ hz hz1 hz2 (fun tmps cells' w hc => ?_) e
     have h' : Instr.fill (fun x => ((fs.toList.map fun f => (f.offset, pc.size f.type))[x]?)) z.cells (parts.toList.map fun p => (p.1, ev tmps p.2)) = some cells' := by
      rw [← hc]; congr 1; funext i; simp
     simp only [execOp, ho]
     have hb : (Instr.build t (parts.map fun p => (p.1, ev tmps p.2))).run P w = .ok (.agg cells') w := by
      simp only [List.getElem?_map, Array.getElem?_toList] at h'
      simp [Instr.build, run_und (hp.und hu), hz, Array.mapM_eq_mapM_toList, run_places' hp w _ hall, h']
     simp [hb]
  | array n el =>
   simp only at e
   rcases PC.sz_or pc el (badO 141) _ with h | ⟨j, hj, h⟩
   ·exact pure_bad (e.trans h)
   ·rw [h] at e
    rcases PC.zc_or hp t (badO 141) _ with h | ⟨zc, h, z, hz, hz1, hz2⟩
    ·exact pure_bad (e.trans h)
    ·rw [h] at e
     refine fin zc z _ hz hz1 hz2 (fun tmps cells' w hc => ?_) e
     simp only [execOp, ho]
     have hb : (Instr.build t (parts.map fun p => (p.1, ev tmps p.2))).run P w = .ok (.agg cells') w := by
      simp [Instr.build, run_und (hp.und hu), hz, run_sz (hp.info _ _ hj), hc]
     simp [hb]
  | _ => exact pure_bad e
theorem pure_convInt {pc : PC} (hp : PcOk P pc) {fi : FI} {ds : List Nat} {o : Oper} {src dst : TypeId} {x : Operand} {i j : IntKind} (ho : o.op = .convert src dst x) (h1 : pc.und src = some (.int i)) (h2 : pc.und dst = some (.int j)) : PureS P pc fi ds o := by
 refine pure_un (x := x) (X := xIntConv j) (by simp only [op, ho, h1, h2, cvK_eq]) (by simp [ho, Op.operands]) (fun v c hnb => ?_)
 cases v with
 | nat k n =>
  refine ⟨_, by simp only [xIntConv, natR_eq]; rfl, fun ν tmps hv => ⟨_, VR_iv ν _ _, fun w => ?_⟩⟩
  simp only [VR] at hv
  simp [execOp, ho, hv, convert, run_und (hp.und h1), run_und (hp.und h2), Conv.intToInt]
 | neg k n =>
  refine ⟨_, by simp only [xIntConv, wrapV_eq]; rfl, fun ν tmps hv => ⟨_, VR_iv ν _ _, fun w => ?_⟩⟩
  simp only [VR] at hv
  simp [execOp, ho, hv, convert, run_und (hp.und h1), run_und (hp.und h2), Conv.intToInt, toI]
 | _ => exact absurd trivial hnb
theorem pure_rune {pc : PC} (hp : PcOk P pc) {fi : FI} {ds : List Nat} {o : Oper} {src dst : TypeId} {x : Operand} {i : IntKind} (ho : o.op = .convert src dst x) (h1 : pc.und src = some (.int i)) (h2 : pc.und dst = some .string) : PureS P pc fi ds o := by
 refine pure_un (x := x) (X := xRune) (by simp only [op, ho, h1, h2]) (by simp [ho, Op.operands]) (fun v c hnb => ?_)
 cases v with
 | nat k n =>
  refine ⟨.str (bytesL (Utf8.encode (Int.ofNat n))), by simp only [xRune, cvS_eq]; rfl, fun ν tmps hv => ⟨.string (Utf8.encode (Int.ofNat n)), ⟨_, rfl, rfl⟩, fun w => ?_⟩⟩
  simp only [VR] at hv
  simp [execOp, ho, hv, convert, run_und (hp.und h1), run_und (hp.und h2), Conv.intToString]
 | neg k n =>
  refine ⟨.str (bytesL (Utf8.encode (Int.negSucc n))), by simp only [xRune, cvS_eq]; rfl, fun ν tmps hv => ⟨.string (Utf8.encode (Int.negSucc n)), ⟨_, rfl, rfl⟩, fun w => ?_⟩⟩
  simp only [VR] at hv
  simp [execOp, ho, hv, convert, run_und (hp.und h1), run_und (hp.und h2), Conv.intToString]
 | _ => exact absurd trivial hnb
end Go.Ev

namespace Go.Ev
open Go.RowKit
variable {P : Program}
theorem fK_eq {β : Type} (q : EK) (c : EK → β) : fK q c = c q := by
 obtain ⟨k, qs⟩ := q
 show fN k (fun k => c ⟨k, qs⟩) = _
 rw [fN_eq]
theorem cB_eq {β : Type} (b : Bool) (c : Bool → β) : cB b c = c b := by cases b <;> rfl
theorem run_shift {op : BinOp} (hop : op = .shl ∨ op = .shr) (k j : IntKind) (a : Int) (n : Nat) (t : TypeId) (xo yo : Operand) (w : World) :
  ((do eqGuard op t xo yo (.int k a) (.int j (.ofNat n)); binOp op t (.int k a) (.int j (.ofNat n))) : Sem Value).run P w =
   .ok (if op = .shl then .int k (k.wrap (a * 2 ^ (min n k.bits))) else .int k (a.fdiv (2 ^ (min n k.bits)))) w := by
 have h0 : ¬ (Int.ofNat n < 0) := by have := Int.natCast_nonneg n; simp only [Int.ofNat_eq_natCast]; omega
 rcases hop with rfl | rfl
 ·simp only [eqGuard, binOp, Op.shift, h0, if_false]; rfl
 ·simp only [eqGuard, binOp, Op.shift, h0, if_false]; rfl
theorem shOp_ok {op : BinOp} (hop : op = .shl ∨ op = .shr) {k : IntKind} {x : V} {n : Nat} {c : V → A} :
  ∃ v, c v = shOp op k x n c ∧ ∀ ν, VR ν v (if op = .shl then .int k (k.wrap (toI x * 2 ^ (min n k.bits))) else .int k ((toI x).fdiv (2 ^ (min n k.bits)))) := by
 rcases hop with rfl | rfl
 ·refine ⟨_, by simp only [shOp, fN_eq, wrapV_eq]; rfl, fun ν => ?_⟩
  have e : Int.mul (toI x) (Int.ofNat (Nat.pow 2 (min n k.bits))) = toI x * 2 ^ (min n k.bits) := by
   show toI x * ((2 ^ (min n k.bits) : Nat) : Int) = _
   rw [Int.natCast_pow]; rfl
  rw [if_pos rfl, e]; exact VR_iv ν _ _
 ·refine ⟨_, by simp only [shOp, fN_eq, ofI_iv]; rfl, fun ν => ?_⟩
  have e : (Int.ofNat (Nat.pow 2 (min n k.bits))) = (2 : Int) ^ (min n k.bits) := by
   show ((2 ^ (min n k.bits) : Nat) : Int) = _
   rw [Int.natCast_pow]; rfl
  rw [if_neg (by decide), e]; exact VR_iv ν _ _
theorem xShift_ok {op : BinOp} (hop : op = .shl ∨ op = .shr) {x y : V} {c : V → A} (hnb : ¬ (xShift op x y c).isBad) :
  ∃ v, c v = xShift op x y c ∧ ∀ {ν : Val} {a b : Value}, VR ν x a → VR ν y b → ∃ z, VR ν v z ∧ ∀ t xo yo w, ((do eqGuard op t xo yo a b; binOp op t a b) : Sem Value).run P w = .ok z w := by
 cases y with
 | nat j n =>
  cases x with
  | nat k m =>
   obtain ⟨v, h1, h2⟩ := shOp_ok (op := op) hop (k := k) (x := .nat k m) (n := n) (c := c)
   refine ⟨v, h1, fun {ν a b} ha hb => ⟨_, h2 ν, fun t xo yo w => ?_⟩⟩
   simp only [VR] at ha hb
   rw [ha, hb]; exact run_shift hop k j _ n t xo yo w
  | neg k m =>
   obtain ⟨v, h1, h2⟩ := shOp_ok (op := op) hop (k := k) (x := .neg k m) (n := n) (c := c)
   refine ⟨v, h1, fun {ν a b} ha hb => ⟨_, h2 ν, fun t xo yo w => ?_⟩⟩
   simp only [VR] at ha hb
   rw [ha, hb]; exact run_shift hop k j _ n t xo yo w
  | _ => exact absurd trivial hnb
 | _ => exact absurd trivial hnb
theorem pure_bin {pc : PC} (hp : PcOk P pc) {fi : FI} {ds : List Nat} {o : Oper} {b : BinOp} {t yt : TypeId} {x y : Operand} (ho : o.op = .binOp b t x y yt) : PureS P pc fi ds o := by
 intro r tm le s k hnb
 have fin : ∀ (X : V → V → (V → A) → A) (cst : Bool), (cst = true → isC x = true ∨ isC y = true) → op pc fi ds o = bi fi ds x y (fun u v s k => X u v fun z => k z s) →
   (∀ u v c, ¬ (X u v c).isBad → ∃ z, c z = X u v c ∧ ∀ {ν : Val} {a a' : Value}, VR ν u a → VR ν v a' → ∃ z', VR ν z z' ∧ ∀ xo yo w, (cst = true → isC xo = true ∨ isC yo = true) → ((do eqGuard b t xo yo a a'; binOp b t a a') : Sem Value).run P w = .ok z' w) →
   ∃ v, k v s = (op pc fi ds o).run r tm le s k ∧ ∀ ν tmps, Glob ν fi.ng → OpsR ν fi ds tm le tmps o → ∃ y, VR ν v y ∧ ∀ w, (execOp (ev tmps) o).run P w = .ok (.value y) w := by
  intro X cst hc e hX
  rw [e, bi_run] at hnb ⊢
  obtain ⟨u, h1, h2⟩ := opd_ok fi ds x tm le _ hnb
  rw [← h1] at hnb ⊢
  obtain ⟨v, h3, h4⟩ := opd_ok fi ds y tm le _ hnb
  rw [← h3] at hnb ⊢
  obtain ⟨z, h5, h6⟩ := hX u v _ hnb
  refine ⟨z, h5, fun ν tmps hG hf => ?_⟩
  obtain ⟨z', h7, h8⟩ := h6 (h2 ν tmps hG (hf _ (by simp [ho, Op.operands]))) (h4 ν tmps hG (hf _ (by simp [ho, Op.operands])))
  refine ⟨z', h7, fun w => ?_⟩
  have := h8 x y w hc
  simp only [execOp, ho]
  rw [Sem.run_bind, this]; rfl
 by_cases h1 : b = .shl
 ·subst h1
  exact fin (xShift .shl) false (by simp) (by simp only [op, ho]) (fun u v c hnb => by
   obtain ⟨z, g1, g2⟩ := xShift_ok (P := P) (.inl rfl) hnb
   exact ⟨z, g1, fun {ν a a'} ha ha' => by obtain ⟨z', g3, g4⟩ := g2 ha ha'; exact ⟨z', g3, fun xo yo w _ => g4 t xo yo w⟩⟩)
 ·by_cases h2 : b = .shr
  ·subst h2
   exact fin (xShift .shr) false (by simp) (by simp only [op, ho]) (fun u v c hnb => by
    obtain ⟨z, g1, g2⟩ := xShift_ok (P := P) (.inr rfl) hnb
    exact ⟨z, g1, fun {ν a a'} ha ha' => by obtain ⟨z', g3, g4⟩ := g2 ha ha'; exact ⟨z', g3, fun xo yo w _ => g4 t xo yo w⟩⟩)
  ·by_cases h3 : b = .eql ∨ b = .neq
   ·refine fin (xBin (pc.eqKind t) (isC x || isC y) b) (isC x || isC y) (by simp) ?_ (fun u v c hnb => ?_)
    ·rcases h3 with rfl | rfl <;> simp only [op, ho, fK_eq, cB_eq]
    ·obtain ⟨z, g1, g2⟩ := xBin_ok (P := P) hp (t := t) ⟨h1, h2⟩ (fun _ => rfl) hnb
     exact ⟨z, g1, fun {ν a a'} ha ha' => g2 ha ha'⟩
   ·refine fin (xBin ⟨9, []⟩ false b) false (by simp) ?_ (fun u v c hnb => ?_)
    ·cases b <;> first | (simp only [op, ho]; done) | exact absurd rfl h1 | exact absurd rfl h2 | exact absurd (.inl rfl) h3 | exact absurd (.inr rfl) h3
    ·obtain ⟨z, g1, g2⟩ := xBin_ok (P := P) hp (t := t) ⟨h1, h2⟩ (fun h => absurd h h3) hnb
     exact ⟨z, g1, fun {ν a a'} ha ha' => g2 ha ha'⟩
end Go.Ev

namespace Go.Ev
open Go.RowKit
variable {P : Program}
theorem xLoad_ok {ag : Bool} {sz : Nat} {p : V} {s : S} {k : V → S → A} (hnb : ¬ (xLoad ag sz p s k).isBad) : ∃ z, k z s = xLoad ag sz p s k ∧ ∀ (ν : Val) (w : World) (x : Value), Rows P ν s w → VR ν p x →
  ∃ a, x = .pointer (some a) ∧ ∀ t u, P.underlying t = some u → aggD u = ag → (ag = true → (P.info? t).map (·.size) = some sz) → ∃ z', VR ν z z' ∧ (loadVar t a).run P w = .ok z' w := by
 cases p with
 | ptr a v o =>
  cases ag with
  | true =>
   have e : xLoad true sz (.ptr a v o) s k = readCells s a v o sz (fun l => k (.ls 0 l) s) := rfl
   rw [e] at hnb ⊢
   obtain ⟨l, h1, h2⟩ := readCells_ok (P := P) hnb
   refine ⟨_, h1, fun ν w x hw hx => ?_⟩
   obtain ⟨b, δ, h3, h4⟩ := hx
   obtain ⟨cs, h5, h6, h7, h8⟩ := h2 hw b δ h3
   refine ⟨_, h4, fun t u hu hag hi => ⟨.agg cs.toArray, ⟨cs, h7, rfl, h8⟩, ?_⟩⟩
   exact run_loadVar_mid w b (δ + o) t cs u h6 hu (by cases u <;> simp [aggD] at hag <;> rfl) (by rw [h5]; exact hi rfl)
  | false =>
   have e : xLoad false sz (.ptr a v o) s k = readCell s a v o (fun x => k x s) := rfl
   rw [e] at hnb ⊢
   obtain ⟨l, h1, h2⟩ := readCell_ok (P := P) hnb
   refine ⟨_, h1, fun ν w x hw hx => ?_⟩
   obtain ⟨b, δ, h3, h4⟩ := hx
   obtain ⟨y, h5, h6, h7⟩ := h2 hw b δ h3
   refine ⟨_, h4, fun t u hu hag hi => ⟨y, h6, ?_⟩⟩
   simp [loadVar, run_ag hu, hag, h5]
 | _ => exact absurd trivial hnb
theorem read_bad {pc : PC} {fi : FI} {ds : List Nat} {o : Oper} {m : Nat} (h : op pc fi ds o = badO m) : ReadS P pc fi ds o := (pure_bad h).read
theorem read_load {pc : PC} (hp : PcOk P pc) {fi : FI} {ds : List Nat} {o : Oper} {t : TypeId} {x : Operand} (ho : o.op = .load t x) : ReadS P pc fi ds o := by
 have e : op pc fi ds o = op pc fi ds o := rfl
 conv at e => rhs; simp only [op, ho]
 have fin : ∀ (u : TypeDesc) (ag : Bool) (sz : Nat), P.underlying t = some u → aggD u = ag → (ag = true → (P.info? t).map (·.size) = some sz) → op pc fi ds o = un fi ds x (fun p s k => xLoad ag sz p s k) → ReadS P pc fi ds o := by
  intro u ag sz hu hag hi e r tm le s k hnb
  rw [e, un_run] at hnb ⊢
  obtain ⟨v, h1, h2⟩ := opd_ok fi ds x tm le _ hnb
  rw [← h1] at hnb ⊢
  obtain ⟨z, h3, h4⟩ := xLoad_ok (P := P) hnb
  refine ⟨z, h3, fun ν w tmps hw hG hf => ?_⟩
  obtain ⟨a, h5, h6⟩ := h4 ν w _ hw (h2 ν tmps hG (hf x (by simp [ho, Op.operands])))
  obtain ⟨z', h7, h8⟩ := h6 t u hu hag hi
  exact ⟨z', h7, by simp [execOp, ho, h5, Instr.loadAt, Instr.sureAddr, h8]⟩
 rcases PC.ag_or pc t (badO 24) _ with h | ⟨u, hu, h⟩
 ·exact read_bad (e.trans h)
 ·rw [h] at e
  cases hag : aggD u with
  | true =>
   rw [hag] at e
   simp only at e
   rcases PC.sz_or pc t (badO 24) _ with h | ⟨i, hi, h⟩
   ·exact read_bad (e.trans h)
   ·rw [h] at e
    exact fin u true i.size (hp.und hu) hag (fun _ => by rw [hp.info _ _ hi]; rfl) e
  | false =>
   rw [hag] at e
   exact fin u false 1 (hp.und hu) hag (fun h => by cases h) e
theorem boundN_ok {x : Option V} {d : Nat} {c : Nat → A} (hnb : ¬ (boundN x d c).isBad) : ∃ n, c n = boundN x d c ∧ ((x = none ∧ n = d) ∨ ∃ k, x = some (.nat k n)) := by
 cases x with
 | none => exact ⟨d, rfl, .inl ⟨rfl, rfl⟩⟩
 | some v => cases v with
  | nat k n => exact ⟨n, rfl, .inr ⟨k, rfl⟩⟩
  | _ => exact absurd trivial hnb
def BndR (x : Option Value) (d n : Nat) : Prop := (x = none ∧ n = d) ∨ ∃ k, x = some (.int k (Int.ofNat n))
def OpR (ν : Val) (x : Option V) (y : Option Value) : Prop := (x = none ∧ y = none) ∨ ∃ v z, x = some v ∧ y = some z ∧ VR ν v z
theorem BndR.of {ν : Val} {x : Option V} {y : Option Value} {d n : Nat} (h : (x = none ∧ n = d) ∨ ∃ k, x = some (.nat k n)) (hr : OpR ν x y) : BndR y d n := by
 rcases h with ⟨rfl, rfl⟩ | ⟨k, rfl⟩
 ·rcases hr with ⟨_, rfl⟩ | ⟨v, z, h, _⟩
  ·exact .inl ⟨rfl, rfl⟩
  ·cases h
 ·rcases hr with ⟨h, _⟩ | ⟨v, z, h1, h2, h3⟩
  ·cases h
  ·simp only [Option.some.injEq] at h1
   subst h1
   simp only [VR] at h3
   exact .inr ⟨k, by rw [h2, h3]⟩
theorem run_bound {k : IntKind} {n y : Nat} (h : n ≤ y) (code : BoundsCode) (w : World) : (Instr.sliceBound (.int k (n : Int)) y code).run P w = .ok n w := by
 simp [Instr.sliceBound, asIntOf, h]
theorem run_bounds {sl : Bool} {len cap l h m : Nat} {lo hi mx : Option Value} (hl : BndR lo 0 l) (hh : BndR hi len h) (hm : BndR mx cap m) (h1 : l ≤ h) (h2 : h ≤ m) (h3 : m ≤ cap) (h4 : mx.isSome = true → hi.isSome = true) (w : World) :
  (Instr.sliceBounds sl len cap lo hi mx).run P w = .ok (l, h, m) w := by
 rcases hl with ⟨rfl, rfl⟩ | ⟨kl, rfl⟩ <;> rcases hh with ⟨rfl, rfl⟩ | ⟨kh, rfl⟩ <;> rcases hm with ⟨rfl, rfl⟩ | ⟨km, rfl⟩ <;>
  first
   | (simp at h4; done)
   | simp [Instr.sliceBounds, run_bound, h1, h2, h3]
theorem optC_ok (fi : FI) (ds : List Nat) (x : Option Operand) (tm : T) (le : List V) (c : List V → A) (hnb : ¬ ((optC fi ds x).run tm le c).isBad) :
  ∃ l, c l = (optC fi ds x).run tm le c ∧ ∀ (ν : Val) (tmps : Array Value), Glob ν fi.ng → (∀ y, x = some y → OdR ν fi ds tm le tmps y) → OpR ν (optV l) (x.map (ev tmps)) := by
 cases x with
 | none => exact ⟨[], rfl, fun ν tmps _ _ => .inl ⟨rfl, rfl⟩⟩
 | some x =>
  have e : (optC fi ds (some x)).run tm le c = (opd fi ds x).run tm le fun v => c [v] := rfl
  rw [e] at hnb ⊢
  obtain ⟨v, h1, h2⟩ := opd_ok fi ds x tm le _ hnb
  exact ⟨[v], h1, fun ν tmps hG hf => .inr ⟨v, _, rfl, rfl, h2 ν tmps hG (hf x rfl)⟩⟩
theorem andB_true {a b : Bool} (h : andB a b = true) : a = true ∧ b = true := by cases a <;> cases b <;> simp_all [andB]
theorem sliceK_ok {sz : Nat} {a : K} {v o len cap : Nat} {lo hi mx : Option V} {c : V → A} (hnb : ¬ (xSliceK sz a v o len cap lo hi mx c).isBad) :
  ∃ l h m, ((lo = none ∧ l = 0) ∨ ∃ k, lo = some (.nat k l)) ∧ ((hi = none ∧ h = len) ∨ ∃ k, hi = some (.nat k h)) ∧ ((mx = none ∧ m = cap) ∨ ∃ k, mx = some (.nat k m)) ∧ l ≤ h ∧ h ≤ m ∧ m ≤ cap ∧
   c (.sl a v (if m = l then o else o + l * sz) (h - l) (m - l)) = xSliceK sz a v o len cap lo hi mx c := by
 unfold xSliceK at hnb ⊢
 obtain ⟨l, h1, h2⟩ := boundN_ok hnb
 rw [← h1] at hnb ⊢
 obtain ⟨h, h3, h4⟩ := boundN_ok hnb
 rw [← h3] at hnb ⊢
 obtain ⟨m, h5, h6⟩ := boundN_ok hnb
 rw [← h5] at hnb ⊢
 cases hc : andB (Nat.ble l h) (andB (Nat.ble h m) (Nat.ble m cap)) with
 | false => simp only [hc] at hnb; exact absurd trivial hnb
 | true =>
  obtain ⟨g1, g2⟩ := andB_true hc
  obtain ⟨g2, g3⟩ := andB_true g2
  refine ⟨l, h, m, h2, h4, h6, Nat.ble_eq.mp g1, Nat.ble_eq.mp g2, Nat.ble_eq.mp g3, ?_⟩
  simp only [fN_eq]
  congr 2
  cases hb : Nat.beq m l with
  | true => rw [if_pos (Nat.eq_of_beq_eq_true hb)]
  | false => rw [if_neg (fun e => by subst e; simp at hb)]; rfl
end Go.Ev

namespace Go.Ev
open Go.RowKit
variable {P : Program}
theorem hget_row {s : S} {a : K} {c : B → A} : hget s a c = c (Tr.get B.none a s.h) := hget_eq s a c
theorem slice_res {b x sz l m : Nat} : (if m = l then (some ⟨b, x, none⟩ : Option Addr) else (some ⟨b, x, none⟩ : Option Addr).map (·.add (l * sz))) = some ⟨b, if m = l then x else x + l * sz, none⟩ := by
 split <;> simp [add_off]
theorem xSlice_ok {el sz : Nat} {x : V} {lo hi mx : Option V} {s : S} {c : V → A} (hnb : ¬ (xSlice el sz x lo hi mx s c).isBad) :
  ∃ z, c z = xSlice el sz x lo hi mx s c ∧ ∀ (ν : Val) (w : World) (y : Value) (lo' hi' mx' : Option Value), Rows P ν s w → VR ν x y →
   OpR ν lo lo' → OpR ν hi hi' → OpR ν mx mx' →
   (mx'.isSome = true → hi'.isSome = true) → ∀ t i, P.underlying t = some (.slice el) → P.info? el = some i → i.size = sz → ∃ z', VR ν z z' ∧ (Instr.slice t y lo' hi' mx').run P w = .ok z' w := by
 cases x with
 | nil t =>
  unfold xSlice at hnb ⊢
  simp only at hnb ⊢
  obtain ⟨l, h1, h2⟩ := boundN_ok hnb
  rw [← h1] at hnb ⊢
  obtain ⟨h, h3, h4⟩ := boundN_ok hnb
  rw [← h3] at hnb ⊢
  obtain ⟨m, h5, h6⟩ := boundN_ok hnb
  rw [← h5] at hnb ⊢
  cases hc : andB (Nat.beq t 1) (andB (Nat.beq l 0) (andB (Nat.beq h 0) (Nat.beq m 0))) with
  | false => simp only [hc] at hnb; exact absurd trivial hnb
  | true =>
   obtain ⟨g1, g2⟩ := andB_true hc
   obtain ⟨g2, g3⟩ := andB_true g2
   obtain ⟨g3, g4⟩ := andB_true g3
   have e1 := Nat.eq_of_beq_eq_true g1
   have e2 := Nat.eq_of_beq_eq_true g2
   have e3 := Nat.eq_of_beq_eq_true g3
   have e4 := Nat.eq_of_beq_eq_true g4
   subst e1 e2 e3 e4
   refine ⟨.nil 1, by simp only, fun ν w y lo' hi' mx' _ hy q1 q2 q3 q4 t i ht hi hs => ⟨.slice none 0 0, rfl, ?_⟩⟩
   simp only [VR] at hy
   subst hy
   have hb := run_bounds (P := P) (sl := true) (len := 0) (cap := 0) (BndR.of h2 q1) (BndR.of h4 q2) (BndR.of h6 q3) (Nat.le_refl _) (Nat.le_refl _) (Nat.le_refl _) q4 w
   simp [Instr.slice, run_und ht, hb, run_sz hi]
 | sl a v o len cap =>
  have e : xSlice el sz (.sl a v o len cap) lo hi mx s c = xSliceK sz a v o len cap lo hi mx c := rfl
  rw [e] at hnb ⊢
  obtain ⟨l, h, m, h1, h2, h3, h4, h5, h6, h7⟩ := sliceK_ok hnb
  refine ⟨_, h7, fun ν w y lo' hi' mx' _ hy q1 q2 q3 q4 t i ht hi hs => ?_⟩
  obtain ⟨b, δ, g1, g2, g3⟩ := hy
  refine ⟨_, ⟨b, δ, g1, rfl, by omega⟩, ?_⟩
  have hb := run_bounds (P := P) (sl := true) (len := len) (cap := cap) (BndR.of h1 q1) (BndR.of h2 q2) (BndR.of h3 q3) h4 h5 h6 q4 w
  subst g2
  simp only [Instr.slice, Sem.run_bind, run_und ht, Result.andThen_ok, hb, run_sz hi, hs, Sem.run_pure, slice_res]
  congr 3
  split <;> simp [Nat.add_assoc]
 | so a v o len e0 =>
  unfold xSlice at hnb ⊢
  simp only [hget_row] at hnb ⊢
  generalize hB : Tr.get B.none a s.h = B' at hnb ⊢
  cases B' with
  | row l0 n el' gr mn f1 f2 =>
   simp only [] at hnb ⊢
   cases hel : Nat.beq el el' with
   | false => rw [hel] at hnb; exact absurd trivial hnb
   | true =>
    have hel' := Nat.eq_of_beq_eq_true hel
    subst hel'
    simp only [hel, fN_eq] at hnb ⊢
    generalize hsu : (Bool.rec len ((n.sub o).div sz) (andB gr (Nat.beq v n)) : Nat) = sure at hnb ⊢
    -- what the machine's capacity is worth
    have hsure : ∀ (ν : Val) (w : World) (b δ cap : Nat) (i : TypeInfo), Rows P ν s w → ν.blk a v = some (b, δ) → len ≤ cap → ν.cap a v = e0 + cap → o = e0 * ν.sz a → P.info? el = some i → i.size = sz → sure ≤ cap ∧ ν.sz a = sz := by
     intro ν w b δ cap i hw hb hlen hcap ho hi hs
     have hrow := hw a
     rw [hB] at hrow
     obtain ⟨cc, fz, g1, g2, g3, g4, g5⟩ := hrow.at_ v b δ hb
     have hsz : ν.sz a = sz := by rw [g2, Program.cellsOf, hi]; exact hs
     refine ⟨?_, hsz⟩
     cases hq : andB gr (Nat.beq v n) with
     | false => rw [hq] at hsu; rw [← hsu]; exact hlen
     | true =>
      rw [hq] at hsu
      obtain ⟨k1, k2⟩ := andB_true hq
      have k3 := Nat.eq_of_beq_eq_true k2
      obtain ⟨_, k4⟩ := g4 k1
      rw [hsz, hcap, k3] at k4
      have hsu : (n - o) / sz = sure := hsu
      rw [← hsu]
      rcases Nat.eq_zero_or_pos sz with hz | hz
      ·rw [hz]; simp
      ·rw [Nat.div_le_iff_le_mul_add_pred hz]
       rw [ho, hsz]
       have : (e0 + cap) * sz = e0 * sz + cap * sz := Nat.add_mul _ _ _
       rw [Nat.mul_comm sz cap]
       omega
    obtain ⟨l, h1, h2⟩ := boundN_ok hnb
    rw [← h1] at hnb ⊢
    obtain ⟨h, h3, h4⟩ := boundN_ok hnb
    rw [← h3] at hnb ⊢
    cases mx with
    | none =>
     simp only at hnb ⊢
     cases hc : andB (Nat.ble l h) (Nat.ble h sure) with
     | false => rw [hc] at hnb; exact absurd trivial hnb
     | true =>
      obtain ⟨g1, g2⟩ := andB_true hc
      have g1 := Nat.ble_eq.mp g1
      have g2 := Nat.ble_eq.mp g2
      simp only [hc] at hnb ⊢
      have core : ∀ (ν : Val) (w : World) (y : Value) (lo' hi' mx' : Option Value), Rows P ν s w → VR ν (.so a v o len e0) y →
        OpR ν lo lo' → OpR ν hi hi' → OpR ν none mx' →
        ∀ t i, P.underlying t = some (.slice el) → P.info? el = some i → i.size = sz → ∃ b δ cap, ν.blk a v = some (b, δ) ∧ h ≤ cap ∧ len ≤ cap ∧ ν.cap a v = e0 + cap ∧ o = e0 * ν.sz a ∧ ν.sz a = sz ∧
         (Instr.slice t y lo' hi' mx').run P w = .ok (.slice (some ⟨b, if cap = l then δ + o else δ + o + l * sz, none⟩) (h - l) (cap - l)) w := by
       intro ν w y lo' hi' mx' hw hy q1 q2 q3 t i ht hi hs
       obtain ⟨b, δ, cap, k1, k2, k3, k4, k5⟩ := hy
       obtain ⟨k6, k7⟩ := hsure ν w b δ cap i hw k1 k3 k4 k5 hi hs
       rcases q3 with ⟨_, rfl⟩ | ⟨_, _, q, _⟩
       ·refine ⟨b, δ, cap, k1, by omega, k3, k4, k5, k7, ?_⟩
        subst k2
        have hb := run_bounds (P := P) (sl := true) (len := len) (cap := cap) (BndR.of h2 q1) (BndR.of h4 q2) (.inl ⟨rfl, rfl⟩) g1 (by omega) (Nat.le_refl _) (by simp) w
        simp only [Instr.slice, Sem.run_bind, run_und ht, Result.andThen_ok, hb, run_sz hi, hs, Sem.run_pure, slice_res]
       ·cases q
      cases hlh : Nat.beq l h with
      | true =>
       have elh := Nat.eq_of_beq_eq_true hlh
       simp only [hlh] at hnb ⊢
       cases hl0 : Nat.beq l 0 with
       | true =>
        have el0 := Nat.eq_of_beq_eq_true hl0
        refine ⟨_, rfl, fun ν w y lo' hi' mx' hw hy q1 q2 q3 q4 t i ht hi hs => ?_⟩
        obtain ⟨b, δ, cap, k1, k2, k3, k4, k5, k6, k7⟩ := core ν w y lo' hi' mx' hw hy q1 q2 q3 t i ht hi hs
        refine ⟨_, ?_, k7⟩
        subst el0
        refine ⟨b, δ, cap, k1, ?_, by omega, k4, k5⟩
        rw [← elh]
        simp
       | false =>
        refine ⟨_, rfl, fun ν w y lo' hi' mx' hw hy q1 q2 q3 q4 t i ht hi hs => ?_⟩
        obtain ⟨b, δ, cap, k1, k2, k3, k4, k5, k6, k7⟩ := core ν w y lo' hi' mx' hw hy q1 q2 q3 t i ht hi hs
        refine ⟨_, ?_, k7⟩
        have e1 : (e0 + cap) * sz = e0 * sz + cap * sz := Nat.add_mul _ _ _
        have e2 : (cap - l) * sz = cap * sz - l * sz := Nat.sub_mul _ _ _
        have e3 : l * sz ≤ cap * sz := Nat.mul_le_mul_right _ (by omega)
        refine .inr ⟨v, b, δ, if cap = l then δ + o else δ + o + l * sz, cap - l, k1, by rw [elh]; simp, by split <;> omega, ?_⟩
        rw [k6, k4, e1, e2, k5, k6]
        split
        ·rename_i h; subst h; omega
        ·omega
      | false =>
       have elh : l ≠ h := fun e => by subst e; simp at hlh
       refine ⟨_, rfl, fun ν w y lo' hi' mx' hw hy q1 q2 q3 q4 t i ht hi hs => ?_⟩
       obtain ⟨b, δ, cap, k1, k2, k3, k4, k5, k6, k7⟩ := core ν w y lo' hi' mx' hw hy q1 q2 q3 t i ht hi hs
       refine ⟨_, ?_, k7⟩
       refine ⟨b, δ, cap - l, k1, ?_, by show h - l ≤ cap - l; omega, by show ν.cap a v = e0 + l + (cap - l); omega, ?_⟩
       ·rw [if_neg (by omega)]
        show _ = Value.slice (some ⟨b, δ + (o + l * sz), none⟩) (h - l) (cap - l)
        rw [Nat.add_assoc]
       ·show o + l * sz = (e0 + l) * ν.sz a
        rw [k6, Nat.add_mul, k5, k6]
    | some mv =>
     simp only at hnb ⊢
     obtain ⟨m, h5, h6⟩ := boundN_ok hnb
     rw [← h5] at hnb ⊢
     cases hc : andB (Nat.ble l h) (andB (Nat.ble h m) (Nat.ble m sure)) with
     | false => simp only [hc] at hnb; exact absurd trivial hnb
     | true =>
      obtain ⟨g1, g2⟩ := andB_true hc
      obtain ⟨g2, g3⟩ := andB_true g2
      have g1 := Nat.ble_eq.mp g1
      have g2 := Nat.ble_eq.mp g2
      have g3 := Nat.ble_eq.mp g3
      refine ⟨.sl a v (if m = l then o else o + l * sz) (h - l) (m - l), ?_, fun ν w y lo' hi' mx' hw hy q1 q2 q3 q4 t i ht hi hs => ?_⟩
      ·simp only
       congr 2
       cases hb : Nat.beq m l with
       | true => rw [if_pos (Nat.eq_of_beq_eq_true hb)]
       | false => rw [if_neg (fun e => by subst e; simp at hb)]; rfl
      ·obtain ⟨b, δ, cap, k1, k2, k3, k4, k5⟩ := hy
       obtain ⟨k6, k7⟩ := hsure ν w b δ cap i hw k1 k3 k4 k5 hi hs
       refine ⟨_, ⟨b, δ, k1, rfl, by omega⟩, ?_⟩
       have hmx : BndR mx' cap m := by
        rcases h6 with ⟨h, _⟩ | ⟨k, h⟩
        ·cases h
        ·exact BndR.of (.inr ⟨k, h⟩) q3
       have hb := run_bounds (P := P) (sl := true) (len := len) (cap := cap) (BndR.of h2 q1) (BndR.of h4 q2) hmx g1 g2 (by omega) q4 w
       subst k2
       simp only [Instr.slice, Sem.run_bind, run_und ht, Result.andThen_ok, hb, run_sz hi, hs, Sem.run_pure, slice_res]
       congr 3
       split <;> simp [Nat.add_assoc]
  | _ => exact absurd trivial hnb
 | ref t a =>
  unfold xSlice at hnb ⊢
  simp only at hnb ⊢
  obtain ⟨l, h1, h2⟩ := boundN_ok hnb
  rw [← h1] at hnb ⊢
  obtain ⟨h, h3, h4⟩ := boundN_ok hnb
  rw [← h3] at hnb ⊢
  cases mx with
  | some m => exact absurd trivial hnb
  | none =>
   simp only at hnb ⊢
   cases hc : andB (Nat.beq t 1) (andB (Nat.beq l 0) (Nat.beq h 0)) with
   | false => rw [hc] at hnb; exact absurd trivial hnb
   | true =>
    obtain ⟨g1, g2⟩ := andB_true hc
    obtain ⟨g2, g3⟩ := andB_true g2
    have e1 := Nat.eq_of_beq_eq_true g1
    have e2 := Nat.eq_of_beq_eq_true g2
    have e3 := Nat.eq_of_beq_eq_true g3
    subst e1 e2 e3
    refine ⟨.ref 1 a, by simp only, fun ν w y lo' hi' mx' _ hy q1 q2 q3 q4 t i ht hi hs => ⟨y, hy, ?_⟩⟩
    rcases hy with ⟨ad, k2⟩ | ⟨v, b, δ, off, cap, k1, k2, k3, k4⟩
    ·subst k2
     rcases q3 with ⟨_, rfl⟩ | ⟨_, _, q, _⟩
     ·have hb := run_bounds (P := P) (sl := true) (len := 0) (cap := 0) (BndR.of h2 q1) (BndR.of h4 q2) (.inl ⟨rfl, rfl⟩) (Nat.le_refl _) (Nat.zero_le _) (Nat.le_refl _) (by simp) w
      simp only [Instr.slice, Sem.run_bind, run_und ht, Result.andThen_ok, hb, run_sz hi, hs, Sem.run_pure]
      simp
     ·cases q
    subst k2
    rcases q3 with ⟨_, rfl⟩ | ⟨_, _, q, _⟩
    ·have hb := run_bounds (P := P) (sl := true) (len := 0) (cap := cap) (BndR.of h2 q1) (BndR.of h4 q2) (.inl ⟨rfl, rfl⟩) (Nat.le_refl _) (Nat.zero_le _) (Nat.le_refl _) (by simp) w
     simp only [Instr.slice, Sem.run_bind, run_und ht, Result.andThen_ok, hb, run_sz hi, hs, Sem.run_pure, slice_res]
     simp
    ·cases q
 | _ => exact absurd trivial hnb
end Go.Ev

namespace Go.Ev
open Go.RowKit
variable {P : Program}
theorem bytesL_extract (s : ByteArray) (a b : Nat) : bytesL (s.extract a b) = ((bytesL s).drop a).take (b - a) := by
 unfold bytesL
 have : (s.extract a b).data.toList = (s.data.toList.drop a).take (b - a) := by
  rw [ByteArray.data_extract]; simp [List.extract_eq_take_drop]
 rw [this, List.map_take, List.map_drop]
theorem xSliceT_ok {x : V} {lo hi : Option V} {c : V → A} (hnb : ¬ (xSliceT x lo hi c).isBad) : ∃ z, c z = xSliceT x lo hi c ∧ ∀ (ν : Val) (y : Value) (lo' hi' : Option Value), VR ν x y → OpR ν lo lo' → OpR ν hi hi' →
  ∀ t, P.underlying t = some .string → ∃ z', VR ν z z' ∧ ∀ w, (Instr.slice t y lo' hi' none).run P w = .ok z' w := by
 cases x with
 | str l0 =>
  unfold xSliceT at hnb ⊢
  simp only [lenL_eq] at hnb ⊢
  obtain ⟨l, h1, h2⟩ := boundN_ok hnb
  rw [← h1] at hnb ⊢
  obtain ⟨h, h3, h4⟩ := boundN_ok hnb
  rw [← h3] at hnb ⊢
  cases hc : andB (Nat.ble l h) (Nat.ble h l0.length) with
  | false => simp only [hc] at hnb; exact absurd trivial hnb
  | true =>
   obtain ⟨g1, g2⟩ := andB_true hc
   have g1 := Nat.ble_eq.mp g1
   have g2 := Nat.ble_eq.mp g2
   refine ⟨_, by simp only [dropL_eq, takeL_eq]; rfl, fun ν y lo' hi' hy q1 q2 t ht => ?_⟩
   obtain ⟨s, e1, e2⟩ := hy
   subst e1
   refine ⟨.string (s.extract l h), ⟨_, rfl, by rw [bytesL_extract, e2]; rfl⟩, fun w => ?_⟩
   have hsz : l0.length = s.size := by rw [← e2, bytesL_length]
   rw [hsz] at h4 g2
   have hb := run_bounds (P := P) (sl := false) (len := s.size) (cap := s.size) (BndR.of h2 q1) (BndR.of h4 q2) (.inl ⟨rfl, rfl⟩) g1 g2 (Nat.le_refl _) (by simp) w
   simp [Instr.slice, run_und ht, hb]
 | _ => exact absurd trivial hnb
theorem read_slice {pc : PC} (hp : PcOk P pc) {fi : FI} {ds : List Nat} {o : Oper} {t : TypeId} {x : Operand} {lo hi mx : Option Operand} (ho : o.op = .slice t x lo hi mx) : ReadS P pc fi ds o := by
 have e : op pc fi ds o = op pc fi ds o := rfl
 conv at e => rhs; simp only [op, ho]
 rcases chk_or (optOk hi mx) (badO 148) _ with h | ⟨hopt, h⟩
 ·exact read_bad (e.trans h)
 rw [h] at e
 have hm4 : ∀ ρ : Operand → Value, (mx.map ρ).isSome = true → (hi.map ρ).isSome = true := by
  intro ρ; cases mx <;> cases hi <;> simp_all [optOk]
 have mem : ∀ {ν : Val} {tmps : Array Value} {tm : T} {le : List V}, OpsR ν fi ds tm le tmps o → OdR ν fi ds tm le tmps x ∧ (∀ y, lo = some y → OdR ν fi ds tm le tmps y) ∧ (∀ y, hi = some y → OdR ν fi ds tm le tmps y) ∧ (∀ y, mx = some y → OdR ν fi ds tm le tmps y) := by
  intro ν tmps tm le hf
  refine ⟨hf x (by simp [ho, Op.operands]), fun y hy => hf y (by simp [ho, Op.operands, hy]), fun y hy => hf y (by simp [ho, Op.operands, hy]), fun y hy => hf y (by simp [ho, Op.operands, hy])⟩
 have fin : ∀ (X : V → Option V → Option V → Option V → S → (V → A) → A),
   (∀ r tm le s k, (op pc fi ds o).run r tm le s k = (opd fi ds x).run tm le fun x => (optC fi ds lo).run tm le fun l => (optC fi ds hi).run tm le fun h => (optC fi ds mx).run tm le fun m => X x (optV l) (optV h) (optV m) s fun v => k v s) →
   (∀ u l h m s c, ¬ (X u l h m s c).isBad → ∃ z, c z = X u l h m s c ∧ ∀ (ν : Val) (w : World) (tmps : Array Value), Rows P ν s w → VR ν u (ev tmps x) → OpR ν l (lo.map (ev tmps)) → OpR ν h (hi.map (ev tmps)) → OpR ν m (mx.map (ev tmps)) →
    ∃ z', VR ν z z' ∧ (execOp (ev tmps) o).run P w = .ok (.value z') w) → ReadS P pc fi ds o := by
  intro X e hX r tm le s k hnb
  rw [e] at hnb ⊢
  obtain ⟨u, h1, h2⟩ := opd_ok fi ds x tm le _ hnb
  rw [← h1] at hnb ⊢
  obtain ⟨l, h3, h4⟩ := optC_ok fi ds lo tm le _ hnb
  rw [← h3] at hnb ⊢
  obtain ⟨h, h5, h6⟩ := optC_ok fi ds hi tm le _ hnb
  rw [← h5] at hnb ⊢
  obtain ⟨m, h7, h8⟩ := optC_ok fi ds mx tm le _ hnb
  rw [← h7] at hnb ⊢
  obtain ⟨z, h9, h10⟩ := hX _ _ _ _ _ _ hnb
  refine ⟨z, h9, fun ν w tmps hw hG hf => ?_⟩
  obtain ⟨m1, m2, m3, m4⟩ := mem hf
  exact h10 ν w tmps hw (h2 ν tmps hG m1) (h4 ν tmps hG m2) (h6 ν tmps hG m3) (h8 ν tmps hG m4)
 cases hu : pc.und t with
 | none => rw [hu] at e; exact read_bad e
 | some d =>
  rw [hu] at e
  cases d with
  | slice el =>
   simp only at e
   rcases PC.sz_or pc el (badO 148) _ with h | ⟨j, hj, h⟩
   ·exact read_bad (e.trans h)
   ·rw [h] at e
    simp only [fN_eq] at e
    refine fin (fun x l h m s c => xSlice el j.size x l h m s c) (fun r tm le s k => by rw [e]) (fun u l h m s c hnb => ?_)
    obtain ⟨z, h1, h2⟩ := xSlice_ok (P := P) hnb
    refine ⟨z, h1, fun ν w tmps hw hx hl hh hm => ?_⟩
    obtain ⟨z', h3, h4⟩ := h2 ν w _ _ _ _ hw hx hl hh hm (hm4 _) t j (hp.und hu) (hp.info _ _ hj) rfl
    refine ⟨z', h3, ?_⟩
    simp [execOp, ho, Instr.sliceAt, run_und (hp.und hu), h4]
  | string =>
   simp only at e
   cases mx with
   | some m => exact read_bad e
   | none =>
    refine fin (fun x l h m s c => xSliceT x l h c) (fun r tm le s k => by rw [e]; rfl) (fun u l h m s c hnb => ?_)
    obtain ⟨z, h1, h2⟩ := xSliceT_ok (P := P) hnb
    refine ⟨z, h1, fun ν w tmps hw hx hl hh hm => ?_⟩
    obtain ⟨z', h3, h4⟩ := h2 ν _ _ _ hx hl hh t (hp.und hu)
    refine ⟨z', h3, ?_⟩
    simp [execOp, ho, Instr.sliceAt, run_und (hp.und hu), h4]
  | array n el =>
   simp only [fN_eq] at e
   rcases PC.sz_or pc el (badO 148) _ with h | ⟨j, hj, h⟩
   ·exact read_bad (e.trans h)
   ·rw [h] at e
    refine fin (fun x l h m s c => xSliceA j.size n x l h m c) (fun r tm le s k => by rw [e]) (fun u l h m s c hnb => ?_)
    cases u with
    | ptr a v p =>
     have e2 : xSliceA j.size n (.ptr a v p) l h m c = xSliceK j.size a v p n n l h m c := rfl
     rw [e2] at hnb ⊢
     obtain ⟨l', h', m', h1, h2, h3, h4, h5, h6, h7⟩ := sliceK_ok hnb
     refine ⟨_, h7, fun ν w tmps hw hx hl hh hm => ?_⟩
     obtain ⟨b, δ, g1, g2⟩ := hx
     have hb := run_bounds (P := P) (sl := false) (len := n) (cap := n) (BndR.of h1 hl) (BndR.of h2 hh) (BndR.of h3 hm) h4 h5 h6 (hm4 _) w
     refine ⟨.slice (some ⟨b, δ + (if m' = l' then p else p + l' * j.size), none⟩) (h' - l') (m' - l'), ⟨b, δ, g1, rfl, by omega⟩, ?_⟩
     simp only [execOp, ho, Instr.sliceAt, Sem.run_bind, run_und (hp.und hu), Result.andThen_ok, g2, Instr.sureAddr, Sem.run_pure, hb, run_sz (hp.info _ _ hj)]
     congr 4
     split <;> simp [add_off, Nat.add_assoc]
    | _ => exact absurd trivial hnb
  | _ => exact read_bad e
theorem bytesC_ok {l : List V} {c : List Nat → A} (hnb : ¬ (bytesC l c).isBad) : ∃ bs : List Nat, c bs = bytesC l c ∧ (∀ b ∈ bs, b < 256) ∧ l = bs.map fun b => V.nat .u8 b := by
 induction l generalizing c with
 | nil => exact ⟨[], rfl, by simp, rfl⟩
 | cons x l ih =>
  cases x with
  | nat k n =>
   have e : bytesC (.nat k n :: l) c = Bool.rec (motive := fun _ => A) (.bad 100) (bytesC l fun l => c (n :: l)) (andB (kbeq k .u8) (Nat.blt n 256)) := rfl
   rw [e] at hnb ⊢
   cases hc : andB (kbeq k .u8) (Nat.blt n 256) with
   | false => rw [hc] at hnb; exact absurd trivial hnb
   | true =>
    rw [hc] at hnb
    obtain ⟨g1, g2⟩ := andB_true hc
    have g1 := (kbeq_iff _ _).1 g1
    have g2 : n < 256 := by simpa [Nat.blt_eq] using g2
    obtain ⟨bs, h1, h2, h3⟩ := ih hnb
    subst g1
    exact ⟨n :: bs, h1, fun b hb => (by
     rcases List.mem_cons.1 hb with h | h
     ·rw [h]; exact g2
     ·exact h2 b h), by rw [h3]; rfl⟩
  | _ => exact absurd trivial hnb
theorem VRs_bytes {ν : Val} : ∀ {bs : List Nat} {cs : List Value}, VRs ν (bs.map fun b => V.nat .u8 b) cs → cs = bs.map fun b => Value.int .u8 (Int.ofNat b)
 | [], _, h => h
 | b :: bs, _, ⟨x, r, e, h1, h2⟩ => by
  subst e
  simp only [VR] at h1
  rw [h1, VRs_bytes h2]; rfl
theorem bytesL_push : ∀ (bs : List Nat) (s : ByteArray), (∀ b ∈ bs, b < 256) → bytesL (bs.foldl (fun s b => s.push (UInt8.ofNat b)) s) = bytesL s ++ bs
 | [], s, _ => by simp
 | b :: bs, s, h => by
  simp only [List.foldl_cons]
  rw [bytesL_push bs _ (fun x hx => h x (by simp [hx]))]
  have : bytesL (s.push (UInt8.ofNat b)) = bytesL s ++ [b] := by
   unfold bytesL
   have : (s.push (UInt8.ofNat b)).data.toList = s.data.toList ++ [UInt8.ofNat b] := by simp [ByteArray.push]
   rw [this, List.map_append]
   have := h b (by simp)
   simp; omega
  rw [this]; simp
theorem xStrOf_ok {x : V} {s : S} {c : V → A} (hnb : ¬ (xStrOf x s c).isBad) : ∃ z, c z = xStrOf x s c ∧ ∀ (ν : Val) (w : World) (y : Value), Rows P ν s w → VR ν x y →
  ∃ a l cp, y = .slice a l cp ∧ ∃ z', VR ν z z' ∧ (Conv.bytesToString y).run P w = .ok z' w := by
 have emp : bytesL ByteArray.empty = [] := rfl
 have mem : ∀ (a : K) (v o len : Nat), ¬ (readCells s a v o len (fun l => bytesC l fun b => c (.str b))).isBad → ∃ z, c z = readCells s a v o len (fun l => bytesC l fun b => c (.str b)) ∧ ∀ (ν : Val) (w : World) (b δ cap : Nat), Rows P ν s w → ν.blk a v = some (b, δ) →
   ∃ z', VR ν z z' ∧ (Conv.bytesToString (.slice (some ⟨b, δ + o, none⟩) len cap)).run P w = .ok z' w := by
  intro a v o len hnb
  obtain ⟨l, h1, h2⟩ := readCells_ok (P := P) hnb
  rw [← h1] at hnb ⊢
  obtain ⟨bs, h3, h4, h5⟩ := bytesC_ok hnb
  refine ⟨_, h3, fun ν w b δ cap hw hb => ?_⟩
  obtain ⟨cs, g1, g2, g3, g4⟩ := h2 hw b δ hb
  rw [h5] at g3
  have g5 := VRs_bytes g3
  have hl : (loadCells ⟨b, δ + o, none⟩ len).run P w = .ok ((bs.map fun b => (Int.ofNat b)).map (Value.int .u8)).toArray w := by
   have := run_loadCells_list (P := P) (w := w) ⟨b, δ + o, none⟩ cs (fun j v hv => by rw [add_off]; exact g2 j v hv)
   rw [g1] at this
   rw [this, g5]
   simp
  rw [run_bytesToString w _ len cap _ hl]
  refine ⟨_, ⟨_, rfl, ?_⟩, rfl⟩
  rw [List.foldl_map]
  have := bytesL_push bs ByteArray.empty h4
  rw [emp] at this
  simpa using this
 cases x with
 | nil t =>
  unfold xStrOf at hnb ⊢
  simp only at hnb ⊢
  cases ht : Nat.beq t 1 with
  | false => rw [ht] at hnb; exact absurd trivial hnb
  | true =>
   have := Nat.eq_of_beq_eq_true ht
   subst this
   refine ⟨.str [], by simp only, fun ν w y _ hy => ?_⟩
   simp only [VR] at hy
   subst hy
   exact ⟨none, 0, 0, rfl, .string .empty, ⟨_, rfl, rfl⟩, rfl⟩
 | ref t a =>
  unfold xStrOf at hnb ⊢
  simp only at hnb ⊢
  cases ht : Nat.beq t 1 with
  | false => rw [ht] at hnb; exact absurd trivial hnb
  | true =>
   have := Nat.eq_of_beq_eq_true ht
   subst this
   refine ⟨.str [], by simp only, fun ν w y _ hy => ?_⟩
   obtain ⟨_, cap, rfl⟩ := VR.ref1 hy
   refine ⟨_, 0, cap, rfl, .string .empty, ⟨_, rfl, rfl⟩, ?_⟩
   simp [Conv.bytesToString, loadCells, loadCellsFrom]
 | sl a v o len cap =>
  have e : xStrOf (.sl a v o len cap) s c = readCells s a v o len (fun l => bytesC l fun b => c (.str b)) := rfl
  rw [e] at hnb ⊢
  obtain ⟨z, h1, h2⟩ := mem a v o len hnb
  refine ⟨z, h1, fun ν w y hw hy => ?_⟩
  obtain ⟨b, δ, g1, g2, _⟩ := hy
  subst g2
  exact ⟨_, _, _, rfl, h2 ν w b δ cap hw g1⟩
 | so a v o len e0 =>
  have e : xStrOf (.so a v o len e0) s c = readCells s a v o len (fun l => bytesC l fun b => c (.str b)) := rfl
  rw [e] at hnb ⊢
  obtain ⟨z, h1, h2⟩ := mem a v o len hnb
  refine ⟨z, h1, fun ν w y hw hy => ?_⟩
  obtain ⟨b, δ, cap, g1, g2, _⟩ := hy
  subst g2
  exact ⟨_, _, _, rfl, h2 ν w b δ cap hw g1⟩
 | _ => exact absurd trivial hnb
theorem read_strOf {pc : PC} (hp : PcOk P pc) {fi : FI} {ds : List Nat} {o : Oper} {src dst el : TypeId} {x : Operand} (ho : o.op = .convert src dst x) (h1 : pc.und src = some (.slice el)) (h2 : pc.und dst = some .string) (h3 : pc.und el = some (.int .u8)) : ReadS P pc fi ds o := by
 refine read_un (x := x) (X := xStrOf) (by simp only [op, ho, h1, h2, h3]) (by simp [ho, Op.operands]) (fun v s c hnb => ?_)
 obtain ⟨z, g1, g2⟩ := xStrOf_ok (P := P) hnb
 refine ⟨z, g1, fun ν w tmps hw hv => ?_⟩
 obtain ⟨a, l, cp, g3, z', g4, g5⟩ := g2 ν w _ hw hv
 refine ⟨z', g4, ?_⟩
 rw [g3] at g5
 simp [execOp, ho, g3, run_convert_bytes_string w src dst el a l cp (hp.und h1) (hp.und h3) (hp.und h2), g5]
theorem shape_of {w : World} {b : Nat} {c : Array Value} {el : TypeId} {fz : Nat × Nat} (h : w.heap[b]? = some (.cells c el fz)) : w.shape? b = some (el, c.size) := by simp [World.shape?, h]
theorem liesAt_same {e : TypeId} (hc : P.cellsOf e ≠ 0) (count off n : Nat) (h0 : off % P.cellsOf e = 0) (hn : off / P.cellsOf e + n ≤ count) : liesAt P P.depth e count off e n = true := by
 have hd : P.depth = (2 * (P.types.size + Made.depth) + 1) + 1 := rfl
 rw [hd]
 simp only [liesAt, Bool.or_eq_true]
 left
 rw [hd]
 simp [rowAt, hc, hn, h0, sameLayout]
theorem row_in {ν : Val} {w : World} {a : K} {l : List V} {n el : Nat} {gr : Bool} {mn f1 f2 v b δ o : Nat} (h : RowR P ν w a l n el gr mn f1 f2) (hb : ν.blk a v = some (b, δ)) (hr : rdOk n gr mn v (Nat.succ o) = true) :
  ∃ c fz, w.heap[b]? = some (.cells c el fz) ∧ δ + o < c.size := by
 obtain ⟨h1, h2⟩ := (rdOk_iff _ _ _ _ _).1 hr
 obtain ⟨c, fz, hc, _, _, _, hcell⟩ := h.at_ v b δ hb
 have hlen := h.len
 have ho : o < l.length := by
  rw [hlen]
  cases gr
  ·have := h2 rfl; omega
  ·have := h1 rfl; omega
 obtain ⟨y, hy, _⟩ := hcell (fun g => (h1 g).1) o _ (List.getElem?_eq_getElem ho) (fun g => by have := h1 g; omega)
 exact ⟨c, fz, hc, (Array.getElem?_eq_some_iff.1 hy).1⟩
theorem read_toUnsafe {pc : PC} (hp : PcOk P pc) {fi : FI} {ds : List Nat} {o : Oper} {src dst el : TypeId} {x : Operand} (ho : o.op = .convert src dst x) (h1 : pc.und src = some (.pointer el)) (h2 : pc.und dst = some .unsafePointer) : ReadS P pc fi ds o := by
 have e : op pc fi ds o = op pc fi ds o := rfl
 conv at e => rhs; simp only [op, ho, h1, h2]
 rcases PC.sz_or pc el (badO 144) _ with h | ⟨i, hi, h⟩
 ·exact read_bad (e.trans h)
 ·rw [h] at e
  rcases chk_or (!(Nat.beq i.size 0)) (badO 144) _ with h | ⟨hz, h⟩
  ·exact read_bad (e.trans h)
  ·rw [h] at e
   have hz : i.size ≠ 0 := by intro h0; rw [h0] at hz; cases hz
   refine read_un (x := x) (X := fun p s c => xToUnsafe p s fun v _ => c v) (by rw [e]; rfl) (by simp [ho, Op.operands]) (fun v s c hnb => ?_)
   cases v with
   | nil t =>
    unfold xToUnsafe at hnb ⊢
    simp only at hnb ⊢
    cases ht : Nat.beq t 0 with
    | false => rw [ht] at hnb; exact absurd trivial hnb
    | true =>
     have := Nat.eq_of_beq_eq_true ht
     subst this
     refine ⟨.nil 0, rfl, fun ν w tmps hw hv => ⟨_, hv, ?_⟩⟩
     simp only [VR] at hv
     simp [execOp, ho, hv, convert, run_underlying (hp.und h1), run_underlying (hp.und h2), Conv.unsafePointer]
   | ptr a v0 off =>
    unfold xToUnsafe at hnb ⊢
    simp only [hget_row] at hnb ⊢
    generalize hB : Tr.get B.none a s.h = B' at hnb ⊢
    cases B' with
    | row l n el' gr mn f1 f2 =>
     simp only at hnb ⊢
     cases hr : rdOk n gr mn v0 (Nat.succ off) with
     | false => rw [hr] at hnb; exact absurd trivial hnb
     | true =>
      refine ⟨.ptr a v0 off, rfl, fun ν w tmps hw hv => ⟨_, hv, ?_⟩⟩
      obtain ⟨b, δ, hb, hx⟩ := hv
      have hrow := hw a
      rw [hB] at hrow
      obtain ⟨c, fz, g1, g2⟩ := row_in hrow hb hr
      have := Lib.run_to_unsafe (P := P) w (src := src) (dst := dst) ⟨b, δ + off, none⟩ (hp.und h1) (hp.und h2) (hp.info _ _ hi) hz (shape_of g1) g2
      simp [execOp, ho, hx, this]
    | _ => exact absurd trivial hnb
   | _ => exact absurd trivial hnb
theorem read_ofUnsafe {pc : PC} (hp : PcOk P pc) {fi : FI} {ds : List Nat} {o : Oper} {src dst el : TypeId} {x : Operand} (ho : o.op = .convert src dst x) (h1 : pc.und src = some .unsafePointer) (h2 : pc.und dst = some (.pointer el)) : ReadS P pc fi ds o := by
 have e : op pc fi ds o = op pc fi ds o := rfl
 conv at e => rhs; simp only [op, ho, h1, h2]
 rcases PC.sz_or pc el (badO 144) _ with h | ⟨i, hi, h⟩
 ·exact read_bad (e.trans h)
 ·rw [h] at e
  rcases chk_or (!(Nat.beq i.size 0)) (badO 144) _ with h | ⟨hz, h⟩
  ·exact read_bad (e.trans h)
  ·rw [h] at e
   have hz : i.size ≠ 0 := by intro h0; rw [h0] at hz; cases hz
   have hcell : P.cellsOf el = i.size := by simp [Program.cellsOf, hp.info _ _ hi]
   simp only [fN_eq] at e
   refine read_un (x := x) (X := fun p s c => xOfUnsafe el i.size p s fun v _ => c v) (by rw [e]; rfl) (by simp [ho, Op.operands]) (fun v s c hnb => ?_)
   cases v with
   | nil t =>
    unfold xOfUnsafe at hnb ⊢
    simp only at hnb ⊢
    cases ht : Nat.beq t 0 with
    | false => rw [ht] at hnb; exact absurd trivial hnb
    | true =>
     have := Nat.eq_of_beq_eq_true ht
     subst this
     refine ⟨.nil 0, rfl, fun ν w tmps hw hv => ⟨_, hv, ?_⟩⟩
     simp only [VR] at hv
     simp [execOp, ho, hv, convert, run_underlying (hp.und h1), run_underlying (hp.und h2), Conv.unsafePointer]
   | ptr a v0 off =>
    unfold xOfUnsafe at hnb ⊢
    simp only [hget_row] at hnb ⊢
    generalize hB : Tr.get B.none a s.h = B' at hnb ⊢
    cases B' with
    | row l n el' gr mn f1 f2 =>
     simp only at hnb ⊢
     cases hr : andB (notB gr) (andB (Nat.beq el' el) (andB (Nat.beq off 0) (Nat.ble i.size n))) with
     | false => rw [hr] at hnb; exact absurd trivial hnb
     | true =>
      obtain ⟨r1, hr⟩ := andB_true hr
      obtain ⟨r2, hr⟩ := andB_true hr
      obtain ⟨r3, r4⟩ := andB_true hr
      have r1 : gr = false := by cases gr <;> first | rfl | cases r1
      have r2 := Nat.eq_of_beq_eq_true r2
      have r3 := Nat.eq_of_beq_eq_true r3
      have r4 := Nat.ble_eq.mp r4
      subst r1 r2 r3
      refine ⟨.ptr a v0 0, rfl, fun ν w tmps hw hv => ⟨_, hv, ?_⟩⟩
      obtain ⟨b, δ, hb, hx⟩ := hv
      have hrow := hw a
      rw [hB] at hrow
      obtain ⟨q1, q2⟩ := hrow.v0 rfl _ _ hb
      simp only at q2
      subst q2
      obtain ⟨c, fz, g1, _⟩ := hrow.at_ v0 b 0 hb
      have hn : n ≤ c.size := by
       rcases Nat.eq_zero_or_pos n with h0 | h0
       ·omega
       ·obtain ⟨c', fz', g1', g2⟩ := row_in (o := n - 1) hrow hb ((rdOk_iff _ _ _ _ _).2 ⟨fun h => (by cases h), fun _ => by omega⟩)
        rw [g1] at g1'
        simp only [Option.some.injEq, Obj.cells.injEq] at g1'
        rw [← g1'.1] at g2
        omega
      have hdiv : 0 < c.size / i.size := Nat.div_pos (by omega) (by omega)
      have := Lib.run_from_unsafe (P := P) w (src := src) (dst := dst) ⟨b, 0, none⟩ (hp.und h1) (hp.und h2) (hp.info _ _ hi) (shape_of g1)
       (liesAt_same (by rw [hcell]; exact hz) _ _ _ (by simp) (by rw [hcell]; simp; omega))
      simp [execOp, ho, hx, this]
    | _ => exact absurd trivial hnb
   | _ => exact absurd trivial hnb
theorem read_convert {pc : PC} (hp : PcOk P pc) {fi : FI} {ds : List Nat} {o : Oper} {src dst : TypeId} {x : Operand} (ho : o.op = .convert src dst x) : ReadS P pc fi ds o := by
 have e : op pc fi ds o = op pc fi ds o := rfl
 conv at e => rhs; simp only [op, ho]
 cases h1 : pc.und src with
 | none => rw [h1] at e; exact read_bad e
 | some a =>
  cases h2 : pc.und dst with
  | none => rw [h1, h2] at e; cases a <;> exact read_bad e
  | some b =>
   rw [h1, h2] at e
   cases a <;> cases b <;> first
    | exact read_bad e
    | exact (pure_convInt hp ho h1 h2).read
    | exact (pure_rune hp ho h1 h2).read
    | exact read_toUnsafe hp ho h1 h2
    | exact read_ofUnsafe hp ho h1 h2
    | skip
   rename_i el
   simp only at e
   cases h3 : pc.und el with
   | none => rw [h3] at e; exact read_bad e
   | some d =>
    rw [h3] at e
    cases d with
    | int k => cases k <;> first | exact read_bad e | exact read_strOf hp ho h1 h2 h3
    | _ => exact read_bad e
def BuRead (P : Program) (pc : PC) (b : Builtin) (ts : List TypeId) : Prop := ∀ args s k, ¬ ((buC pc b ts).run args s k).isBad → ∃ z, k z s = (buC pc b ts).run args s k ∧
 ∀ (ν : Val) (w : World) (cargs : Array Value) (ty : TypeId) (cst : Array Bool), Rows P ν s w → VRs ν args cargs.toList → ∃ z', VR ν z z' ∧ (builtin b ts.toArray ty cst cargs).run P w = .ok (.value z') w
theorem call_builtin {pc : PC} {fi : FI} {ds : List Nat} {o : Oper} {c : Call} {b : Builtin} (ho : o.op = .call c) (hc : c.callee = .builtin b) (hb : b ≠ .recover) (r : R) (tm : T) (le : List V) (s : S) (k : V → S → A) :
  (op pc fi ds o).run r tm le s k = (opds fi ds c.args.toList).run tm le fun args => (buC pc b c.argTypes.toList).run args s k := by
 simp only [op, ho, hc]
theorem exec_builtin {o : Oper} {c : Call} {b : Builtin} (ho : o.op = .call c) (hc : c.callee = .builtin b) (ρ : Operand → Value) (w : World) :
  ∃ cst, (execOp ρ o).run P w = (builtin b c.argTypes o.type cst (c.args.map ρ)).run P w := by
 refine ⟨c.args.map fun | .const _ => true | _ => false, ?_⟩
 simp only [execOp, ho, resolve, hc, Sem.run_bind, Sem.run_pure, Result.andThen_ok, invoke]
 rfl
theorem mem_args {c : Call} {o : Oper} (ho : o.op = .call c) {x : Operand} (hx : x ∈ c.args.toList) : x ∈ o.op.operands.toList := by
 simp only [ho, Op.operands, Call.operands]
 cases c.callee <;> simp <;> first | (right; simpa using hx) | (simpa using hx)
theorem read_builtin {pc : PC} {fi : FI} {ds : List Nat} {o : Oper} {c : Call} {b : Builtin} (ho : o.op = .call c) (hc : c.callee = .builtin b) (hb : b ≠ .recover) (h : BuRead P pc b c.argTypes.toList) : ReadS P pc fi ds o := by
 intro r tm le s k hnb
 rw [call_builtin ho hc hb] at hnb ⊢
 obtain ⟨args, h1, h2⟩ := opds_ok fi ds c.args.toList tm le _ hnb
 rw [← h1] at hnb ⊢
 obtain ⟨z, h3, h4⟩ := h args s k hnb
 refine ⟨z, h3, fun ν w tmps hw hG hf => ?_⟩
 obtain ⟨cst, h5⟩ := exec_builtin (P := P) ho hc (ev tmps) w
 obtain ⟨z', h6, h7⟩ := h4 ν w (c.args.map (ev tmps)) o.type cst hw (by simpa using h2 ν tmps hG (fun x hx => hf x (mem_args ho hx)))
 exact ⟨z', h6, by rw [h5]; simpa using h7⟩
end Go.Ev

namespace Go.Ev
open Go.RowKit
variable {P : Program}
theorem arg1_ok {l : List V} {c : V → A} (hnb : ¬ (arg1 l c).isBad) : ∃ x r, l = x :: r ∧ c x = arg1 l c := by
 cases l with
 | nil => exact absurd trivial hnb
 | cons x r => exact ⟨x, r, rfl, rfl⟩
theorem arg2_ok {l : List V} {c : V → V → A} (hnb : ¬ (arg2 l c).isBad) : ∃ x y r, l = x :: y :: r ∧ c x y = arg2 l c := by
 cases l with
 | nil => exact absurd trivial hnb
 | cons x r => cases r with
  | nil => exact absurd trivial hnb
  | cons y r => exact ⟨x, y, r, rfl, rfl⟩
theorem VRs.first {ν : Val} {x : V} {r : List V} {c : Array Value} (h : VRs ν (x :: r) c.toList) : ∃ y, c[0]? = some y ∧ VR ν x y := by
 obtain ⟨y, hy, h1⟩ := h.get 0 x rfl
 exact ⟨y, by simpa using hy, h1⟩
theorem VRs.second {ν : Val} {x y : V} {r : List V} {c : Array Value} (h : VRs ν (x :: y :: r) c.toList) : ∃ z, c[1]? = some z ∧ VR ν y z := by
 obtain ⟨z, hz, h1⟩ := h.get 1 y rfl
 exact ⟨z, by simpa using hz, h1⟩
theorem MRs.length {ν : Val} : ∀ {es : List ME} {c : List MapEntry}, MRs ν es c → c.length = es.length
 | [], _, h => by simp [MRs] at h; simp [h]
 | _ :: _, _, ⟨x, r, e, _, h⟩ => by rw [e]; simp [MRs.length h]
theorem map_at {ν : Val} {s : S} {w : World} {a : K} {es : List ME} {ck b : Nat} (hw : Rows P ν s w) (hB : Tr.get B.none a s.h = .map es ck) (hb : ν.blk a 0 = some (b, 0)) : ∃ es', w.heap[b]? = some (.map es' ck) ∧ MRs ν es es'.toList := by
 have := hw a
 rw [hB] at this
 exact (this 0 b 0 hb).2
theorem run_getMap {w : World} {b ck : Nat} {es : Array MapEntry} (h : w.heap[b]? = some (.map es ck)) : (getObj b).run P w = .ok (.map es ck) w := MapKept.run_getObj_map h
theorem bu_len {pc : PC} (hp : PcOk P pc) (ts : List TypeId) : BuRead P pc .len ts := by
 intro args s k hnb
 cases ts with
 | nil => exact absurd trivial hnb
 | cons t ts =>
  simp only [buC] at hnb ⊢
  cases hu : pc.und t with
  | none => rw [hu] at hnb; exact absurd trivial hnb
  | some d =>
   have hU := hp.und hu
   have fin : ∀ (n : Nat) (cargs : Array Value) (ty : TypeId) (cst : Array Bool) (w : World), (Builtin.len_ (t :: ts).toArray ty cargs).run P w = .ok (.int .i64 (Int.ofNat n)) w → (builtin .len (t :: ts).toArray ty cst cargs).run P w = .ok (.value (.int .i64 (Int.ofNat n))) w := by
    intro n cargs ty cst w h
    simp only [builtin, Sem.run_bind, h, Result.andThen_ok, Sem.run_pure]
   rw [hu] at hnb
   cases d with
   | slice el =>
    simp only at hnb ⊢
    obtain ⟨x, r, e, h1⟩ := arg1_ok hnb
    subst e
    rw [← h1] at hnb ⊢
    have go : ∀ n, (∀ (ν : Val) (y : Value), VR ν x y → ∃ a c, y = .slice a n c) → ∀ (ν : Val) (w : World) (cargs : Array Value) (ty : TypeId) (cst : Array Bool), Rows P ν s w → VRs ν (x :: r) cargs.toList →
      ∃ z', VR ν (.nat .i64 n) z' ∧ (builtin .len (t :: ts).toArray ty cst cargs).run P w = .ok (.value z') w := by
     intro n h ν w cargs ty cst hw hv
     obtain ⟨y, hy, h2⟩ := hv.first
     obtain ⟨a, c, e⟩ := h ν y h2
     refine ⟨_, rfl, fin n _ _ _ _ ?_⟩
     simp [Builtin.len_, hy, e, run_und hU, goInt]
    cases x with
    | nil u =>
     unfold xLenS at hnb ⊢
     simp only at hnb ⊢
     cases ht : Nat.beq u 1 with
     | false => rw [ht] at hnb; exact absurd trivial hnb
     | true =>
      have := Nat.eq_of_beq_eq_true ht
      subst this
      exact ⟨_, rfl, go 0 fun ν y h => by simp only [VR] at h; exact ⟨_, _, h⟩⟩
    | ref u a =>
     unfold xLenS at hnb ⊢
     simp only at hnb ⊢
     cases ht : Nat.beq u 1 with
     | false => rw [ht] at hnb; exact absurd trivial hnb
     | true =>
      have := Nat.eq_of_beq_eq_true ht
      subst this
      exact ⟨_, rfl, go 0 fun ν y h => by exact VR.ref1 h |>.elim fun _ h => h.elim fun _ e => ⟨_, _, e⟩⟩
    | sl a v o len cap => exact ⟨_, rfl, go len fun ν y h => by obtain ⟨b, δ, _, e, _⟩ := h; exact ⟨_, _, e⟩⟩
    | so a v o len e0 => exact ⟨_, rfl, go len fun ν y h => by obtain ⟨b, δ, cap, _, e, _⟩ := h; exact ⟨_, _, e⟩⟩
    | _ => exact absurd trivial hnb
   | string =>
    simp only at hnb ⊢
    obtain ⟨x, r, e, h1⟩ := arg1_ok hnb
    subst e
    rw [← h1] at hnb ⊢
    cases x with
    | str l =>
     refine ⟨.nat .i64 l.length, by simp only [xLenT, lenL_eq], fun ν w cargs ty cst hw hv => ?_⟩
     obtain ⟨y, hy, h2⟩ := hv.first
     obtain ⟨s', e, h3⟩ := h2
     refine ⟨_, rfl, fin l.length _ _ _ _ ?_⟩
     have : l.length = s'.size := by rw [← h3, bytesL_length]
     simp [Builtin.len_, hy, e, run_und hU, goInt, this]
    | _ => exact absurd trivial hnb
   | map j el =>
    simp only at hnb ⊢
    obtain ⟨x, r, e, h1⟩ := arg1_ok hnb
    subst e
    rw [← h1] at hnb ⊢
    cases x with
    | nil u =>
     unfold xLenM at hnb ⊢
     simp only at hnb ⊢
     cases ht : Nat.beq u 2 with
     | false => rw [ht] at hnb; exact absurd trivial hnb
     | true =>
      have := Nat.eq_of_beq_eq_true ht
      subst this
      refine ⟨_, rfl, fun ν w cargs ty cst hw hv => ?_⟩
      obtain ⟨y, hy, h2⟩ := hv.first
      simp only [VR] at h2
      refine ⟨_, rfl, fin 0 _ _ _ _ ?_⟩
      simp [Builtin.len_, hy, h2, run_und hU, goInt]
    | ref u a =>
     unfold xLenM at hnb ⊢
     simp only at hnb ⊢
     cases ht : Nat.beq u 0 with
     | false => rw [ht] at hnb; exact absurd trivial hnb
     | true =>
      have := Nat.eq_of_beq_eq_true ht
      subst this
      simp only [ht, hget_row] at hnb ⊢
      generalize hB : Tr.get B.none a s.h = B' at hnb ⊢
      cases B' with
      | map es ck =>
       refine ⟨.nat .i64 es.length, by simp only [lenL_eq], fun ν w cargs ty cst hw hv => ?_⟩
       obtain ⟨y, hy, h2⟩ := hv.first
       obtain ⟨b, h3, h4⟩ := h2
       obtain ⟨es', h5, h6⟩ := map_at hw hB h3
       refine ⟨_, rfl, fin es.length _ _ _ _ ?_⟩
       have : es'.size = es.length := by have := h6.length; simpa using this
       simp [Builtin.len_, hy, h4, run_und hU, run_getMap h5, goInt, this]
      | _ => exact absurd trivial hnb
    | _ => exact absurd trivial hnb
   | array n el =>
    simp only [fN_eq] at hnb ⊢
    obtain ⟨x, r, e, h1⟩ := arg1_ok hnb
    subst e
    rw [← h1] at hnb ⊢
    refine ⟨_, rfl, fun ν w cargs ty cst hw hv => ?_⟩
    obtain ⟨y, hy, h2⟩ := hv.first
    refine ⟨_, rfl, fin n _ _ _ _ ?_⟩
    simp [Builtin.len_, hy, run_und hU, goInt]
   | pointer u =>
    simp only at hnb ⊢
    cases hu2 : pc.und u with
    | none => rw [hu2] at hnb; exact absurd trivial hnb
    | some d2 =>
     rw [hu2] at hnb
     cases d2 with
     | array n el =>
      simp only [fN_eq] at hnb ⊢
      obtain ⟨x, r, e, h1⟩ := arg1_ok hnb
      subst e
      rw [← h1] at hnb ⊢
      refine ⟨_, rfl, fun ν w cargs ty cst hw hv => ?_⟩
      obtain ⟨y, hy, h2⟩ := hv.first
      refine ⟨_, rfl, fin n _ _ _ _ ?_⟩
      simp [Builtin.len_, hy, run_und hU, run_und (hp.und hu2), goInt]
     | _ => exact absurd trivial hnb
   | _ => exact absurd trivial hnb
theorem bu_cap {pc : PC} (hp : PcOk P pc) (ts : List TypeId) : BuRead P pc .cap ts := by
 intro args s k hnb
 cases ts with
 | nil => exact absurd trivial hnb
 | cons t ts =>
  simp only [buC] at hnb ⊢
  cases hu : pc.und t with
  | none => rw [hu] at hnb; exact absurd trivial hnb
  | some d =>
   have hU := hp.und hu
   rw [hu] at hnb
   cases d with
   | slice el =>
    simp only at hnb ⊢
    obtain ⟨x, r, e, h1⟩ := arg1_ok hnb
    subst e
    rw [← h1] at hnb ⊢
    have go : ∀ n, (∀ (ν : Val) (y : Value), VR ν x y → ∃ a l, y = .slice a l n) → ∀ (ν : Val) (w : World) (cargs : Array Value) (ty : TypeId) (cst : Array Bool), Rows P ν s w → VRs ν (x :: r) cargs.toList →
      ∃ z', VR ν (.nat .i64 n) z' ∧ (builtin .cap (t :: ts).toArray ty cst cargs).run P w = .ok (.value z') w := by
     intro n h ν w cargs ty cst hw hv
     obtain ⟨y, hy, h2⟩ := hv.first
     obtain ⟨a, c, e⟩ := h ν y h2
     refine ⟨.int .i64 (Int.ofNat n), rfl, ?_⟩
     have : (Builtin.cap_ (t :: ts).toArray ty cargs).run P w = .ok (.int .i64 (Int.ofNat n)) w := by simp [Builtin.cap_, hy, e, run_und hU, goInt]
     simp only [builtin, Sem.run_bind, this, Result.andThen_ok, Sem.run_pure]
    cases x with
    | nil u =>
     unfold xCap at hnb ⊢
     simp only at hnb ⊢
     cases ht : Nat.beq u 1 with
     | false => rw [ht] at hnb; exact absurd trivial hnb
     | true =>
      have := Nat.eq_of_beq_eq_true ht
      subst this
      exact ⟨_, rfl, go 0 fun ν y h => by simp only [VR] at h; exact ⟨_, _, h⟩⟩
    | sl a v o len cap => exact ⟨_, rfl, go cap fun ν y h => by obtain ⟨b, δ, _, e, _⟩ := h; exact ⟨_, _, e⟩⟩
    | _ => exact absurd trivial hnb
   | _ => exact absurd trivial hnb
theorem min3_ok {op lt : Bool} {x y : V} {c : V → A} {j : IntKind} {a b : Int} (hx : ∀ (ν : Val) z, VR ν x z → z = .int j a) (hy : ∀ (ν : Val) z, VR ν y z → z = .int j b) (hlt : lt = true ↔ b < a) :
  ∃ z, c z = min3 op lt x y c ∧ ∀ (ν : Val) (a b : Value), VR ν x a → VR ν y b → ∃ z', VR ν z z' ∧ ∀ w, ((if op then Builtin.min2 a b else Builtin.max2 a b).run P w = .ok z' w) := by
 cases lt with
 | true =>
  have h : b < a := hlt.1 rfl
  cases op
  ·refine ⟨x, rfl, fun ν a' b' ha hb => ⟨a', ha, fun w => ?_⟩⟩
   rw [hx ν _ ha, hy ν _ hb]
   have h2 : ¬ (a < b) := by omega
   simp [Builtin.max2, h2]
  ·refine ⟨y, rfl, fun ν a' b' ha hb => ⟨b', hb, fun w => ?_⟩⟩
   rw [hx ν _ ha, hy ν _ hb]
   simp [Builtin.min2, h]
 | false =>
  have h : ¬ b < a := fun h => by have := hlt.2 h; cases this
  cases op
  ·refine ⟨y, rfl, fun ν a' b' ha hb => ⟨b', hb, fun w => ?_⟩⟩
   rw [hx ν _ ha, hy ν _ hb]
   by_cases h2 : a < b
   ·simp [Builtin.max2, h2]
   ·have : a = b := by omega
    subst this
    simp [Builtin.max2]
  ·refine ⟨x, rfl, fun ν a' b' ha hb => ⟨a', ha, fun w => ?_⟩⟩
   rw [hx ν _ ha, hy ν _ hb]
   simp [Builtin.min2, h]
theorem min2_ok {op : Bool} {x y : V} {c : V → A} (hnb : ¬ (min2 op x y c).isBad) : ∃ z, c z = min2 op x y c ∧ ∀ (ν : Val) (a b : Value), VR ν x a → VR ν y b → ∃ z', VR ν z z' ∧ ∀ w, ((if op then Builtin.min2 a b else Builtin.max2 a b).run P w = .ok z' w) := by
 cases x with
 | nat j a =>
  cases y with
  | nat k b =>
   unfold min2 at hnb ⊢
   simp only at hnb ⊢
   cases hjk : kbeq j k with
   | false => rw [hjk] at hnb; exact absurd trivial hnb
   | true =>
    have e := (kbeq_iff _ _).1 hjk
    subst e
    simp only
    exact min3_ok (j := j) (a := Int.ofNat a) (b := Int.ofNat b) (fun _ _ h => h) (fun _ _ h => h) (by rw [Nat.blt_eq]; simp)
  | neg k b =>
   unfold min2 at hnb ⊢
   simp only at hnb ⊢
   cases hjk : kbeq j k with
   | false => rw [hjk] at hnb; exact absurd trivial hnb
   | true =>
    have e := (kbeq_iff _ _).1 hjk
    subst e
    simp only
    exact min3_ok (j := j) (a := Int.ofNat a) (b := Int.negSucc b) (fun _ _ h => h) (fun _ _ h => h) (by simp only [true_iff, Int.ofNat_eq_natCast]; omega)
  | _ => exact absurd trivial hnb
 | neg j a =>
  cases y with
  | nat k b =>
   unfold min2 at hnb ⊢
   simp only at hnb ⊢
   cases hjk : kbeq j k with
   | false => rw [hjk] at hnb; exact absurd trivial hnb
   | true =>
    have e := (kbeq_iff _ _).1 hjk
    subst e
    simp only
    exact min3_ok (j := j) (a := Int.negSucc a) (b := Int.ofNat b) (fun _ _ h => h) (fun _ _ h => h) (by simp only [Int.ofNat_eq_natCast]; constructor <;> intro h <;> first | (cases h; done) | (exfalso; omega))
  | neg k b =>
   unfold min2 at hnb ⊢
   simp only at hnb ⊢
   cases hjk : kbeq j k with
   | false => rw [hjk] at hnb; exact absurd trivial hnb
   | true =>
    have e := (kbeq_iff _ _).1 hjk
    subst e
    simp only
    exact min3_ok (j := j) (a := Int.negSucc a) (b := Int.negSucc b) (fun _ _ h => h) (fun _ _ h => h) (by rw [Nat.blt_eq]; omega)
  | _ => exact absurd trivial hnb
 | _ => exact absurd trivial hnb
theorem foldMin_ok {op : Bool} : ∀ {l : List V} {x : V} {c : V → A}, ¬ (foldMin op l x c).isBad → ∃ z, c z = foldMin op l x c ∧ ∀ (ν : Val) (a : Value) (bs : List Value), VR ν x a → VRs ν l bs →
  ∃ z', VR ν z z' ∧ ∀ w, ((if op then bs.foldlM Builtin.min2 a else bs.foldlM Builtin.max2 a).run P w = .ok z' w)
 | [], x, c, _ => ⟨x, rfl, fun ν a bs ha hb => ⟨a, ha, fun w => by simp only [VRs] at hb; subst hb; cases op <;> simp⟩⟩
 | y :: l, x, c, hnb => by
  have e : foldMin op (y :: l) x c = min2 op x y fun z => foldMin op l z c := rfl
  rw [e] at hnb ⊢
  obtain ⟨z, h1, h2⟩ := min2_ok (P := P) hnb
  rw [← h1] at hnb ⊢
  obtain ⟨u, h3, h4⟩ := foldMin_ok hnb
  refine ⟨u, h3, fun ν a bs ha hb => ?_⟩
  obtain ⟨b, r, e, hb1, hb2⟩ := hb
  subst e
  obtain ⟨z', h5, h6⟩ := h2 ν a b ha hb1
  obtain ⟨u', h7, h8⟩ := h4 ν z' r h5 hb2
  refine ⟨u', h7, fun w => ?_⟩
  have h6 := h6 w
  have h8 := h8 w
  cases op
  ·simp only [Bool.false_eq_true, if_false] at h6 h8 ⊢
   simp [List.foldlM_cons, h6, h8]
  ·simp only [if_true] at h6 h8 ⊢
   simp [List.foldlM_cons, h6, h8]
theorem bu_min {pc : PC} (ts : List TypeId) : BuRead P pc .min ts := by
 intro args s k hnb
 cases args with
 | nil => exact absurd (by cases ts <;> trivial) hnb
 | cons x l =>
  have e : (buC pc .min ts).run (x :: l) s k = foldMin true l x (fun v => k v s) := by cases ts <;> rfl
  rw [e] at hnb ⊢
  obtain ⟨z, h1, h2⟩ := foldMin_ok (P := P) hnb
  refine ⟨z, h1, fun ν w cargs ty cst hw hv => ?_⟩
  obtain ⟨a, bs, h3, h4, h5⟩ := hv
  obtain ⟨z', h6, h7⟩ := h2 ν a bs h4 h5
  refine ⟨z', h6, ?_⟩
  have h7 := h7 w
  simp only [if_true] at h7
  simp [builtin, Builtin.min_, h3, h7]
theorem bu_max {pc : PC} (ts : List TypeId) : BuRead P pc .max ts := by
 intro args s k hnb
 cases args with
 | nil => exact absurd (by cases ts <;> trivial) hnb
 | cons x l =>
  have e : (buC pc .max ts).run (x :: l) s k = foldMin false l x (fun v => k v s) := by cases ts <;> rfl
  rw [e] at hnb ⊢
  obtain ⟨z, h1, h2⟩ := foldMin_ok (P := P) hnb
  refine ⟨z, h1, fun ν w cargs ty cst hw hv => ?_⟩
  obtain ⟨a, bs, h3, h4, h5⟩ := hv
  obtain ⟨z', h6, h7⟩ := h2 ν a bs h4 h5
  refine ⟨z', h6, ?_⟩
  have h7 := h7 w
  simp only [Bool.false_eq_true, if_false] at h7
  simp [builtin, Builtin.max_, h3, h7]
end Go.Ev

namespace Go.Ev
open Go.RowKit
variable {P : Program}
theorem sameNow_ok {j : TypeId} {d : TypeDesc} {x y : Value} {b : Bool} (hd : P.underlying j = some d) (h : Instr.sameNow d x y = some b) (w : World) : (Op.equal j x y).run P w = .ok b w := by
 unfold Instr.sameNow at h
 split at h
 ·split at h
  ·rename_i e
   simp only [Option.some.injEq] at h
   subst h; subst e
   exact eq_int hd _ _ _
  ·cases h
 ·simp only [Option.some.injEq] at h
  subst h
  exact eq_str hd _ _
 ·simp only [Option.some.injEq] at h
  subst h
  exact eq_bool hd _ _
 ·cases h
theorem findNow_ok {j : TypeId} {d : TypeDesc} (hd : P.underlying j = some d) (k : Value) (w : World) : ∀ (es : List MapEntry) (i : Nat) (r : Option (Nat × Value)), Instr.findNow d k es i = some r → (Instr.findAsking j k es i).run P w = .ok r w
 | [], i, r, h => by
  simp only [Instr.findNow, Option.some.injEq] at h
  subst h; rfl
 | e :: es, i, r, h => by
  simp only [Instr.findNow] at h
  split at h
  ·rename_i hs
   simp only [Option.some.injEq] at h
   subst h
   simp [Instr.findAsking, sameNow_ok hd hs w]
  ·rename_i hs
   simp [Instr.findAsking, sameNow_ok hd hs w, findNow_ok hd k w es (i + 1) r h]
  ·cases h
theorem findKey_ok {j : TypeId} {d : TypeDesc} (hd : P.underlying j = some d) (k : Value) (es : List MapEntry) (w : World) {r : Option (Nat × Value)} (h : (Instr.findAsking j k es 0).run P w = .ok r w) : (Instr.findKey j k es).run P w = .ok r w := by
 simp only [Instr.findKey, Sem.run_bind, run_und hd, Result.andThen_ok]
 cases hn : Instr.findNow d k es 0 with
 | none => exact h
 | some r' =>
  have := findNow_ok hd k w es 0 r' hn
  rw [h] at this
  simp only [Result.ok.injEq, and_true] at this
  subst this
  rfl
def FoundR (ν : Val) : Option V → Option (Nat × Value) → Prop
 | none, none => True
 | some v, some (_, y) => VR ν v y
 | _, _ => False
theorem findE_ok {pc : PC} (hp : PcOk P pc) {j : TypeId} {key : V} : ∀ {es : List ME} {c : Option V → A}, ¬ (findE (pc.eqKind j) key es c).isBad → ∃ r, c r = findE (pc.eqKind j) key es c ∧
  ∀ (ν : Val) (k : Value) (es' : List MapEntry), VR ν key k → MRs ν es es' → ∀ i, ∃ r', FoundR ν r r' ∧ ∀ w, (Instr.findAsking j k es' i).run P w = .ok r' w
 | [], c, _ => ⟨none, rfl, fun ν k es' _ he i => ⟨none, trivial, fun w => by simp only [MRs] at he; subst he; rfl⟩⟩
 | e :: es, c, hnb => by
  have eq : findE (pc.eqKind j) key (e :: es) c = (match eqV (pc.eqKind j) false key e.key with | some true => c (some e.val) | some false => findE (pc.eqKind j) key es c | none => .bad 80) := rfl
  rw [eq] at hnb ⊢
  cases hq : eqV (pc.eqKind j) false key e.key with
  | none => rw [hq] at hnb; exact absurd trivial hnb
  | some b =>
   rw [hq] at hnb
   cases b with
   | true =>
    refine ⟨some e.val, rfl, fun ν k es' hk he i => ?_⟩
    obtain ⟨x, r, e1, ⟨m1, m2, m3⟩, h2⟩ := he
    subst e1
    obtain ⟨h3, _⟩ := eqV_ok hp hq hk m1
    exact ⟨some (i, x.val), m2, fun w => by simp [Instr.findAsking, h3 w]⟩
   | false =>
    obtain ⟨r0, h0, h1⟩ := findE_ok hp hnb
    refine ⟨r0, h0, fun ν k es' hk he i => ?_⟩
    obtain ⟨x, r, e1, ⟨m1, m2, m3⟩, h2⟩ := he
    subst e1
    obtain ⟨h3, _⟩ := eqV_ok hp hq hk m1
    obtain ⟨r', h4, h5⟩ := h1 ν k r hk h2 (i + 1)
    exact ⟨r', h4, fun w => by simp [Instr.findAsking, h3 w, h5 w]⟩
theorem checkKey_plain {t : TypeId} {q : Nat} (h : QTy P t q) (b : Bool) (d : Nat) (v : Value) (w : World) : (Instr.checkKey b (d + 1) t v).run P w = .ok () w := by
 rcases h with ⟨_, h⟩ | ⟨_, k, h⟩ | ⟨_, h⟩
 all_goals
  simp only [Instr.checkKey, Sem.run_bind, run_und h, Result.andThen_ok]
  rfl
theorem eqKind_plain {pc : PC} (hp : PcOk P pc) {t : TypeId} (h : (pc.eqKind t).k = 0 ∨ (pc.eqKind t).k = 7 ∨ (pc.eqKind t).k = 8) : ∃ q, QTy P t q := by
 unfold PC.eqKind at h
 cases hu : pc.und t with
 | none => rw [hu] at h; simp at h
 | some d =>
  have hU := hp.und hu
  rw [hu] at h
  cases d with
  | bool => exact ⟨0, .inl ⟨rfl, hU⟩⟩
  | int k => exact ⟨7, .inr (.inl ⟨rfl, k, hU⟩)⟩
  | string => exact ⟨8, .inr (.inr ⟨rfl, hU⟩)⟩
  | pointer e =>
   simp only at h
   cases hz : Nat.beq (pc.size e) 0 <;> rw [hz] at h <;> simp at h
  | struct fs =>
   simp only at h
   cases hq : partsOf t pc.eqs <;> rw [hq] at h <;> simp at h
  | array n e =>
   simp only at h
   cases hq : partsOf t pc.eqs <;> rw [hq] at h <;> simp at h
  | _ => simp at h
theorem eqKind_struct {pc : PC} (hp : PcOk P pc) {t : TypeId} (h : (pc.eqKind t).k = 6) : (∃ fs, P.underlying t = some (.struct fs) ∧ FieldsOk P 0 fs.toList (pc.eqKind t).qs) ∨ ArrOk P t (pc.eqKind t).qs := by
 unfold PC.eqKind at h ⊢
 cases hu : pc.und t with
 | none => rw [hu] at h; simp at h
 | some d =>
  have hU := hp.und hu
  rw [hu] at h
  cases d with
  | struct fs =>
   simp only at h ⊢
   cases hq : partsOf t pc.eqs with
   | none => rw [hq] at h; simp at h
   | some qs =>
    simp only
    obtain ⟨_, h0⟩ := hp.eqs t qs hq
    rcases h0 with ⟨_, fs', h1, h2⟩ | h0
    ·exact .inl ⟨fs', h1, h2⟩
    ·exact .inr h0
  | array n e =>
   simp only at h ⊢
   cases hq : partsOf t pc.eqs with
   | none => rw [hq] at h; simp at h
   | some qs =>
    simp only
    obtain ⟨_, h0⟩ := hp.eqs t qs hq
    rcases h0 with ⟨_, fs', h1, h2⟩ | h0
    ·exact .inl ⟨fs', h1, h2⟩
    ·exact .inr h0
  | pointer e =>
   simp only at h
   cases hz : Nat.beq (pc.size e) 0 <;> rw [hz] at h <;> simp at h
  | _ => simp at h
theorem FieldsOk.length : ∀ {n : Nat} {fs : List Field} {qs : List Nat}, FieldsOk P n fs qs → fs.length = qs.length
 | _, [], [], _ => rfl
 | _, f :: fs, q :: qs, ⟨_, _, _, h⟩ => by simp [FieldsOk.length h]
 | _, [], _ :: _, h => h.elim
 | _, _ :: _, [], h => h.elim
theorem checkFields {b : Bool} {d : Nat} (cs : Array Value) (w : World) : ∀ (fs : List Field) (qs : List Nat) (n : Nat), FieldsOk P n fs qs → n + fs.length ≤ cs.size →
  (forIn (m := Sem) fs PUnit.unit (fun (f : Field) (_ : PUnit) => if f.name ≠ "_" then (do Instr.checkKey b (d + 1) f.type (← part f.type cs f.offset); pure (ForInStep.yield PUnit.unit)) else pure (ForInStep.yield PUnit.unit))).run P w = .ok PUnit.unit w
 | [], _, _, _, _ => by simp
 | f :: fs, [], _, h, _ => h.elim
 | f :: fs, q :: qs, n, ⟨h1, h2, h3, h4⟩, hl => by
  simp only [List.length_cons] at hl
  obtain ⟨x, hx⟩ : ∃ x, cs[n]? = some x := ⟨cs[n]'(by omega), Array.getElem?_eq_getElem _⟩
  have hpart := run_part (P := P) h3 cs n _ hx w
  rw [← h2] at hpart
  have ih := checkFields (b := b) (d := d) cs w fs qs (n + 1) h4 (by omega)
  rw [List.forIn_cons]
  simp only [ne_eq, h1, not_false_eq_true, if_true, Sem.run_bind, hpart, checkKey_plain h3, Result.andThen_ok, Sem.run_pure]
  exact ih
theorem checkKey_struct {b : Bool} {d : Nat} {j : TypeId} {fs : Array Field} {qs : List Nat} (hj : P.underlying j = some (.struct fs)) (hf : FieldsOk P 0 fs.toList qs) (cs : Array Value) (hl : fs.size ≤ cs.size) (w : World) : (Instr.checkKey b (d + 1 + 1) j (.agg cs)).run P w = .ok () w := by
 have := checkFields (b := b) (d := d) cs w fs.toList _ 0 hf (by simpa using hl)
 rw [Instr.checkKey]
 simp only [Sem.run_bind, run_und hj, Result.andThen_ok]
 rw [← Array.forIn_toList]
 rw [this]; rfl
theorem checkItems {b : Bool} {d : Nat} {e : TypeId} {i : TypeInfo} {q : Nat} (hi : P.info? e = some i) (hs : i.size = 1) (hq : QTy P e q) (cs : Array Value) (w : World) : ∀ (m n : Nat), n + m ≤ cs.size →
  (forIn (m := Sem) (List.range' n m) PUnit.unit (fun (j : Nat) (_ : PUnit) => (do Instr.checkKey b (d + 1) e (← part e cs (j * (← sizeOf e))); pure (ForInStep.yield PUnit.unit)))).run P w = .ok PUnit.unit w
 | 0, _, _ => by simp
 | m + 1, n, hl => by
  obtain ⟨x, hx⟩ : ∃ x, cs[n]? = some x := ⟨cs[n]'(by omega), Array.getElem?_eq_getElem _⟩
  have hpart := run_part (P := P) hq cs n _ hx w
  have ih := checkItems (b := b) (d := d) hi hs hq cs w m (n + 1) (by omega)
  rw [List.range'_succ, List.forIn_cons]
  simp only [Sem.run_bind, run_sz hi, Result.andThen_ok, hs, Nat.mul_one, hpart, checkKey_plain hq, Sem.run_pure]
  exact ih
theorem checkKey_array {b : Bool} {d : Nat} {j e : TypeId} {n q : Nat} {i : TypeInfo} (hj : P.underlying j = some (.array n e)) (hi : P.info? e = some i) (hs : i.size = 1) (hq : QTy P e q) (cs : Array Value) (hl : n ≤ cs.size) (w : World) : (Instr.checkKey b (d + 1 + 1) j (.agg cs)).run P w = .ok () w := by
 have := checkItems (b := b) (d := d) hi hs hq cs w n 0 (by omega)
 rw [Instr.checkKey]
 simp only [Sem.run_bind, run_und hj, Result.andThen_ok]
 simp only [Std.Legacy.Range.forIn_eq_forIn_range', Std.Legacy.Range.size, Nat.sub_zero, Nat.add_one_sub_one, Nat.div_one]
 rw [this]; rfl
theorem keyC_ok {pc : PC} (hp : PcOk P pc) {j : TypeId} (hk : keyOk (pc.eqKind j) = true) {key : V} {c : A} (hnb : ¬ (keyC (pc.eqKind j) key c).isBad) : keyC (pc.eqKind j) key c = c ∧ ∀ (ν : Val) (k : Value), VR ν key k → ∀ b w, (Instr.checkKey b 10000 j k).run P w = .ok () w := by
 have plain : (pc.eqKind j).k = 0 ∨ (pc.eqKind j).k = 7 ∨ (pc.eqKind j).k = 8 → keyC (pc.eqKind j) key c = c ∧ ∀ (ν : Val) (k : Value), VR ν key k → ∀ b w, (Instr.checkKey b 10000 j k).run P w = .ok () w := by
  intro h
  obtain ⟨q, hq⟩ := eqKind_plain hp h
  refine ⟨?_, fun ν k _ b w => checkKey_plain hq b 9999 k w⟩
  unfold keyC
  rcases h with h | h | h <;> rw [h] <;> rfl
 by_cases h6 : (pc.eqKind j).k = 6
 ·unfold keyC at hnb ⊢
  rw [h6] at hnb ⊢
  cases key with
  | ls t l =>
   simp only at hnb ⊢
   cases ht : Nat.beq t 0 with
   | false => rw [ht] at hnb; exact absurd trivial hnb
   | true =>
    have := Nat.eq_of_beq_eq_true ht
    subst this
    simp only [ht, lenL_eq] at hnb ⊢
    cases hl : Nat.beq l.length (pc.eqKind j).qs.length with
    | false => rw [hl] at hnb; exact absurd trivial hnb
    | true =>
     have hl := Nat.eq_of_beq_eq_true hl
     refine ⟨rfl, fun ν k hv b w => ?_⟩
     obtain ⟨cs, h1, h2, _⟩ := hv
     subst h2
     rcases eqKind_struct hp h6 with ⟨fs, h3, h4⟩ | ⟨n, e, q, i, h3, h4, h5, h7, h8⟩
     ·have hlen := h4.length
      exact checkKey_struct (d := 9998) h3 h4 ⟨cs⟩ (by have := h1.length; simp at hlen ⊢; omega) w
     ·refine checkKey_array (d := 9998) h3 h4 h5 h7 ⟨cs⟩ ?_ w
      have h9 := h1.length
      rw [h8, List.length_replicate] at hl
      simp; omega
  | _ => exact absurd trivial hnb
 ·refine plain ?_
  unfold keyOk at hk
  simp only [Bool.or_eq_true] at hk
  rcases hk with ((hk | hk) | hk) | hk
  ·exact .inl (Nat.eq_of_beq_eq_true hk)
  ·exact absurd (Nat.eq_of_beq_eq_true hk) h6
  ·exact .inr (.inl (Nat.eq_of_beq_eq_true hk))
  ·exact .inr (.inr (Nat.eq_of_beq_eq_true hk))
theorem VR.pair {ν : Val} {v : V} {y : Value} {b : Bool} (h : VR ν v y) : VR ν (.ls 1 [v, .bool b]) (.tuple #[y, .bool b]) := ⟨[y, .bool b], ⟨y, _, rfl, h, _, _, rfl, rfl, rfl⟩, rfl⟩
theorem found_ok {z : V} {ok : Bool} {r : Option V} {c : V → A} : ∃ u, c u = found z ok r c ∧ ∀ (ν : Val) (r' : Option (Nat × Value)) (zv : Value), FoundR ν r r' → VR ν z zv →
  VR ν u (if ok then .tuple #[(r'.map (·.2)).getD zv, .bool r'.isSome] else (r'.map (·.2)).getD zv) := by
 cases r with
 | none => cases ok with
  | true => exact ⟨_, rfl, fun ν r' zv h1 h2 => by cases r' with | none => exact VR.pair h2 | some p => exact h1.elim⟩
  | false => exact ⟨_, rfl, fun ν r' zv h1 h2 => by cases r' with | none => exact h2 | some p => exact h1.elim⟩
 | some v => cases ok with
  | true => exact ⟨_, rfl, fun ν r' zv h1 h2 => by cases r' with | none => exact h1.elim | some p => exact VR.pair h1⟩
  | false => exact ⟨_, rfl, fun ν r' zv h1 h2 => by cases r' with | none => exact h1.elim | some p => exact h1⟩
theorem run_lookup {j el t : TypeId} {x k zv : Value} {es : Array MapEntry} {r : Option (Nat × Value)} {d : TypeDesc} {w : World} (ok : Bool) (ht : P.underlying t = some (.map j el)) (hd : P.underlying j = some d)
  (hx : (x = .map none ∧ es = #[]) ∨ ∃ b ck, x = .map (some b) ∧ w.heap[b]? = some (.map es ck)) (hk : ∀ b w, (Instr.checkKey b 10000 j k).run P w = .ok () w) (hf : (Instr.findAsking j k es.toList 0).run P w = .ok r w) (hz : (zeroValue el).run P w = .ok zv w) :
  (Instr.lookup t x k ok).run P w = .ok (if ok then .tuple #[(r.map (·.2)).getD zv, .bool r.isSome] else (r.map (·.2)).getD zv) w := by
 have hf' := findKey_ok hd k es.toList w hf
 rcases hx with ⟨rfl, rfl⟩ | ⟨b, ck, rfl, hb⟩
 ·have hf' : (Instr.findKey j k []).run P w = .ok r w := hf'
  cases r with
  | none => simp [Instr.lookup, run_und ht, hk, hf', hz]
  | some p => simp [Instr.lookup, run_und ht, hk, hf']
 ·cases r with
  | none => simp [Instr.lookup, run_und ht, run_getMap hb, hk, hf', hz]
  | some p => simp [Instr.lookup, run_und ht, run_getMap hb, hk, hf']
theorem keyOk_und {pc : PC} (hp : PcOk P pc) {j : TypeId} (hk : keyOk (pc.eqKind j) = true) : ∃ d, P.underlying j = some d := by
 by_cases h6 : (pc.eqKind j).k = 6
 ·rcases eqKind_struct hp h6 with ⟨fs, h, _⟩ | ⟨n, e, q, i, h, _⟩ <;> exact ⟨_, h⟩
 ·unfold keyOk at hk
  simp only [Bool.or_eq_true] at hk
  have : ∃ q, QTy P j q := by
   refine eqKind_plain hp ?_
   rcases hk with ((hk | hk) | hk) | hk
   ·exact .inl (Nat.eq_of_beq_eq_true hk)
   ·exact absurd (Nat.eq_of_beq_eq_true hk) h6
   ·exact .inr (.inl (Nat.eq_of_beq_eq_true hk))
   ·exact .inr (.inr (Nat.eq_of_beq_eq_true hk))
  obtain ⟨q, ⟨_, h⟩ | ⟨_, k, h⟩ | ⟨_, h⟩⟩ := this <;> exact ⟨_, h⟩
theorem read_lookup {pc : PC} (hp : PcOk P pc) {fi : FI} {ds : List Nat} {o : Oper} {t : TypeId} {x i : Operand} {ok : Bool} (ho : o.op = .lookup t x i ok) : ReadS P pc fi ds o := by
 have e : op pc fi ds o = op pc fi ds o := rfl
 conv at e => rhs; simp only [op, ho]
 cases hu : pc.und t with
 | none => rw [hu] at e; exact read_bad e
 | some d =>
  rw [hu] at e
  cases d with
  | map j el =>
   simp only [fK_eq] at e
   rcases chk_or (keyOk (pc.eqKind j)) (badO 155) _ with h | ⟨hk, h⟩
   ·exact read_bad (e.trans h)
   ·rw [h] at e
    obtain ⟨dj, hdj⟩ := keyOk_und hp hk
    by_cases hz : pc.zero el = .bad
    ·rw [hz] at e; exact read_bad e
    ·have e : op pc fi ds o = bi fi ds x i (fun x i s k => xLookup (pc.eqKind j) (pc.zero el) ok x i s fun v => k v s) := by
      rw [e]
      cases hz' : pc.zero el <;> first | exact absurd hz' hz | simp only [cB_eq]
     obtain ⟨zv, hzv⟩ := PC.zero_ok hp hz
     refine read_bi (X := xLookup (pc.eqKind j) (pc.zero el) ok) e (by simp [ho, Op.operands]) (by simp [ho, Op.operands]) (fun u v s c hnb => ?_)
     unfold xLookup at hnb ⊢
     obtain ⟨q1, q2⟩ := keyC_ok hp hk hnb
     rw [q1] at hnb ⊢
     cases u with
     | nil n =>
      simp only at hnb ⊢
      cases ht : Nat.beq n 2 with
      | false => rw [ht] at hnb; exact absurd trivial hnb
      | true =>
       have := Nat.eq_of_beq_eq_true ht
       subst this
       obtain ⟨z, h1, h2⟩ := found_ok (z := pc.zero el) (ok := ok) (r := none) (c := c)
       refine ⟨z, by simp only; exact h1, fun ν w tmps hw hx hi => ?_⟩
       simp only [VR] at hx
       refine ⟨_, h2 ν none zv trivial ((hzv w).2 ν), ?_⟩
       have := run_lookup (P := P) (w := w) (es := #[]) (r := none) (k := ev tmps i) ok (hp.und hu) hdj (.inl ⟨hx, rfl⟩) (q2 ν _ hi) rfl (hzv w).1
       simp [execOp, ho, this]
     | ref n a =>
      simp only at hnb ⊢
      cases ht : Nat.beq n 0 with
      | false => rw [ht] at hnb; exact absurd trivial hnb
      | true =>
       have := Nat.eq_of_beq_eq_true ht
       subst this
       simp only [ht, hget_row] at hnb ⊢
       generalize hB : Tr.get B.none a s.h = B' at hnb ⊢
       cases B' with
       | map es ck =>
        simp only at hnb ⊢
        obtain ⟨r, h1, h2⟩ := findE_ok hp hnb
        obtain ⟨z, h3, h4⟩ := found_ok (z := pc.zero el) (ok := ok) (r := r) (c := c)
        refine ⟨z, by rw [← h1]; exact h3, fun ν w tmps hw hx hi => ?_⟩
        obtain ⟨b, h5, h6⟩ := hx
        obtain ⟨es', h7, h8⟩ := map_at hw hB h5
        obtain ⟨r', h9, h10⟩ := h2 ν _ _ hi h8 0
        refine ⟨_, h4 ν r' zv h9 ((hzv w).2 ν), ?_⟩
        have := run_lookup (P := P) (w := w) ok (hp.und hu) hdj (.inr ⟨b, ck, h6, h7⟩) (q2 ν _ hi) (h10 w) (hzv w).1
        simp [execOp, ho, this]
       | _ => exact absurd trivial hnb
     | _ => exact absurd trivial hnb
  | _ => exact read_bad e
end Go.Ev
