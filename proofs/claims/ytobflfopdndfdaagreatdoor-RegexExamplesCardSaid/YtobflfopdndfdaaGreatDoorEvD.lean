/- The evaluator is right on new blocks, stores, maps, append, copy, clear. No statement of the seat stands here. No condition. By an AI agent. -/
import Derived.Test.YtobflfopdndfdaaGreatDoorEvC
namespace Go.Ev
open Go.RowKit
variable {P : Program}
def AllocS (P : Program) (pc : PC) (fi : FI) (ds : List Nat) (o : Oper) : Prop := ∀ r tm le s k, ¬ ((op pc fi ds o).run r tm le s k).isBad →
 ∃ v b, k v ⟨Tr.set B.none b s.nx s.h, s.nx.succ⟩ = (op pc fi ds o).run r tm le s k ∧ (∀ ν w, (∀ u, ν.blk s.nx u = none) → BR P ν w s.nx b) ∧
  ∀ n0 w0 ν tmps s2 w, St P n0 w0 ν s2 w → Glob ν fi.ng → OpsR ν fi ds tm le tmps o → (∀ u, ν.blk s.nx u = none) → s.nx.toNat < s2.nx.toNat → (Tr.get B.none s.nx s2.h = b ∨ Tr.get B.none s.nx s2.h = .none) →
   ∃ ν' y w', ν.le ν' ∧ St P n0 w0 ν' s2 w' ∧ (∀ a, a ≠ s.nx → ∀ u, ν'.blk a u = ν.blk a u) ∧ VR ν' v y ∧ (execOp (ev tmps) o).run P w = .ok (.value y) w'
def Runs (P : Program) (x : Sem Next) (w : World) (y : Value) (w' : World) : Prop := x.run P w = .ok (.value y) w' ∨ (y = Go.undef ∧ x.run P w = .ok .skip w')
def OpS (P : Program) (pc : PC) (fi : FI) (ds : List Nat) (o : Oper) : Prop := ∀ r tm le s k, ¬ ((op pc fi ds o).run r tm le s k).isBad →
 ∃ v s', k v s' = (op pc fi ds o).run r tm le s k ∧ ∀ n0 w0 ν w tmps, St P n0 w0 ν s w → Glob ν fi.ng → OpsR ν fi ds tm le tmps o →
  ∃ ν' y w', Out P n0 w0 ν s ν' s' w' ∧ VR ν' v y ∧ Runs P (execOp (ev tmps) o) w y w'
theorem OpS.bad {pc : PC} {fi : FI} {ds : List Nat} {o : Oper} {m : Nat} (h : op pc fi ds o = badO m) : OpS P pc fi ds o := fun r tm le s k hnb => by rw [h] at hnb; exact absurd trivial hnb
theorem AllocS.bad {pc : PC} {fi : FI} {ds : List Nat} {o : Oper} {m : Nat} (h : op pc fi ds o = badO m) : AllocS P pc fi ds o := fun r tm le s k hnb => by rw [h] at hnb; exact absurd trivial hnb
theorem ReadS.op {pc : PC} {fi : FI} {ds : List Nat} {o : Oper} (h : ReadS P pc fi ds o) : OpS P pc fi ds o := fun r tm le s k hnb => by
 obtain ⟨v, h1, h2⟩ := h r tm le s k hnb
 refine ⟨v, s, h1, fun n0 w0 ν w tmps hst hG hf => ?_⟩
 obtain ⟨y, h3, h4⟩ := h2 ν w tmps hst.rows hG hf
 exact ⟨ν, y, w, Out.refl hst, h3, .inl h4⟩
theorem AllocS.op {pc : PC} {fi : FI} {ds : List Nat} {o : Oper} (h : AllocS P pc fi ds o) : OpS P pc fi ds o := fun r tm le s k hnb => by
 obtain ⟨v, b, h1, h2, h3⟩ := h r tm le s k hnb
 refine ⟨v, _, h1, fun n0 w0 ν w tmps hst hG hf => ?_⟩
 obtain ⟨hn, _⟩ := hst.fresh s.nx (Nat.le_refl _)
 have hst2 := put_blk hst b (h2 ν w hn)
 obtain ⟨ν', y, w', g1, g2, g3, g4, g5⟩ := h3 n0 w0 ν tmps _ w hst2 hG hf hn (by show _ < s.nx.succ.toNat; rw [K.toNat_succ]; omega) (.inl (by simp only [get_set, if_true]))
 refine ⟨ν', y, w', ⟨g1, g2, by show _ ≤ s.nx.succ.toNat; rw [K.toNat_succ]; omega, fun a ha hlt => ?_⟩, g4, .inl g5⟩
 have hne : a ≠ s.nx := by intro e; subst e; omega
 exact ⟨fun u => by rw [g3 a hne u]; exact ha u, .inl (by simp only [get_set, if_neg hne])⟩
theorem push_alloc (w : World) (o : Obj) : ({ w with heap := w.heap.push o } : World) = w.alloc o := rfl
theorem lt_alloc (w : World) (o : Obj) : w.heap.size < (w.alloc o).heap.size := by show _ < (w.heap.push o).size; rw [Array.size_push]; omega
theorem new_alloc (w : World) (o : Obj) : (w.alloc o).heap[w.heap.size]? = some o := by show (w.heap.push o)[w.heap.size]? = _; rw [Array.getElem?_push, if_pos rfl]
theorem bindRow_or {n0 : Nat} {w0 w : World} {ν : Val} {s : S} (hst : St P n0 w0 ν s w) (a : K) (ha : ∀ v, ν.blk a v = none) (hlt : a.toNat < s.nx.toNat) (l : List V) (el : Nat)
  (hrow : Tr.get B.none a s.h = .row l l.length el false 0 0 0 ∨ Tr.get B.none a s.h = .none) (c : Array Value) (hcs : VRs ν l c.toList) (hone : ∀ y ∈ c.toList, y.oneCell' = true) :
  St P n0 w0 (ν.add a 0 w.heap.size 0 (P.cellsOf el)) s (w.alloc (.cells c el)) := by
 have hsize : n0 ≤ w.heap.size := Nat.le_trans hst.n0le hst.below.size
 have hh : ∀ k, k < w.heap.size → (w.alloc (.cells c el)).heap[k]? = w.heap[k]? := fun k hk => Below.heap_alloc w _ k hk
 have hb := hst.below.alloc hsize (.cells c el)
 rcases hrow with h | h
 ·exact bind_row hst a ha hlt l el false 0 h c c.toList hcs (fun i y hy => by simpa using hy) hone (fun g => by cases g) (lt_alloc _ _) hh hb (new_alloc _ _)
 ·exact bind_blk hst a ha hlt 0 0 _ (lt_alloc _ _) hh hb (by rw [h]; trivial)
theorem newRow_eq {s : S} {el : Nat} {l : List V} {gr : Bool} {c : K → Nat → S → A} : newRow s el l gr c = c s.nx l.length ⟨Tr.set B.none (.row l l.length el gr 0 0 0) s.nx s.h, s.nx.succ⟩ := by
 unfold newRow; rw [lenL_eq, hnew_eq]
theorem alloc_new {pc : PC} {fi : FI} {ds : List Nat} {o : Oper} {r : R} {tm : T} {le : List V} {s : S} {k : V → S → A} {l : List V} {el : Nat} {v : V}
  (e : k v ⟨Tr.set B.none (.row l l.length el false 0 0 0) s.nx s.h, s.nx.succ⟩ = (op pc fi ds o).run r tm le s k)
  (h : ∀ (ν : Val) (tmps : Array Value), Glob ν fi.ng → OpsR ν fi ds tm le tmps o → ∃ c : Array Value, VRs ν l c.toList ∧ (∀ y ∈ c.toList, y.oneCell' = true) ∧
   ∀ w, ∃ y, (∀ ν', ν'.blk s.nx 0 = some (w.heap.size, 0) → VR ν' v y) ∧ (execOp (ev tmps) o).run P w = .ok (.value y) (w.alloc (.cells c el))) :
  ∃ v b, k v ⟨Tr.set B.none b s.nx s.h, s.nx.succ⟩ = (op pc fi ds o).run r tm le s k ∧ (∀ ν w, (∀ u, ν.blk s.nx u = none) → BR P ν w s.nx b) ∧
  ∀ n0 w0 ν tmps s2 w, St P n0 w0 ν s2 w → Glob ν fi.ng → OpsR ν fi ds tm le tmps o → (∀ u, ν.blk s.nx u = none) → s.nx.toNat < s2.nx.toNat → (Tr.get B.none s.nx s2.h = b ∨ Tr.get B.none s.nx s2.h = .none) →
   ∃ ν' y w', ν.le ν' ∧ St P n0 w0 ν' s2 w' ∧ (∀ a, a ≠ s.nx → ∀ u, ν'.blk a u = ν.blk a u) ∧ VR ν' v y ∧ (execOp (ev tmps) o).run P w = .ok (.value y) w' := by
 refine ⟨v, _, e, fun ν w hn => BR.newRow hn l el false, fun n0 w0 ν tmps s2 w hst hG hf hn hlt hB => ?_⟩
 obtain ⟨c, h1, h2, h3⟩ := h ν tmps hG hf
 obtain ⟨y, h4, h5⟩ := h3 w
 exact ⟨_, y, _, Val.le_add hn, bindRow_or hst s.nx hn hlt l el hB c h1 h2, fun a ha u => Val.add_other ha, h4 _ Val.add_self, h5⟩
theorem run_newVar (el : TypeId) (z : Value) (w : World) : (newVar el z).run P w = .ok ⟨w.heap.size, 0, none⟩ (w.alloc (.cells z.cells el)) := by simp [newVar, Go.newRow]
theorem run_newRow (el : TypeId) (c : Array Value) (w : World) : (Go.newRow el c).run P w = .ok ⟨w.heap.size, 0, none⟩ (w.alloc (.cells c el)) := by simp [Go.newRow]
theorem VR_ptr0 {ν : Val} {a : K} {b : Nat} (h : ν.blk a 0 = some (b, 0)) : VR ν (.ptr a 0 0) (.pointer (some ⟨b, 0, none⟩)) := ⟨b, 0, h, rfl⟩
theorem alloc_alloc {pc : PC} (hp : PcOk P pc) {fi : FI} {ds : List Nat} {o : Oper} {el : TypeId} (ho : o.op = .alloc el) : AllocS P pc fi ds o := by
 have e : op pc fi ds o = op pc fi ds o := rfl
 conv at e => rhs; simp only [op, ho]
 rcases PC.zc_or hp el (badO 200) _ with h | ⟨zc, h, z, hz, hz1, hz2⟩
 ·exact AllocS.bad (e.trans h)
 ·rw [h] at e
  simp only [fN_eq] at e
  intro r tm le s k hnb
  refine alloc_new (l := zc) (el := el) (v := .ptr s.nx 0 0) (by rw [e]; exact (newRow_eq (c := fun a _ s => k (.ptr a 0 0) s)).symm) (fun ν tmps _ _ => ⟨z.cells, hz1 ν, hz2, fun w => ⟨_, fun ν' h => VR_ptr0 h, ?_⟩⟩)
  simp [execOp, ho, Instr.alloc, hz, run_newVar]
theorem alloc_box {pc : PC} {fi : FI} {ds : List Nat} {o : Oper} {el : TypeId} {x : Operand} (ho : o.op = .box el x) : AllocS P pc fi ds o := by
 have e : op pc fi ds o = op pc fi ds o := rfl
 conv at e => rhs; simp only [op, ho]
 rcases PC.sz_or pc el (badO 201) _ with h | ⟨i, hi, h⟩
 ·exact AllocS.bad (e.trans h)
 ·rw [h] at e
  simp only [fN_eq] at e
  intro r tm le s k hnb
  rw [e, un_run] at hnb
  obtain ⟨u, h1, h2⟩ := opd_ok fi ds x tm le _ hnb
  rw [← h1] at hnb
  obtain ⟨xs, h3, h4, h5⟩ := cellsC_ok hnb
  refine alloc_new (l := xs) (el := el) (v := .ptr s.nx 0 0) (by rw [e, un_run, ← h1, ← h3, newRow_eq]) (fun ν tmps hG hf => ?_)
  obtain ⟨g1, g2⟩ := h5 ν _ (h2 ν tmps hG (hf x (by simp [ho, Op.operands])))
  refine ⟨_, g1, g2, fun w => ⟨_, fun ν' h => VR_ptr0 h, ?_⟩⟩
  simp [execOp, ho, Instr.box, run_newVar]
theorem rep_cells {z : Array Value} {n : Nat} : ((Array.range (n * z.size)).map (fun i => z[i % z.size]!)).toList = (List.range n).flatMap fun _ => z.toList := by
 induction n with
 | zero => simp
 | succ n ih =>
  rw [List.range_succ, List.flatMap_append, ← ih]
  have e : (n + 1) * z.size = n * z.size + z.size := Nat.succ_mul _ _
  simp only [Array.toList_map, Array.toList_range, e, List.range_add, List.map_append, List.map_map, List.flatMap_cons, List.flatMap_nil, List.append_nil]
  congr 1
  apply List.ext_getElem
  ·simp
  ·intro i h1 h2
   simp at h1 h2
   have : (n * z.size + i) % z.size = i := by rw [Nat.add_comm, Nat.add_mul_mod_self_right, Nat.mod_eq_of_lt h1]
   simp [this, h1]
theorem VRs_rep {ν : Val} {l : List V} {c : List Value} (h : VRs ν l c) : ∀ n, VRs ν (rep l n) ((List.range n).flatMap fun _ => c)
 | 0 => rfl
 | n + 1 => by
  have : (List.range (n + 1)).flatMap (fun _ => c) = c ++ (List.range n).flatMap fun _ => c := by
   rw [List.range_succ_eq_map, List.flatMap_cons, List.flatMap_map]
  rw [this]
  exact h.append (VRs_rep h n)
theorem one_rep {c : List Value} {n : Nat} (h : ∀ y ∈ c, y.oneCell' = true) : ∀ y ∈ (List.range n).flatMap (fun _ => c), y.oneCell' = true := by
 intro y hy
 rw [List.mem_flatMap] at hy
 obtain ⟨_, _, hy⟩ := hy
 exact h y hy
theorem alloc_buildSlice {pc : PC} (hp : PcOk P pc) {fi : FI} {ds : List Nat} {o : Oper} {t : TypeId} {len : Nat} {parts : Array (Nat × Operand)} (ho : o.op = .buildSlice t len parts) : AllocS P pc fi ds o := by
 have e : op pc fi ds o = op pc fi ds o := rfl
 conv at e => rhs; simp only [op, ho]
 cases hu : pc.und t with
 | none => rw [hu] at e; exact AllocS.bad e
 | some d =>
  rw [hu] at e
  cases d with
  | slice el =>
   simp only at e
   rcases PC.sz_or pc el (badO 142) _ with h | ⟨i, hi, h⟩
   ·exact AllocS.bad (e.trans h)
   ·rw [h] at e
    rcases PC.zc_or hp el (badO 142) _ with h | ⟨zc, h, z, hz, hz1, hz2⟩
    ·exact AllocS.bad (e.trans h)
    ·rw [h] at e
     rcases chk_or (Nat.beq (lenC zc) i.size && Nat.ble (len * i.size) 16777216) (badO 142) _ with h | ⟨hc, h⟩
     ·exact AllocS.bad (e.trans h)
     ·rw [h] at e
      simp only [fN_eq, repL_eq] at e
      rw [Bool.and_eq_true] at hc
      have hzl : zc.length = i.size := by rw [← lenC_eq]; exact Nat.eq_of_beq_eq_true hc.1
      have hlim : len * i.size ≤ 16777216 := Nat.ble_eq.mp hc.2
      have hrl : (rep zc len).length = len * i.size := by rw [rep_length, hzl]
      intro r tm le s k hnb
      have e2 : (op pc fi ds o).run r tm le s k = (paC fi ds (len * i.size) (fun j => some (j * i.size, i.size)) parts.toList).run tm le (rep zc len) fun l => newRow s el l false fun a _ s => k (.sl a 0 0 len len) s := by rw [e]
      rw [e2] at hnb
      obtain ⟨out, g1, g2, g3⟩ := paC_ok _ tm le (rep zc len) _ hrl hnb
      refine alloc_new (l := out) (el := el) (v := .sl s.nx 0 0 len len) (by rw [e2, ← g1, newRow_eq]) (fun ν tmps hG hf => ?_)
      have hzsz : z.cells.size = i.size := by have := (hz1 ν).length; simp at this; omega
      have hrep : ((Array.range (len * z.cells.size)).map (fun i => z.cells[i % z.cells.size]!)).toList = (List.range len).flatMap fun _ => z.cells.toList := rep_cells
      rw [hzsz] at hrep
      obtain ⟨cells', g4, g5, g6⟩ := g3 ν tmps ((Array.range (len * i.size)).map (fun i => z.cells[i % z.cells.size]!)) hG (fun p hp => hf p.2 (by simp [ho, Op.operands]; exact ⟨p.1, by simpa using hp⟩))
       (by rw [hzsz, hrep]; exact VRs_rep (hz1 ν) len) (by rw [hzsz, hrep]; exact one_rep hz2)
      refine ⟨cells', g5, g6, fun w => ⟨.slice (some ⟨w.heap.size, 0, none⟩) len len, fun ν' h => ⟨_, 0, h, rfl, Nat.le_refl _⟩, ?_⟩⟩
      simp only [execOp, ho]
      have hb : (Instr.buildSlice t len (parts.map fun p => (p.1, ev tmps p.2))).run P w = .ok (.slice (some ⟨w.heap.size, 0, none⟩) len len) (w.alloc (.cells cells' el)) := by
       have hlim' : ¬ (2 ^ 24 < len * i.size) := by omega
       simp only [Instr.buildSlice, Sem.run_bind, run_und (hp.und hu), Result.andThen_ok, run_sz (hp.info _ _ hi), gt_iff_lt, hlim', if_false]
       by_cases h0 : len * i.size = 0
       ·have e0 : ∀ f : Nat → Value, (Array.range 0).map f = #[] := fun f => by simp
        simp only [h0, if_true, Sem.run_pure, Sem.run_bind, Result.andThen_ok, e0]
        have g4' : Instr.fill (fun j => some (j * i.size, i.size)) #[] (parts.toList.map fun p => (p.1, ev tmps p.2)) = some cells' := by
         rw [← g4]; congr 1; rw [h0]; simp
        have : (parts.map fun p => (p.1, ev tmps p.2)).toList = parts.toList.map fun p => (p.1, ev tmps p.2) := by simp
        rw [this, g4']
        simp [run_newRow]
       ·simp only [h0, if_false, Sem.run_bind, hz, Sem.run_pure, Result.andThen_ok]
        have : (parts.map fun p => (p.1, ev tmps p.2)).toList = parts.toList.map fun p => (p.1, ev tmps p.2) := by simp
        rw [this, g4]
        simp [run_newRow]
      simp [hb]
  | _ => exact AllocS.bad e
theorem alloc_makeSlice {pc : PC} (hp : PcOk P pc) {fi : FI} {ds : List Nat} {o : Oper} {t : TypeId} {x y : Operand} (ho : o.op = .makeSlice t x y) : AllocS P pc fi ds o := by
 have e : op pc fi ds o = op pc fi ds o := rfl
 conv at e => rhs; simp only [op, ho]
 cases hu : pc.und t with
 | none => rw [hu] at e; exact AllocS.bad e
 | some d =>
  rw [hu] at e
  cases d with
  | slice el =>
   simp only at e
   rcases PC.sz_or pc el (badO 146) _ with h | ⟨i, hi, h⟩
   ·exact AllocS.bad (e.trans h)
   ·rw [h] at e
    rcases PC.by_or pc el (badO 146) _ with h | ⟨i', hi', h⟩
    ·exact AllocS.bad (e.trans h)
    ·rw [h] at e
     rw [hi] at hi'
     simp only [Option.some.injEq] at hi'
     subst hi'
     rcases PC.zc_or hp el (badO 146) _ with h | ⟨zc, h, z, hz, hz1, hz2⟩
     ·exact AllocS.bad (e.trans h)
     ·rw [h] at e
      rcases chk_or (Nat.beq (lenC zc) i.size) (badO 146) _ with h | ⟨hc, h⟩
      ·exact AllocS.bad (e.trans h)
      ·rw [h] at e
       simp only [fN_eq] at e
       have hzl : zc.length = i.size := by rw [← lenC_eq]; exact Nat.eq_of_beq_eq_true hc
       intro r tm le s k hnb
       rw [e, bi_run] at hnb
       obtain ⟨u, h1, h2⟩ := opd_ok fi ds x tm le _ hnb
       rw [← h1] at hnb
       obtain ⟨v, h3, h4⟩ := opd_ok fi ds y tm le _ hnb
       rw [← h3] at hnb
       cases u with
       | nat k1 l =>
        cases v with
        | nat k2 c =>
         unfold xMakeSlice at hnb
         simp only at hnb
         cases hcond : andB (Nat.ble l c) (andB (Nat.ble c 281474976710656) (Nat.ble (Nat.mul i.bytes c) 281474976710656)) with
         | false => rw [hcond] at hnb; exact absurd trivial hnb
         | true =>
          obtain ⟨q1, q2⟩ := andB_true hcond
          obtain ⟨q2, q3⟩ := andB_true q2
          have q1 := Nat.ble_eq.mp q1
          have q2 := Nat.ble_eq.mp q2
          have q3 : i.bytes * c ≤ 281474976710656 := Nat.ble_eq.mp q3
          refine alloc_new (l := rep zc c) (el := el) (v := .sl s.nx 0 0 l c) (by rw [e, bi_run, ← h1, ← h3]; simp only [xMakeSlice, hcond, repL_eq, newRow_eq]) (fun ν tmps hG hf => ?_)
          have hx := h2 ν tmps hG (hf x (by simp [ho, Op.operands]))
          have hy := h4 ν tmps hG (hf y (by simp [ho, Op.operands]))
          simp only [VR] at hx hy
          have hzsz : z.cells.size = i.size := by have := (hz1 ν).length; simp at this; omega
          have hrep : ((Array.range (c * z.cells.size)).map (fun i => z.cells[i % z.cells.size]!)).toList = (List.range c).flatMap fun _ => z.cells.toList := rep_cells
          rw [hzsz] at hrep
          refine ⟨(Array.range (c * i.size)).map (fun i => z.cells[i % z.cells.size]!), by rw [hzsz, hrep]; exact VRs_rep (hz1 ν) c, by rw [hzsz, hrep]; exact one_rep hz2, fun w => ⟨.slice (some ⟨w.heap.size, 0, none⟩) l c, fun ν' h => ⟨_, 0, h, rfl, q1⟩, ?_⟩⟩
          have wl : IntKind.i64.wrap (l : Int) = (l : Int) := wrap_nat (by show l < 9223372036854775808; omega)
          have wc : IntKind.i64.wrap (c : Int) = (c : Int) := wrap_nat (by show c < 9223372036854775808; omega)
          have b1 : ¬ ((l : Int) < 0) := by omega
          have b2 : ¬ ((c : Int) < 0) := by omega
          have b3 : ¬ ((l : Int) > c) := by omega
          have b4 : ¬ ((i.bytes : Int) * c > 2 ^ 48) := by
           have : ((i.bytes * c : Nat) : Int) ≤ 281474976710656 := Int.ofNat_le.2 q3
           rw [Int.natCast_mul] at this
           omega
          have hb : (Instr.makeSlice t (ev tmps x) (ev tmps y)).run P w = .ok (.slice (some ⟨w.heap.size, 0, none⟩) l c) (w.alloc (.cells ((Array.range (c * i.size)).map (fun i => z.cells[i % z.cells.size]!)) el)) := by
           rw [hx, hy]
           have hcond2 : (decide ((c : Int) < 0) || decide ((i.bytes : Int) * c > 2 ^ 48) || decide ((l : Int) < 0) || decide ((l : Int) > c)) = false := by rw [decide_eq_false b1, decide_eq_false b2, decide_eq_false b3, decide_eq_false b4]; rfl
           simp only [Instr.makeSlice, Sem.run_bind, run_und (hp.und hu), Result.andThen_ok, asInt, asIntOf, Sem.run_pure, run_info (hp.info _ _ hi), Int.ofNat_eq_natCast, wl, wc, hcond2, Bool.false_eq_true, if_false, run_askRoom, run_sz (hp.info _ _ hi), Int.toNat_natCast]
           by_cases h0 : c * i.size = 0
           ·have e0 : ∀ f : Nat → Value, (Array.range 0).map f = #[] := fun f => by simp
            simp only [h0, if_true, Sem.run_pure, Sem.run_bind, Result.andThen_ok, e0, run_newRow]
           ·simp only [h0, if_false, Sem.run_bind, hz, Sem.run_pure, Result.andThen_ok, run_newRow]
          simp [execOp, ho, hb]
        | _ => exact absurd trivial hnb
       | _ => exact absurd trivial hnb
  | _ => exact AllocS.bad e
theorem new_map {pc : PC} {fi : FI} {ds : List Nat} {o : Oper} {r : R} {tm : T} {le : List V} {s : S} {k : V → S → A}
  (e : k (.ref 0 s.nx) ⟨Tr.set B.none (.map [] 0) s.nx s.h, s.nx.succ⟩ = (op pc fi ds o).run r tm le s k)
  (h : ∀ (ν : Val) (tmps : Array Value) w, Glob ν fi.ng → OpsR ν fi ds tm le tmps o → (execOp (ev tmps) o).run P w = .ok (.value (.map (some w.heap.size))) (w.alloc (.map #[] 0))) :
  ∃ v b, k v ⟨Tr.set B.none b s.nx s.h, s.nx.succ⟩ = (op pc fi ds o).run r tm le s k ∧ (∀ ν w, (∀ u, ν.blk s.nx u = none) → BR P ν w s.nx b) ∧
  ∀ n0 w0 ν tmps s2 w, St P n0 w0 ν s2 w → Glob ν fi.ng → OpsR ν fi ds tm le tmps o → (∀ u, ν.blk s.nx u = none) → s.nx.toNat < s2.nx.toNat → (Tr.get B.none s.nx s2.h = b ∨ Tr.get B.none s.nx s2.h = .none) →
   ∃ ν' y w', ν.le ν' ∧ St P n0 w0 ν' s2 w' ∧ (∀ a, a ≠ s.nx → ∀ u, ν'.blk a u = ν.blk a u) ∧ VR ν' v y ∧ (execOp (ev tmps) o).run P w = .ok (.value y) w' := by
 refine ⟨.ref 0 s.nx, .map [] 0, e, fun ν w hn v b δ h => (by rw [hn] at h; cases h), fun n0 w0 ν tmps s2 w hst hG hf hn hlt hB => ?_⟩
 have hsize : n0 ≤ w.heap.size := Nat.le_trans hst.n0le hst.below.size
 refine ⟨ν.add s.nx 0 w.heap.size 0 0, .map (some w.heap.size), w.alloc (.map #[] 0), Val.le_add hn, ?_, fun a ha u => Val.add_other ha, ⟨_, Val.add_self, rfl⟩, h ν tmps w hG hf⟩
 refine bind_blk hst s.nx hn hlt 0 0 0 (lt_alloc _ _) (fun k hk => Below.heap_alloc w _ k hk) (hst.below.alloc hsize _) ?_
 rcases hB with h | h
 ·rw [h]
  intro v b δ hb
  obtain ⟨e1, e2⟩ := Val.add_only hn hb
  simp only [Prod.mk.injEq] at e2
  obtain ⟨rfl, rfl⟩ := e2
  exact ⟨e1, #[], new_alloc _ _, rfl⟩
 ·rw [h]; trivial
theorem alloc_makeMap {pc : PC} (hp : PcOk P pc) {fi : FI} {ds : List Nat} {o : Oper} {t : TypeId} {rs : Option Operand} (ho : o.op = .makeMap t rs) : AllocS P pc fi ds o := by
 have e : op pc fi ds o = op pc fi ds o := rfl
 conv at e => rhs; simp only [op, ho]
 cases rs with
 | some x =>
  simp only at e
  cases hu : pc.und t with
  | none => rw [hu] at e; exact AllocS.bad e
  | some d =>
   rw [hu] at e
   cases d with
   | map j el =>
    simp only at e
    intro r tm le s k hnb
    rw [e, un_run] at hnb
    obtain ⟨u, h1, h2⟩ := opd_ok fi ds x tm le _ hnb
    rw [← h1] at hnb
    cases u with
    | nat kk n =>
     refine new_map (by rw [e, un_run, ← h1]; simp only [hnew_eq]) (fun ν tmps w hG hf => ?_)
     have hv := h2 ν tmps hG (hf x (by simp [ho, Op.operands]))
     simp only [VR] at hv
     simp [execOp, ho, Instr.makeMap, hv, run_und (hp.und hu), asInt, asIntOf]
    | _ => exact absurd trivial hnb
   | _ => exact AllocS.bad e
 | none =>
  intro r tm le s k hnb
  exact new_map (by rw [e]; simp only [hnew_eq]) (fun ν tmps w hG hf => by simp [execOp, ho, Instr.makeMap])
end Go.Ev

namespace Go.Ev
open Go.RowKit
variable {P : Program}
theorem Out.write {n0 : Nat} {w0 w' : World} {ν : Val} {s s' : S} (hst : St P n0 w0 ν s' w') (hnx : s'.nx = s.nx) (hk : Keep ν s s') : Out P n0 w0 ν s ν s' w' :=
 ⟨ν.le_refl, hst, by rw [hnx]; exact Nat.le_refl _, fun a ha hlt => ⟨ha, .inl (hk a ha hlt)⟩⟩
theorem run_stores {w : World} {b o : Nat} {cs : List Value} (ht : w.there b o cs.length) (h1 : ∀ y ∈ cs, y.oneCell' = true) : (storeCells ⟨b, o, none⟩ cs).run P w = .ok () (w.setCells b o cs) := by
 have := run_storeCells_cells (P := P) b o cs 0 w (fun j hj => by simpa using (ht j hj).1) (fun j hj => by simpa using (ht j hj).2) h1
 simpa using this
theorem op_store {pc : PC} (hp : PcOk P pc) {fi : FI} {ds : List Nat} {o : Oper} {t : TypeId} {x y : Operand} (ho : o.op = .store t x y) : OpS P pc fi ds o := by
 have e : op pc fi ds o = op pc fi ds o := rfl
 conv at e => rhs; simp only [op, ho]
 rcases PC.sz_or pc t (badO 25) _ with h | ⟨i, hi, h⟩
 ·exact OpS.bad (e.trans h)
 ·rw [h] at e
  intro r tm le s k hnb
  rw [e, bi_run] at hnb ⊢
  obtain ⟨u, h1, h2⟩ := opd_ok fi ds x tm le _ hnb
  rw [← h1] at hnb ⊢
  obtain ⟨v, h3, h4⟩ := opd_ok fi ds y tm le _ hnb
  rw [← h3] at hnb ⊢
  cases u with
  | ptr a vv p =>
   have e2 : xStore i.size (.ptr a vv p) v s k = cellsC i.size v (fun l => writeCells s a vv p i.size l (fun s => k undef s)) := rfl
   rw [e2] at hnb ⊢
   obtain ⟨xs, g1, g2, g3⟩ := cellsC_ok hnb
   rw [← g1] at hnb ⊢
   obtain ⟨s', g4, g5, g6⟩ := writeCells_ok (P := P) hnb
   refine ⟨undef, s', g4, fun n0 w0 ν w tmps hst hG hf => ?_⟩
   obtain ⟨b, δ, q1, q2⟩ := h2 ν tmps hG (hf x (by simp [ho, Op.operands]))
   obtain ⟨q3, q4⟩ := g3 ν _ (h4 ν tmps hG (hf y (by simp [ho, Op.operands])))
   obtain ⟨q5, q6, q7⟩ := g6 hst b δ q1 _ q3 g2 q4
   have hlen := q3.length
   refine ⟨ν, Go.undef, _, Out.write q6 g5 q7, VR.undef, .inr ⟨rfl, ?_⟩⟩
   have hsz : (ev tmps y).cells.size = i.size := by simpa [g2] using hlen
   have hs := run_stores (P := P) (w := w) (b := b) (o := δ + p) (cs := (ev tmps y).cells.toList) (by simpa [hsz] using q5) q4
   simp [execOp, ho, q2, Instr.storeAt, Instr.sureAddr, storeVar, run_sz (hp.info _ _ hi), hsz, hs]
  | _ => exact absurd trivial hnb
end Go.Ev

namespace Go.Ev
open Go.RowKit
variable {P : Program}
theorem set_obj {n0 : Nat} {w0 w : World} {ν : Val} {s : S} (hst : St P n0 w0 ν s w) {a : K} {b : Nat} {B' : B} {o : Obj} (hb : ν.blk a 0 = some (b, 0)) (hl : (Tr.get B.none a s.h).live) (hnl : ¬ Locked (Tr.get B.none a s.h)) (hv : ∀ v p, ν.blk a v = some p → v = 0) (_ : ¬ Locked B')
  (hB : ∀ w' : World, w'.heap[b]? = some o → BR P ν w' a B') :
  St P n0 w0 ν ⟨Tr.set B.none B' a s.h, s.nx⟩ { w with heap := w.heap.setIfInBounds b o } := by
 have hlt : b < w.heap.size := (hst.rows a).there hl hb
 have hget : ∀ a', Tr.get B.none a' (Tr.set B.none B' a s.h) = if a' = a then B' else Tr.get B.none a' s.h := fun a' => get_set _ _ _ _ _
 have hliv : ∀ a', (Tr.get B.none a' (Tr.set B.none B' a s.h)).live → (Tr.get B.none a' s.h).live := by
  intro a' h
  rw [hget] at h
  by_cases e : a' = a
  ·rw [e]; exact hl
  ·rwa [if_neg e] at h
 have hn0 : n0 ≤ b := by
  rcases hst.own a 0 b 0 hb hl with h | h
  ·exact h
  ·exact absurd h hnl
 have hheap : ∀ k, k ≠ b → (w.heap.setIfInBounds b o)[k]? = w.heap[k]? := fun k hk => Array.getElem?_setIfInBounds_ne (fun e => hk e.symm)
 have hnew : (w.heap.setIfInBounds b o)[b]? = some o := by simp [hlt]
 refine ⟨hst.below.trans ⟨rfl, rfl, rfl, by simp, fun k hk => hheap k (by omega)⟩, hst.n0le, fun a' => ?_, fun a' ha' => ?_, fun a1 v1 b1 δ1 a2 v2 δ2 h1 h2 l1 l2 => hst.sep _ _ _ _ _ _ _ h1 h2 (hliv _ l1) (hliv _ l2), fun a' v' b' δ' hb' hlv => ?_⟩
 ·simp only [hget]
  by_cases e : a' = a
  ·subst e; rw [if_pos rfl]; exact hB _ hnew
  ·rw [if_neg e]
   refine (hst.rows a').frame fun v' b' δ' hb' hl2 => hheap _ ?_
   intro eb; subst eb
   exact e (hst.sep _ _ _ _ _ _ _ hb' hb hl2 hl)
 ·obtain ⟨h1, h2⟩ := hst.fresh a' ha'
  refine ⟨h1, ?_⟩
  simp only [hget]
  rw [if_neg]
  ·exact h2
  ·intro e; subst e; rw [h1] at hb; cases hb
 ·by_cases e : a' = a
  ·subst e
   have := hv _ _ hb'
   subst this
   rw [hb] at hb'
   simp only [Option.some.injEq, Prod.mk.injEq] at hb'
   left; omega
  ·rcases hst.own a' v' b' δ' hb' (hliv _ hlv) with h | h
   ·exact .inl h
   ·right; simp only [hget, if_neg e]; exact h
theorem bytes_eq {a b : ByteArray} (h : bytesL a = bytesL b) : a = b := by
 have h1 := bytesL_inj.1 h
 rw [bytes_toList, bytes_toList] at h1
 cases a; cases b
 simp at h1
 congr
theorem eqP_same {q : Nat} {a b : V} (h : eqP q a b = some true) (hq : q = 0 ∨ q = 7 ∨ q = 8) {ν : Val} {x y : Value} (hx : VR ν a x) (hy : VR ν b y) (d : Nat) : Instr.sameBits d y x = true := by
 rcases hq with rfl | rfl | rfl
 ·cases a <;> first | (cases h; done) | skip
  rename_i p
  cases b <;> first | (cases h; done) | skip
  rename_i p'
  simp only [VR] at hx hy
  subst hx hy
  cases p <;> cases p' <;> first | (simp [eqP, notB] at h; done) | simp [Instr.sameBits]
 ·cases a <;> first | (cases h; done) | skip
  ·rename_i k n
   cases b <;> first | (cases h; done) | skip
   ·rename_i k' n'
    simp only [VR] at hx hy
    subst hx hy
    simp only [eqP] at h
    cases hk : kbeq k k' with
    | false => rw [hk] at h; cases h
    | true =>
     rw [hk] at h
     have := (kbeq_iff _ _).1 hk
     subst this
     simp only [Option.some.injEq] at h
     have := Nat.eq_of_beq_eq_true h
     subst this
     simp [Instr.sameBits]
   ·rename_i k' n'
    simp only [eqP] at h
    cases hk : kbeq k k' <;> rw [hk] at h <;> simp at h
  ·rename_i k n
   cases b <;> first | (cases h; done) | skip
   ·rename_i k' n'
    simp only [eqP] at h
    cases hk : kbeq k k' <;> rw [hk] at h <;> simp at h
   ·rename_i k' n'
    simp only [VR] at hx hy
    subst hx hy
    simp only [eqP] at h
    cases hk : kbeq k k' with
    | false => rw [hk] at h; cases h
    | true =>
     rw [hk] at h
     have := (kbeq_iff _ _).1 hk
     subst this
     simp only [Option.some.injEq] at h
     have := Nat.eq_of_beq_eq_true h
     subst this
     simp [Instr.sameBits]
 ·cases a <;> first | (cases h; done) | skip
  rename_i l
  cases b <;> first | (cases h; done) | skip
  rename_i l'
  obtain ⟨s, rfl, h1⟩ := hx
  obtain ⟨t, rfl, h2⟩ := hy
  simp only [eqP, Option.some.injEq] at h
  have := (eqS_iff _ _).1 h
  subst this
  have := bytes_eq (h1.trans h2.symm)
  subst this
  have hss : (s == s) = true := (MapKept.bytes_beq s s).2 rfl
  cases d <;> simp only [Instr.sameBits, hss]
theorem QTy.q {t : TypeId} {q : Nat} (h : QTy P t q) : q = 0 ∨ q = 7 ∨ q = 8 := by
 rcases h with ⟨h, _⟩ | ⟨h, _⟩ | ⟨h, _⟩
 ·exact .inl h
 ·exact .inr (.inl h)
 ·exact .inr (.inr h)
theorem FieldsOk.kinds : ∀ {n : Nat} {fs : List Field} {qs : List Nat}, FieldsOk P n fs qs → ∀ q ∈ qs, q = 0 ∨ q = 7 ∨ q = 8
 | _, [], [], _, q, h => by cases h
 | _, f :: fs, q0 :: qs, ⟨_, _, h1, h2⟩, q, h => by
  rcases List.mem_cons.1 h with rfl | h
  ·exact h1.q
  ·exact h2.kinds q h
 | _, [], _ :: _, h, _, _ => h.elim
 | _, _ :: _, [], h, _, _ => h.elim
theorem eqPs_same : ∀ {qs : List Nat} {a b : List V}, (∀ q ∈ qs, q = 0 ∨ q = 7 ∨ q = 8) → eqPs qs a b = some true → ∀ {ν : Val} {xs ys : List Value}, VRs ν a xs → VRs ν b ys → ∀ d, ys.length = xs.length ∧ ∀ p ∈ ys.zip xs, Instr.sameBits d p.1 p.2 = true
 | [], a, b, _, h, ν, xs, ys, hx, hy, d => by
  cases a with
  | nil => cases b with
   | nil => simp only [VRs] at hx hy; subst hx hy; simp
   | cons _ _ => cases h
  | cons _ _ => cases b <;> cases h
 | q :: qs, a, b, hf, h, ν, xs, ys, hx, hy, d => by
  have hq := hf q List.mem_cons_self
  have hf : ∀ q ∈ qs, q = 0 ∨ q = 7 ∨ q = 8 := fun q h => hf q (List.mem_cons_of_mem _ h)
  cases a with
  | nil => cases h
  | cons u a => cases b with
   | nil => cases h
   | cons v b =>
    have e : eqPs (q :: qs) (u :: a) (v :: b) = (match eqP q u v with | some true => eqPs qs a b | some false => some false | none => none) := rfl
    rw [e] at h
    cases h1 : eqP q u v with
    | none => rw [h1] at h; cases h
    | some t =>
     rw [h1] at h
     cases t with
     | false => cases h
     | true =>
      obtain ⟨x, r, e1, hx1, hx2⟩ := hx
      obtain ⟨y, r', e2, hy1, hy2⟩ := hy
      subst e1 e2
      obtain ⟨g1, g2⟩ := eqPs_same hf h hx2 hy2 d
      refine ⟨by simp [g1], fun p hp => ?_⟩
      simp only [List.zip_cons_cons, List.mem_cons] at hp
      rcases hp with rfl | hp
      ·exact eqP_same h1 hq hx1 hy1 d
      ·exact g2 p hp
theorem eqV_same {pc : PC} (hp : PcOk P pc) {j : TypeId} (hk : keyOk (pc.eqKind j) = true) {a b : V} (h : eqV (pc.eqKind j) false a b = some true) {ν : Val} {x y : Value} (hx : VR ν a x) (hy : VR ν b y) : Instr.sameBits 10000 y x = true := by
 unfold keyOk at hk
 simp only [Bool.or_eq_true] at hk
 rcases hk with ((hk | hk) | hk) | hk
 ·have := Nat.eq_of_beq_eq_true hk
  unfold eqV at h
  rw [this] at h
  exact eqP_same h (.inl rfl) hx hy _
 ·have h6 := Nat.eq_of_beq_eq_true hk
  have h4 : ∀ q ∈ (pc.eqKind j).qs, q = 0 ∨ q = 7 ∨ q = 8 := by
   rcases eqKind_struct hp h6 with ⟨fs, _, h4⟩ | ⟨n, e, q, i, _, _, _, h4, h5⟩
   ·exact h4.kinds
   ·rw [h5]; intro q' hq'; rw [List.eq_of_mem_replicate hq']; exact h4.q
  unfold eqV at h
  rw [h6] at h
  cases a with
  | ls t l => cases b with
   | ls t' l' =>
    simp only at h
    cases ht : andB (Nat.beq t 0) (Nat.beq t' 0) with
    | false => rw [ht] at h; cases h
    | true =>
     rw [ht] at h
     obtain ⟨e1, e2⟩ := andB_true ht
     have e1 := Nat.eq_of_beq_eq_true e1
     have e2 := Nat.eq_of_beq_eq_true e2
     subst e1 e2
     obtain ⟨cx, q1, q2, _⟩ := hx
     obtain ⟨cy, q3, q4, _⟩ := hy
     subst q2 q4
     obtain ⟨g1, g2⟩ := eqPs_same h4 h q1 q3 9999
     show Instr.sameBits (9999 + 1) _ _ = true
     rw [Instr.sameBits.eq_def]
     simp only [Bool.and_eq_true, beq_iff_eq, List.all_eq_true]
     exact ⟨by simpa using g1, fun p hp => g2 p hp⟩
   | _ => cases h
  | _ => cases h
 ·have := Nat.eq_of_beq_eq_true hk
  unfold eqV at h
  rw [this] at h
  exact eqP_same h (.inr (.inl rfl)) hx hy _
 ·have := Nat.eq_of_beq_eq_true hk
  unfold eqV at h
  rw [this] at h
  exact eqP_same h (.inr (.inr rfl)) hx hy _
theorem MRs.append {ν : Val} : ∀ {es : List ME} {c : List MapEntry} {e : ME} {x : MapEntry}, MRs ν es c → MR ν e x → MRs ν (es ++ [e]) (c ++ [x])
 | [], _, e, x, h, k => by simp only [MRs] at h; subst h; exact ⟨x, [], rfl, k, rfl⟩
 | _ :: _, _, e, x, ⟨y, r, e1, h1, h2⟩, k => by subst e1; exact ⟨y, _, rfl, h1, MRs.append h2 k⟩
theorem updE_ok {pc : PC} (hp : PcOk P pc) {j : TypeId} (hk : keyOk (pc.eqKind j) = true) {key val : V} {ck : Nat} : ∀ {es : List ME} {c : Bool → List ME → A}, ¬ (updE (pc.eqKind j) key val ck es c).isBad → ∃ b l', c b l' = updE (pc.eqKind j) key val ck es c ∧
  ∀ (ν : Val) (k v : Value) (es' : List MapEntry), VR ν key k → VR ν val v → MRs ν es es' → ∀ i, ∃ r', (∀ w, (Instr.findAsking j k es' i).run P w = .ok r' w) ∧
   match r' with
   | none => b = true ∧ MRs ν l' (es' ++ [⟨k, v, ck⟩])
   | some (m, _) => b = false ∧ i ≤ m ∧ ∃ e, es'[m - i]? = some e ∧ Instr.sameBits 10000 e.key k = true ∧ MRs ν l' (es'.set (m - i) ⟨k, v, e.born⟩)
 | [], c, _ => ⟨true, [⟨key, val, ck⟩], rfl, fun ν k v es' h1 h2 he i => ⟨none, fun w => by simp only [MRs] at he; subst he; rfl, rfl, by simp only [MRs] at he; subst he; exact ⟨_, [], rfl, ⟨h1, h2, rfl⟩, rfl⟩⟩⟩
 | e :: es, c, hnb => by
  have eq : updE (pc.eqKind j) key val ck (e :: es) c = (match eqV (pc.eqKind j) false key e.key with | some true => c false (⟨key, val, e.born⟩ :: es) | some false => updE (pc.eqKind j) key val ck es (fun b l => c b (e :: l)) | none => .bad 81) := rfl
  rw [eq] at hnb ⊢
  cases hq : eqV (pc.eqKind j) false key e.key with
  | none => rw [hq] at hnb; exact absurd trivial hnb
  | some b =>
   rw [hq] at hnb
   cases b with
   | true =>
    refine ⟨false, _, rfl, fun ν k v es' h1 h2 he i => ?_⟩
    obtain ⟨x, r, e1, ⟨m1, m2, m3⟩, h3⟩ := he
    subst e1
    obtain ⟨h4, _⟩ := eqV_ok hp hq h1 m1
    refine ⟨some (i, x.val), fun w => by simp [Instr.findAsking, h4 w], rfl, Nat.le_refl _, x, by simp, eqV_same hp hk hq h1 m1, ?_⟩
    simp only [Nat.sub_self, List.set_cons_zero]
    exact ⟨_, _, rfl, ⟨h1, h2, m3⟩, h3⟩
   | false =>
    obtain ⟨b0, l0, h0, h1⟩ := updE_ok hp hk hnb
    refine ⟨b0, e :: l0, h0, fun ν k v es' hk1 hv he i => ?_⟩
    obtain ⟨x, r, e1, ⟨m1, m2, m3⟩, h3⟩ := he
    subst e1
    obtain ⟨h4, _⟩ := eqV_ok hp hq hk1 m1
    obtain ⟨r', h5, h6⟩ := h1 ν k v r hk1 hv h3 (i + 1)
    refine ⟨r', fun w => by simp [Instr.findAsking, h4 w, h5 w], ?_⟩
    cases r' with
    | none => exact ⟨h6.1, ⟨x, _, rfl, ⟨m1, m2, m3⟩, h6.2⟩⟩
    | some p =>
     obtain ⟨q1, q2, e', q3, q4, q5⟩ := h6
     refine ⟨q1, by omega, e', ?_, q4, ?_⟩
     ·rw [show p.1 - i = (p.1 - (i + 1)) + 1 by omega]; simpa using q3
     ·rw [show p.1 - i = (p.1 - (i + 1)) + 1 by omega, List.set_cons_succ]
      exact ⟨x, _, rfl, ⟨m1, m2, m3⟩, q5⟩
theorem op_mapUpd {pc : PC} (hp : PcOk P pc) {fi : FI} {ds : List Nat} {o : Oper} {t : TypeId} {m kx x : Operand} (ho : o.op = .mapUpdate t m kx x ∨ o.op = .insert t m kx x) : OpS P pc fi ds o := by
 have e : op pc fi ds o = (match opd fi ds m, opd fi ds kx, opd fi ds x with | ⟨f⟩, ⟨g⟩, ⟨h⟩ => (match pc.und t with
  | some (.map j _) => fK (pc.eqKind j) fun q => chk (keyOk q) (badO 155) ⟨fun _ tm le s c => f tm le fun m => g tm le fun k => h tm le fun x => xMapUpd q m k x s c⟩
  | _ => badO 155)) := by rcases ho with ho | ho <;> simp only [op, ho] <;> rfl
 have hops : m ∈ o.op.operands.toList ∧ kx ∈ o.op.operands.toList ∧ x ∈ o.op.operands.toList := by rcases ho with ho | ho <;> simp [ho, Op.operands]
 have hex : ∀ tmps, execOp (ev tmps) o = (do Instr.mapUpdate t (ev tmps m) (ev tmps kx) (ev tmps x); pure .skip) := by
  intro tmps; rcases ho with ho | ho <;> simp only [execOp, ho]
 cases hu : pc.und t with
 | none => rw [hu] at e; exact OpS.bad e
 | some d =>
  rw [hu] at e
  cases d with
  | map j el =>
   simp only [fK_eq] at e
   rcases chk_or (keyOk (pc.eqKind j)) (badO 155) _ with h | ⟨hk, h⟩
   ·exact OpS.bad (e.trans h)
   ·rw [h] at e
    obtain ⟨dj, hdj⟩ := keyOk_und hp hk
    intro r tm le s k hnb
    have e2 : (op pc fi ds o).run r tm le s k = (opd fi ds m).run tm le fun m => (opd fi ds kx).run tm le fun kk => (opd fi ds x).run tm le fun x => xMapUpd (pc.eqKind j) m kk x s k := by rw [e]
    rw [e2] at hnb ⊢
    obtain ⟨u1, h1, h2⟩ := opd_ok fi ds m tm le _ hnb
    rw [← h1] at hnb ⊢
    obtain ⟨u2, h3, h4⟩ := opd_ok fi ds kx tm le _ hnb
    rw [← h3] at hnb ⊢
    obtain ⟨u3, h5, h6⟩ := opd_ok fi ds x tm le _ hnb
    rw [← h5] at hnb ⊢
    unfold xMapUpd at hnb ⊢
    obtain ⟨q1, q2⟩ := keyC_ok hp hk hnb
    rw [q1] at hnb ⊢
    cases u1 with
    | ref n a =>
     simp only at hnb ⊢
     cases ht : Nat.beq n 0 with
     | false => rw [ht] at hnb; exact absurd trivial hnb
     | true =>
      have := Nat.eq_of_beq_eq_true ht
      subst this
      simp only [ht, hget_row] at hnb ⊢
      cases hB : Tr.get B.none a s.h with
      | map es ck =>
       rw [hB] at hnb
       simp only [fN_eq, hset_eq] at hnb ⊢
       obtain ⟨b, l', g1, g2⟩ := updE_ok hp hk hnb
       rw [← g1] at hnb ⊢
       refine ⟨undef, _, rfl, fun n0 w0 ν w tmps hst hG hf => ?_⟩
       obtain ⟨b0, v1, v2⟩ := h2 ν tmps hG (hf m hops.1)
       have v3 := h4 ν tmps hG (hf kx hops.2.1)
       have v4 := h6 ν tmps hG (hf x hops.2.2)
       have hv : ∀ v p, ν.blk a v = some p → v = 0 := by
        intro v p hvp
        have := hst.rows a
        rw [hB] at this
        exact (this v p.1 p.2 hvp).1
       obtain ⟨es', q3, q4⟩ := map_at hst.rows hB v1
       obtain ⟨r', q5, q6⟩ := g2 ν _ _ es'.toList v3 v4 q4 0
       have q7 := findKey_ok hdj _ es'.toList w (q5 w)
       have hlive : (Tr.get B.none a s.h).live := by rw [hB]; trivial
       have hnl : ¬ Locked (Tr.get B.none a s.h) := by rw [hB]; exact fun h => h
       have fin : ∀ (es2 : Array MapEntry) (ck2 : Nat), MRs ν l' es2.toList → (if b = true then ck + 1 else ck) = ck2 → (Instr.mapUpdate t (ev tmps m) (ev tmps kx) (ev tmps x)).run P w = .ok () { w with heap := w.heap.setIfInBounds b0 (.map es2 ck2) } →
         ∃ ν' y w', Out P n0 w0 ν s ν' ⟨Tr.set B.none (.map l' (Bool.rec ck ck.succ b)) a s.h, s.nx⟩ w' ∧ VR ν' undef y ∧ Runs P (execOp (ev tmps) o) w y w' := by
        intro es2 ck2 hm hck hrun
        have hck' : (Bool.rec ck ck.succ b : Nat) = ck2 := by rw [← hck]; cases b <;> rfl
        refine ⟨ν, Go.undef, _, Out.write (set_obj hst v1 hlive hnl hv (B' := .map l' (Bool.rec ck ck.succ b)) (o := .map es2 ck2) (fun h => h) (fun w' hw' => ?_)) rfl (set_keep v1 _), VR.undef, .inr ⟨rfl, by rw [hex]; simp [hrun]⟩⟩
        intro v b' δ' hb'
        have hv0 := hv v _ hb'
        subst hv0
        rw [v1] at hb'
        simp only [Option.some.injEq, Prod.mk.injEq] at hb'
        rw [← hb'.1, hck']
        exact ⟨rfl, es2, hw', hm⟩
       cases r' with
       | none =>
        obtain ⟨p1, p2⟩ := q6
        refine fin (es'.push ⟨ev tmps kx, ev tmps x, ck⟩) (ck + 1) (by simpa using p2) (by rw [p1]; rfl) ?_
        simp [Instr.mapUpdate, run_und (hp.und hu), v2, run_getMap q3, q2 ν _ v3, q7, MapKept.run_setObj_map _ q3]
       | some p =>
        obtain ⟨p1, p2, e0, p3, p4, p5⟩ := q6
        simp only [Nat.sub_zero, Array.getElem?_toList] at p3 p5
        have hlt : p.1 < es'.size := (Array.getElem?_eq_some_iff.1 p3).1
        have hgete : es'[p.1] = e0 := (Array.getElem?_eq_some_iff.1 p3).2
        refine fin (es'.modify p.1 fun e => { e with key := ev tmps kx, val := ev tmps x }) ck ?_ (by rw [p1]; rfl) ?_
        ·have : (es'.modify p.1 fun e => { e with key := ev tmps kx, val := ev tmps x }).toList = es'.toList.set p.1 ⟨ev tmps kx, ev tmps x, e0.born⟩ := by
          apply List.ext_getElem?
          intro i
          rw [Array.getElem?_toList, Array.getElem?_modify, List.getElem?_set]
          by_cases hi : p.1 = i
          ·subst hi; simp [hlt, hgete]
          ·simp [hi]
         rw [this]; exact p5
        ·simp [Instr.mapUpdate, run_und (hp.und hu), v2, run_getMap q3, q2 ν _ v3, q7, Instr.keyThatStays, p3, p4, MapKept.run_setObj_map _ q3]
      | _ => rw [hB] at hnb; exact absurd trivial hnb
    | _ => exact absurd trivial hnb
  | _ => exact OpS.bad e
end Go.Ev

namespace Go.Ev
open Go.RowKit
variable {P : Program}
def SrcOk (P : Program) (ats : Array TypeId) (size : Nat) (z : Value) (w : World) (zeros : Bool) (x : Value) (n : Nat) (cs : List Value) : Prop :=
 if zeros then (∃ u k, ats[1]? = some u ∧ P.underlying u = some (.int k)) ∧ (∃ k, x = .int k (n : Int)) ∧ n ≤ 1048576 ∧ cs = (List.range n).flatMap fun _ => z.cells.toList
 else (∃ u d, ats[1]? = some u ∧ P.underlying u = some d ∧ ∀ k, d ≠ .int k) ∧ (∀ w', (Builtin.lenOf x).run P w' = .ok n w') ∧ ∀ w' : World, w'.heap = w.heap → (Builtin.firstCells size n x).run P w' = .ok cs.toArray w'
theorem zeroCells_list (z : Array Value) (n : Nat) : (Builtin.zeroCells z n) = ((List.range n).flatMap fun _ => z.toList).toArray := by
 apply Array.ext'
 rw [← rep_cells]
 rfl
theorem growBy_le (newLen : Nat) : ∀ (r c : Nat), Builtin.growBy newLen r c ≤ max c (newLen + (newLen + 768) / 4)
 | 0, c => by simp [Builtin.growBy]; omega
 | r + 1, c => by
  rw [Builtin.growBy]
  split
  ·omega
  ·have := growBy_le newLen r (c + (c + 768) / 4)
   omega
theorem nextcap_le {need cap : Nat} (h : cap < need) (h2 : need ≤ 1048576) : Builtin.nextslicecap need cap ≤ 2097152 := by
 unfold Builtin.nextslicecap
 split
 ·omega
 ·split
  ·omega
  ·have := growBy_le need 4 cap
   omega
theorem notInt {d : TypeDesc} (h : ∀ k, d ≠ .int k) : (match d with | .int _ => true | _ => false) = false := by cases d <;> first | rfl | exact absurd rfl (h _)
section
variable {ats : Array TypeId} {t el : TypeId} {i : TypeInfo} {z : Value} {w : World} {zeros : Bool} {x : Value} {n : Nat} {cs : List Value} {cargs : Array Value} {base : Option Addr} {sLen sCap : Nat}
theorem append_fit {b off : Nat} {ty : TypeId} (h0 : ats[0]? = some t) (hu : P.underlying t = some (.slice el)) (hi : P.info? el = some i) (hz : ∀ w, (zeroValue el).run P w = .ok z w) (hb : i.bytes ≤ 1048576)
  (c0 : cargs[0]? = some (.slice (some ⟨b, off, none⟩) sLen sCap)) (c1 : cargs[1]? = some x) (hs : SrcOk P ats i.size z w zeros x n cs) (hcl : cs.length = n * i.size) (_ : z.cells.size = i.size) (hfit : sLen + n ≤ sCap) (ht : w.there b (off + sLen * i.size) cs.length) (h1 : ∀ y ∈ cs, y.oneCell' = true) :
  (Builtin.append_ ats ty cargs).run P w = .ok (.slice (some ⟨b, off, none⟩) (sLen + n) sCap) (w.setCells b (off + sLen * i.size) cs) := by
 have hst := run_stores (P := P) ht h1
 cases zeros with
 | false =>
  obtain ⟨⟨u, d, g1, g2, g3⟩, g4, g5⟩ := hs
  simp only [Builtin.append_, h0, c0, c1, Sem.run_bind, run_und hu, Result.andThen_ok, run_sz hi, g1, run_und g2, Sem.run_pure, Bool.false_eq_true, if_false, g4, hfit, if_true, Bool.not_false, g5 w rfl, add_off, hst]
 | true =>
  obtain ⟨⟨u, k, g1, g2⟩, ⟨k', g3⟩, g4, g5⟩ := hs
  subst g3
  have wn : IntKind.i64.wrap (n : Int) = (n : Int) := wrap_nat (by show n < 9223372036854775808; omega)
  have b1 : ¬ ((n : Int) < 0) := by omega
  have b2 : ¬ ((n : Int) * (i.bytes : Int) > 2 ^ 48) := by
   have : n * i.bytes ≤ 1048576 * 1048576 := Nat.mul_le_mul g4 hb
   have h2 : ((n * i.bytes : Nat) : Int) ≤ ((1048576 * 1048576 : Nat) : Int) := Int.ofNat_le.2 this
   rw [Int.natCast_mul] at h2
   omega
  simp only [Builtin.append_, h0, c0, c1, Sem.run_bind, run_und hu, Result.andThen_ok, run_sz hi, g1, run_und g2, Sem.run_pure, if_true, asInt, asIntOf, wn, b1, if_false, run_info hi, b2, Int.toNat_natCast, hfit, Bool.not_true, Bool.false_eq_true]
  by_cases h : n * i.size = 0
  ·have : cs = [] := List.length_eq_zero_iff.1 (by rw [hcl]; exact h)
   subst this
   simp only [h, if_true, Sem.run_pure, Result.andThen_ok, add_off]
   have := hst
   simp only [this, Result.andThen_ok]
  ·simp only [h, if_false, Sem.run_bind, hz, Result.andThen_ok, Sem.run_pure, zeroCells_list, ← g5, add_off, hst]
theorem append_zero {ty : TypeId} (h0 : ats[0]? = some t) (hu : P.underlying t = some (.slice el)) (hi : P.info? el = some i) (_ : i.bytes ≤ 1048576)
  (c0 : cargs[0]? = some (.slice base sLen sCap)) (c1 : cargs[1]? = some x) (hs : SrcOk P ats i.size z w zeros x 0 cs) (hcl : cs.length = 0 * i.size) (hfit : sLen ≤ sCap) :
  (Builtin.append_ ats ty cargs).run P w = .ok (.slice base sLen sCap) w := by
 have hc0 : cs = [] := List.length_eq_zero_iff.1 (by rw [hcl]; simp)
 subst hc0
 have hst : ∀ a, (storeCells a []).run P w = .ok () w := fun a => rfl
 cases zeros with
 | false =>
  obtain ⟨⟨u, d, g1, g2, g3⟩, g4, g5⟩ := hs
  cases base <;> simp only [Builtin.append_, h0, c0, c1, Sem.run_bind, run_und hu, Result.andThen_ok, run_sz hi, g1, run_und g2, Sem.run_pure, Bool.false_eq_true, if_false, g4, Nat.add_zero, hfit, if_true, Bool.not_false, g5 w rfl, hst]
 | true =>
  obtain ⟨⟨u, k, g1, g2⟩, ⟨k', g3⟩, g4, g5⟩ := hs
  subst g3
  have wn : IntKind.i64.wrap ((0 : Nat) : Int) = ((0 : Nat) : Int) := wrap_nat (by show 0 < 9223372036854775808; omega)
  have b1 : ¬ (((0 : Nat) : Int) < 0) := by omega
  have b2 : ¬ (((0 : Nat) : Int) * (i.bytes : Int) > 2 ^ 48) := by
   have : ((0 : Nat) : Int) * (i.bytes : Int) = 0 := by simp
   rw [this]; omega
  cases base <;> simp only [Builtin.append_, h0, c0, c1, Sem.run_bind, run_und hu, Result.andThen_ok, run_sz hi, g1, run_und g2, Sem.run_pure, if_true, asInt, asIntOf, wn, b1, if_false, run_info hi, b2, Int.toNat_natCast, Nat.add_zero, hfit, Bool.not_true, Bool.false_eq_true, Nat.zero_mul, hst]
theorem append_grow {ty : TypeId} (h0 : ats[0]? = some t) (hu : P.underlying t = some (.slice el)) (hi : P.info? el = some i) (hz : ∀ w, (zeroValue el).run P w = .ok z w) (hb : i.bytes ≤ 1048576)
  (c0 : cargs[0]? = some (.slice base sLen sCap)) (c1 : cargs[1]? = some x) (hs : SrcOk P ats i.size z w zeros x n cs) (hcl : cs.length = n * i.size) (hzs : z.cells.size = i.size) (hbig : sCap < sLen + n) (hlim : sLen + n ≤ 1048576)
  {old : List Value} (hold : ∀ w' : World, w'.heap = w.heap → (Builtin.firstCells i.size sLen (.slice base sLen sCap)).run P w' = .ok old.toArray w') :
  ∃ newCap, sLen + n ≤ newCap ∧ ∃ rest : List Value, rest.length = (newCap - (sLen + n)) * i.size ∧ (Builtin.append_ ats ty cargs).run P w = .ok (.slice (some ⟨w.heap.size, 0, none⟩) (sLen + n) newCap) (({ w with drawn := w.drawn + 1 } : World).alloc (.cells (old ++ cs ++ rest).toArray el)) := by
 have hnc := nextcap_le hbig hlim
 have hnf : ¬ (sLen + n ≤ sCap) := by omega
 have m1 : ¬ (((sLen + n : Nat) : Int) > IntKind.i64.max) := by
  have e : IntKind.i64.max = 9223372036854775807 := rfl
  rw [e]; omega
 have m2 : ¬ (Builtin.nextslicecap (sLen + n) sCap * i.bytes > 2 ^ 48) := by
  have : Builtin.nextslicecap (sLen + n) sCap * i.bytes ≤ 2097152 * 1048576 := Nat.mul_le_mul hnc hb
  omega
 have hrest : ∀ m, (Builtin.zeroCells z.cells m).toList.length = m * i.size := by
  intro m; simp [Builtin.zeroCells, hzs]
 let q : Question := .appendCap (sLen + n) sCap el
 have hcut : ∀ t, q.cut t = sLen + n + t % (2 ^ 63 - (sLen + n)) := fun t => rfl
 have hch : (choose (.appendCap (sLen + n) sCap el)).run P w = .ok (q.cut (w.tape w.drawn q)) { w with drawn := w.drawn + 1 } := by
  simp [choose, Sem.run, Question.forced, q]
 generalize hN : q.cut (w.tape w.drawn q) = N at hch
 have hN1 : sLen + n ≤ N := by rw [← hN, hcut]; omega
 refine ⟨N, hN1, (Builtin.zeroCells z.cells (N - (sLen + n))).toList, hrest _, ?_⟩
 have hcat : (old.toArray ++ cs.toArray ++ Builtin.zeroCells z.cells (N - (sLen + n))) = (old ++ cs ++ (Builtin.zeroCells z.cells (N - (sLen + n))).toList).toArray := by
  apply Array.ext'; simp
 cases zeros with
 | false =>
  obtain ⟨⟨u, d, g1, g2, g3⟩, g4, g5⟩ := hs
  simp only [Builtin.append_, h0, c0, c1, Sem.run_bind, run_und hu, Result.andThen_ok, run_sz hi, g1, run_und g2, Sem.run_pure, Bool.false_eq_true, if_false, g4, hnf, run_info hi, m1, false_and, m2, hch, run_askRoom,
   hold { w with drawn := w.drawn + 1 } rfl, g5 { w with drawn := w.drawn + 1 } rfl, Bool.not_false, if_true, hz, hcat, run_newRow]
 | true =>
  obtain ⟨⟨u, k, g1, g2⟩, ⟨k', g3⟩, g4, g5⟩ := hs
  subst g3
  have wn : IntKind.i64.wrap (n : Int) = (n : Int) := wrap_nat (by show n < 9223372036854775808; omega)
  have b1 : ¬ ((n : Int) < 0) := by omega
  have b2 : ¬ ((n : Int) * (i.bytes : Int) > 2 ^ 48) := by
   have : n * i.bytes ≤ 1048576 * 1048576 := Nat.mul_le_mul g4 hb
   have h2 : ((n * i.bytes : Nat) : Int) ≤ ((1048576 * 1048576 : Nat) : Int) := Int.ofNat_le.2 this
   rw [Int.natCast_mul] at h2
   omega
  have happ : ∀ w : World, ((if n * i.size = 0 then pure #[] else do pure (Builtin.zeroCells (← zeroValue el).cells n) : Sem (Array Value))).run P w = .ok cs.toArray w := by
   intro w
   by_cases h : n * i.size = 0
   ·have : cs = [] := List.length_eq_zero_iff.1 (by rw [hcl]; exact h)
    subst this
    simp [h]
   ·simp [h, hz, zeroCells_list, ← g5]
  simp only [Builtin.append_, h0, c0, c1, Sem.run_bind, run_und hu, Result.andThen_ok, run_sz hi, g1, run_und g2, Sem.run_pure, if_true, asInt, asIntOf, wn, b1, if_false, run_info hi, b2, Int.toNat_natCast, hnf, m1, false_and, m2, hch, run_askRoom,
   hold { w with drawn := w.drawn + 1 } rfl, Bool.not_true, Bool.false_eq_true, happ, hz, hcat, run_newRow]
end
end Go.Ev

namespace Go.Ev
open Go.RowKit
variable {P : Program} {n0 : Nat} {w0 : World}
theorem St.heap {ν : Val} {s : S} {w w' : World} (h : St P n0 w0 ν s w) (hh : w'.heap = w.heap) (ho : w'.os = w.os) (ht : w'.tape = w.tape) (hu : w'.output = w.output) : St P n0 w0 ν s w' :=
 ⟨h.below.trans ⟨ho, ht, hu, by rw [hh]; exact Nat.le_refl _, fun k _ => by rw [hh]⟩, h.n0le, fun a => (h.rows a).frame fun v b δ _ _ => by rw [hh], h.fresh, h.sep, h.own⟩
theorem cell_heap {w w' : World} (h : w'.heap = w.heap) (a : Addr) : w'.cell? a = w.cell? a := by simp [World.cell?, h]
theorem str_cells {ν : Val} (s : ByteArray) : VRs ν ((bytesL s).map fun b => V.nat .u8 b) ((bytesL s).map fun b => Value.int .u8 (Int.ofNat b)) ∧ ∀ y ∈ (bytesL s).map (fun b => Value.int .u8 (Int.ofNat b)), y.oneCell' = true := by
 constructor
 ·refine VRs.of_get (by simp) fun i x hi => ?_
  rw [List.getElem?_map] at hi
  cases h : (bytesL s)[i]? with
  | none => rw [h] at hi; cases hi
  | some b => rw [h] at hi; simp at hi; subst hi; exact ⟨.int .u8 (Int.ofNat b), by simp [h], rfl⟩
 ·intro y hy
  rw [List.mem_map] at hy
  obtain ⟨b, _, rfl⟩ := hy
  rfl
theorem strCells_eq {β : Type} (l : List Nat) (c : List V → β) : strCells l c = c (l.map fun b => V.nat .u8 b) := by
 induction l generalizing c with
 | nil => rfl
 | cons x l ih => exact ih _
theorem srcCells_ok {sz : Nat} {y : V} {s : S} {c : Nat → List V → A} (hnb : ¬ (srcCells sz y s c).isBad) : ∃ n new, c n new = srcCells sz y s c ∧
  ∀ (ν : Val) (w : World) (y' : Value), Rows P ν s w → VR ν y y' → ∃ cs : List Value, VRs ν new cs ∧ (∀ v ∈ cs, v.oneCell' = true) ∧ cs.length = n * sz ∧ (∀ w', (Builtin.lenOf y').run P w' = .ok n w') ∧
   ∀ m, m ≤ n → ∀ w' : World, w'.heap = w.heap → (Builtin.firstCells sz m y').run P w' = .ok (cs.take (m * sz)).toArray w' := by
 have mem : ∀ (a : K) (v o len : Nat), ¬ (readCells s a v o (Nat.mul len sz) (fun l => c len l)).isBad → (∀ (ν : Val) (y' : Value), VR ν y y' → ∃ b δ cap, ν.blk a v = some (b, δ) ∧ y' = .slice (some ⟨b, δ + o, none⟩) len cap) →
   ∃ n new, c n new = readCells s a v o (Nat.mul len sz) (fun l => c len l) ∧ ∀ (ν : Val) (w : World) (y' : Value), Rows P ν s w → VR ν y y' → ∃ cs : List Value, VRs ν new cs ∧ (∀ v ∈ cs, v.oneCell' = true) ∧ cs.length = n * sz ∧ (∀ w', (Builtin.lenOf y').run P w' = .ok n w') ∧
   ∀ m, m ≤ n → ∀ w' : World, w'.heap = w.heap → (Builtin.firstCells sz m y').run P w' = .ok (cs.take (m * sz)).toArray w' := by
  intro a v o len hnb hy
  obtain ⟨l, h1, h2⟩ := readCells_ok (P := P) hnb
  refine ⟨len, l, h1, fun ν w y' hw hv => ?_⟩
  obtain ⟨b, δ, cap, h3, h4⟩ := hy ν y' hv
  obtain ⟨cs, h5, h6, h7, h8⟩ := h2 hw b δ h3
  subst h4
  have h5 : cs.length = len * sz := h5
  refine ⟨cs, h7, h8, h5, fun w' => rfl, fun m hm w' hw' => ?_⟩
  have hmul : m * sz ≤ len * sz := Nat.mul_le_mul_right _ hm
  have := run_loadCells_list (P := P) (w := w') ⟨b, δ + o, none⟩ (cs.take (m * sz)) (fun j v hv => by
   rw [add_off, cell_heap hw']
   rw [List.getElem?_take] at hv
   split at hv
   ·exact h6 j v hv
   ·cases hv)
  rw [List.length_take, h5, Nat.min_eq_left hmul] at this
  exact this
 cases y with
 | nil t =>
  unfold srcCells at hnb ⊢
  simp only at hnb ⊢
  cases ht : Nat.beq t 1 with
  | false => rw [ht] at hnb; exact absurd trivial hnb
  | true =>
   have := Nat.eq_of_beq_eq_true ht
   subst this
   refine ⟨0, [], by simp only, fun ν w y' hw hv => ⟨[], rfl, by simp, by simp, fun w' => ?_, fun m hm w' _ => ?_⟩⟩
   ·simp only [VR] at hv; subst hv; rfl
   ·simp only [VR] at hv; subst hv; simp [Builtin.firstCells]
 | ref t a =>
  unfold srcCells at hnb ⊢
  simp only at hnb ⊢
  cases ht : Nat.beq t 1 with
  | false => rw [ht] at hnb; exact absurd trivial hnb
  | true =>
   have := Nat.eq_of_beq_eq_true ht
   subst this
   refine ⟨0, [], by simp only, fun ν w y' hw hv => ⟨[], rfl, by simp, by simp, fun w' => ?_, fun m hm w' _ => ?_⟩⟩
   ·obtain ⟨_, _, e⟩ := VR.ref1 hv; subst e; rfl
   ·obtain ⟨_, _, e⟩ := VR.ref1 hv; subst e
    have : m = 0 := by omega
    subst this
    simp [Builtin.firstCells, loadCells, loadCellsFrom]
 | sl a v o len cap => exact mem a v o len hnb (fun ν y' h => by obtain ⟨b, δ, h1, h2, _⟩ := h; exact ⟨b, δ, cap, h1, h2⟩)
 | so a v o len e => exact mem a v o len hnb (fun ν y' h => by obtain ⟨b, δ, cap, h1, h2, _⟩ := h; exact ⟨b, δ, cap, h1, h2⟩)
 | str l =>
  unfold srcCells at hnb ⊢
  simp only at hnb ⊢
  cases hs : Nat.beq sz 1 with
  | false => rw [hs] at hnb; exact absurd trivial hnb
  | true =>
   have := Nat.eq_of_beq_eq_true hs
   subst this
   refine ⟨l.length, l.map fun b => V.nat .u8 b, by simp only [strCells_eq, lenL_eq], fun ν w y' hw hv => ?_⟩
   obtain ⟨t, e1, e2⟩ := hv
   subst e1
   obtain ⟨g1, g2⟩ := str_cells (ν := ν) t
   rw [e2] at g1 g2
   refine ⟨_, g1, g2, by simp, fun w' => ?_, fun m hm w' _ => ?_⟩
   ·have : l.length = t.size := by rw [← e2, bytesL_length]
    rw [this]; rfl
   ·simp only [Builtin.firstCells, Sem.run_pure]
    congr 1
    apply Array.ext'
    have h3 := bytesL_extract t 0 m
    rw [e2] at h3
    unfold bytesL at h3
    simp only [List.drop_zero, Nat.sub_zero] at h3
    simp only [Array.toList_map, Nat.mul_one, ← List.map_take, ← h3, List.map_map]
    rfl
 | _ => exact absurd trivial hnb
theorem grow_new {ν : Val} {s : S} {w w1 : World} (hst : St P n0 w0 ν s w) (hw1 : w1.heap = w.heap) (ho : w1.os = w.os) (ht : w1.tape = w.tape) (hu : w1.output = w.output) {l : List V} {el need newCap : Nat} {i : TypeInfo} (hi : P.info? el = some i) {L rest : List Value} (hL : VRs ν l L) (hone : ∀ y ∈ L, y.oneCell' = true)
  (hlen : l.length = need * i.size) (hcap : need ≤ newCap) (hrest : rest.length = (newCap - need) * i.size) :
  ∃ ν', Out P n0 w0 ν s ν' ⟨Tr.set B.none (.row l l.length el true 0 0 0) s.nx s.h, s.nx.succ⟩ (w1.alloc (.cells (L ++ rest).toArray el)) ∧ VR ν' (.so s.nx l.length 0 need 0) (.slice (some ⟨w.heap.size, 0, none⟩) need newCap) := by
 have hst1 := hst.heap hw1 ho ht hu
 obtain ⟨hn, _⟩ := hst.fresh s.nx (Nat.le_refl _)
 have hst2 := put_blk hst1 _ (BR.newRow (P := P) (w := w1) hn l el true)
 have hsize : n0 ≤ w1.heap.size := Nat.le_trans hst1.n0le hst1.below.size
 have hcell : P.cellsOf el = i.size := by simp [Program.cellsOf, hi]
 have hLl := hL.length
 have hmul : need * i.size + (newCap - need) * i.size = newCap * i.size := by rw [← Nat.add_mul]; congr 1; omega
 have := bind_row hst2 s.nx hn (by show _ < s.nx.succ.toNat; rw [K.toNat_succ]; omega) l el true newCap (by simp only [get_set, if_true]) (L ++ rest).toArray L hL
  (fun j y hy => by
   simp only [List.getElem?_toArray]
   rw [List.getElem?_append_left (by have := (List.getElem?_eq_some_iff.1 hy).1; exact this)]
   exact hy) hone (fun _ => by rw [hcell]; simp only [List.size_toArray, List.length_append]; have := Nat.mul_le_mul_right i.size hcap; omega) (lt_alloc w1 _) (fun k hk => Below.heap_alloc w1 _ k hk) (hst2.below.alloc hsize _) (new_alloc _ _)
 simp only [if_true] at this
 refine ⟨_, ⟨Val.le_add hn, this, by show _ ≤ s.nx.succ.toNat; rw [K.toNat_succ]; omega, fun a ha hlt => ?_⟩, ?_⟩
 ·have hne : a ≠ s.nx := by intro e; subst e; omega
  exact ⟨fun v => by rw [Val.add_other hne]; exact ha v, .inl (by simp only [get_set, if_neg hne])⟩
 ·refine ⟨w.heap.size, 0, newCap, ?_, rfl, hcap, ?_, ?_⟩
  ·rw [← hw1]; exact Val.add_self
  ·simp [Val.add]
  ·simp
noncomputable def Val.addS (ν : Val) (a : K) (v b δ cap sz : Nat) : Val :=
 { blk := fun a' v' => if a' = a ∧ v' = v then some (b, δ) else ν.blk a' v', cap := fun a' v' => if a' = a ∧ v' = v then cap else ν.cap a' v', sz := fun a' => if a' = a then sz else ν.sz a' }
theorem Val.le_addS {ν : Val} {a : K} {v b δ cap sz : Nat} (h : ν.blk a v = none) (hs : ∀ v p, ν.blk a v = some p → ν.sz a = sz) : ν.le (ν.addS a v b δ cap sz) := by
 intro a' v' p hp
 have hne : ¬ (a' = a ∧ v' = v) := by rintro ⟨rfl, rfl⟩; rw [h] at hp; cases hp
 refine ⟨by simp [Val.addS, hne, hp], by simp [Val.addS, hne], ?_⟩
 simp only [Val.addS]
 split
 ·rename_i e; subst e; exact (hs _ _ hp).symm
 ·rfl
theorem Val.addS_self {ν : Val} {a : K} {v b δ cap sz : Nat} : (ν.addS a v b δ cap sz).blk a v = some (b, δ) := by simp [Val.addS]
theorem Val.addS_ne {ν : Val} {a a' : K} {v b δ cap sz v' : Nat} (h : ¬ (a' = a ∧ v' = v)) : (ν.addS a v b δ cap sz).blk a' v' = ν.blk a' v' := by simp [Val.addS, h]
theorem BR.mono_none {ν ν' : Val} {w : World} {a : K} {B : B} (h : ν.le ν') (ha : ∀ v, ν'.blk a v = ν.blk a v) (r : BR P ν w a B) : BR P ν' w a B := r.mono h ha
theorem rebind {ν : Val} {s : S} {w : World} (hst : St P n0 w0 ν s w) {a : K} {v b δ : Nat} {l : List V} {m el mn : Nat} (hb : ν.blk a v = some (b, δ)) (hB : Tr.get B.none a s.h = .row l m el true mn 0 0)
  {i : TypeInfo} (hi : P.info? el = some i) {δ2 len n cap : Nat} {lo ln : List V} {old cs : List Value} (hlo : VRs ν lo old) (hln : VRs ν ln cs) (h1 : ∀ y ∈ old, y.oneCell' = true) (h2 : ∀ y ∈ cs, y.oneCell' = true)
  (hol : old.length = len * i.size) (hcl : cs.length = n * i.size) (hra : w.rangeAt b δ2 old) (hfit : len + n ≤ cap) (hroom : ∀ c fz, w.heap[b]? = some (.cells c el fz) → δ2 + cap * i.size ≤ c.size) :
  w.there b (δ2 + len * i.size) cs.length ∧ ∃ ν', Out P n0 w0 ν s ν' ⟨Tr.set B.none (.row (lo ++ ln) (lo ++ ln).length el true 0 0 0) s.nx (Tr.set B.none .none a s.h), s.nx.succ⟩ (w.setCells b (δ2 + len * i.size) cs) ∧
   VR ν' (.so s.nx (lo ++ ln).length 0 (len + n) 0) (.slice (some ⟨b, δ2, none⟩) (len + n) cap) := by
 have hlive : (Tr.get B.none a s.h).live := by rw [hB]; trivial
 have hrow := hst.rows a
 rw [hB] at hrow
 obtain ⟨c, fz, hc, hsz, hfro, hcap, _⟩ := hrow.at_ v b δ hb
 have hroom2 := hroom c fz hc
 have hn0 : n0 ≤ b := by
  rcases hst.own a v b δ hb hlive with h | h
  ·exact h
  ·rw [hB] at h; exact absurd h.1 (by simp)
 have hcell : P.cellsOf el = i.size := by simp [Program.cellsOf, hi]
 have hmul : len * i.size + n * i.size ≤ cap * i.size := by rw [← Nat.add_mul]; exact Nat.mul_le_mul_right _ hfit
 have hfro : FzR fz δ 0 0 := by
  rcases hfro with ⟨h, _⟩ | h
  ·cases h
  ·exact h
 have hnofz : ∀ j, j < c.size → w.frozen? ⟨b, j, none⟩ = false := by
  intro j hj
  cases hq : w.frozen? ⟨b, j, none⟩ with
  | false => rfl
  | true => have := hfro.old hc j hq; omega
 have hthere : w.there b (δ2 + len * i.size) cs.length := by
  intro j hj
  have hlt : δ2 + len * i.size + j < c.size := by omega
  exact ⟨by rw [cell_of_heap hc]; simp [hlt], hnofz _ hlt⟩
 refine ⟨hthere, ?_⟩
 obtain ⟨c', hc', hsz', hget'⟩ := block_setCells b cs (δ2 + len * i.size) w c el fz hc
 have hfr' : ∀ x, (w.setCells b (δ2 + len * i.size) cs).frozen? x = w.frozen? x := fun x => World.frozen?_setCells b cs _ w x
 have hloL := hlo.length
 have hlnL := hln.length
 obtain ⟨hn, hnB⟩ := hst.fresh s.nx (Nat.le_refl _)
 have hane : a ≠ s.nx := by intro e; subst e; rw [hn] at hb; cases hb
 have halt : a.toNat < s.nx.toNat := by
  rcases Nat.lt_or_ge a.toNat s.nx.toNat with h | h
  ·exact h
  ·have := (hst.fresh a h).1 v; rw [this] at hb; cases hb
 have hle : ν.le (ν.addS s.nx (lo ++ ln).length b δ2 cap i.size) := Val.le_addS (hn _) (fun v p h => by rw [hn] at h; cases h)
 have hself : (ν.addS s.nx (lo ++ ln).length b δ2 cap i.size).blk s.nx (lo ++ ln).length = some (b, δ2) := Val.addS_self
 have hother : ∀ a', a' ≠ s.nx → ∀ v', (ν.addS s.nx (lo ++ ln).length b δ2 cap i.size).blk a' v' = ν.blk a' v' := fun a' h v' => Val.addS_ne (fun e => h e.1)
 have honly : ∀ v' p, (ν.addS s.nx (lo ++ ln).length b δ2 cap i.size).blk s.nx v' = some p → v' = (lo ++ ln).length ∧ p = (b, δ2) := by
  intro v' p hp
  by_cases e : v' = (lo ++ ln).length
  ·subst e; rw [hself] at hp; exact ⟨rfl, by simpa using hp.symm⟩
  ·rw [Val.addS_ne (fun h => e h.2), hn] at hp; cases hp
 generalize hν : ν.addS s.nx (lo ++ ln).length b δ2 cap i.size = ν' at *
 have hgetS : ∀ a', Tr.get B.none a' (Tr.set B.none (.row (lo ++ ln) (lo ++ ln).length el true 0 0 0) s.nx (Tr.set B.none .none a s.h)) = if a' = s.nx then .row (lo ++ ln) (lo ++ ln).length el true 0 0 0 else if a' = a then .none else Tr.get B.none a' s.h := by
  intro a'; rw [get_set, get_set]
 have hlive2 : ∀ a', a' ≠ s.nx → (Tr.get B.none a' (Tr.set B.none (.row (lo ++ ln) (lo ++ ln).length el true 0 0 0) s.nx (Tr.set B.none .none a s.h))).live → a' ≠ a ∧ (Tr.get B.none a' s.h).live := by
  intro a' h hl
  rw [hgetS, if_neg h] at hl
  by_cases e : a' = a
  ·rw [if_pos e] at hl; exact hl.elim
  ·rw [if_neg e] at hl; exact ⟨e, hl⟩
 refine ⟨ν', ⟨hle, ⟨Below.setCells hn0 cs _ w hst.below, hst.n0le, fun a' => ?_, fun a' ha' => ?_, fun a1 v1 b1 d1 a2 v2 d2 e1 e2 l1 l2 => ?_, fun a' v' b' δ' hb' hl' => ?_⟩, by show _ ≤ s.nx.succ.toNat; rw [K.toNat_succ]; omega, fun a' ha' hlt => ?_⟩, ?_⟩
 ·simp only [hgetS]
  by_cases e : a' = s.nx
  ·subst e
   rw [if_pos rfl]
   refine ⟨rfl, fun g => (by cases g), fun _ v' p hp => Nat.le_of_eq (honly v' p hp).1, fun _ => Nat.zero_le _, fun v1 v2 b' d1 d2 e1 e2 => ?_, fun v' b' δ' hb' => ?_⟩
   ·have q1 := (honly _ _ e1).2
    have q2 := (honly _ _ e2).2
    simp only [Prod.mk.injEq] at q1 q2
    rw [q1.2, q2.2]
   ·obtain ⟨e1, e2⟩ := honly v' _ hb'
    simp only [Prod.mk.injEq] at e2
    obtain ⟨e3, e4⟩ := e2
    subst e1
    rw [e3, e4]
    have esz : ν'.sz s.nx = i.size := by rw [← hν]; simp [Val.addS]
    have ecap : ν'.cap s.nx (lo ++ ln).length = cap := by rw [← hν]; simp [Val.addS]
    refine ⟨c', fz, hc', by rw [esz, hcell], .inr (.inl (by unfold FzR at hfro; omega)), fun _ => ?_, fun _ j x hj _ => ?_⟩
    ·rw [esz, ecap, hsz']
     refine ⟨hroom2, ?_⟩
     rw [List.length_append]; omega
    ·have hjl : j < (lo ++ ln).length := (List.getElem?_eq_some_iff.1 hj).1
     rw [List.length_append] at hjl
     rw [hget' _ (by omega)]
     by_cases hjo : j < lo.length
     ·rw [List.getElem?_append_left hjo] at hj
      obtain ⟨y, hy, hr⟩ := hlo.get j x hj
      rw [if_neg (by omega)]
      have := hra j y hy
      rw [cell_of_heap hc] at this
      exact ⟨y, this, fun _ => h1 y (List.mem_of_getElem? hy), hr.mono' hle⟩
     ·rw [List.getElem?_append_right (by omega)] at hj
      obtain ⟨y, hy, hr⟩ := hln.get _ x hj
      rw [if_pos (by omega), show δ2 + j - (δ2 + len * i.size) = j - lo.length by omega]
      exact ⟨y, hy, fun _ => h2 y (List.mem_of_getElem? hy), hr.mono' hle⟩
  ·rw [if_neg e]
   by_cases e2 : a' = a
   ·rw [if_pos e2]; trivial
   ·rw [if_neg e2]
    refine BR.frame (BR.mono hle (hother a' e) (hst.rows a')) fun v' b' δ' hb' hl' => heap_setCells _ _ _ _ _ fun eb => e2 ?_
    subst eb
    rw [hother a' e] at hb'
    exact hst.sep a' v' b' δ' a v δ hb' hb hl' hlive
 ·have ha2 : s.nx.succ.toNat ≤ a'.toNat := ha'
  rw [K.toNat_succ] at ha2
  have e : a' ≠ s.nx := by intro e; subst e; omega
  have e2 : a' ≠ a := by intro e; subst e; omega
  obtain ⟨q1, q2⟩ := hst.fresh a' (by omega)
  exact ⟨fun v' => by rw [hother a' e]; exact q1 v', by simp only [hgetS]; rw [if_neg e, if_neg e2]; exact q2⟩
 ·by_cases n1 : a1 = s.nx
  ·by_cases n2 : a2 = s.nx
   ·rw [n1, n2]
   ·exfalso
    subst n1
    have q1 := (honly _ _ e1).2
    simp only [Prod.mk.injEq] at q1
    rw [hother a2 n2] at e2
    obtain ⟨k1, k2⟩ := hlive2 a2 n2 l2
    rw [q1.1] at e2
    exact k1 (hst.sep _ _ _ _ _ _ _ e2 hb k2 hlive)
  ·by_cases n2 : a2 = s.nx
   ·exfalso
    subst n2
    have q1 := (honly _ _ e2).2
    simp only [Prod.mk.injEq] at q1
    rw [hother a1 n1] at e1
    obtain ⟨k1, k2⟩ := hlive2 a1 n1 l1
    rw [q1.1] at e1
    exact k1 (hst.sep _ _ _ _ _ _ _ e1 hb k2 hlive)
   ·rw [hother a1 n1] at e1
    rw [hother a2 n2] at e2
    exact hst.sep _ _ _ _ _ _ _ e1 e2 (hlive2 a1 n1 l1).2 (hlive2 a2 n2 l2).2
 ·by_cases e : a' = s.nx
  ·subst e
   have q1 := (honly _ _ hb').2
   simp only [Prod.mk.injEq] at q1
   left; omega
  ·obtain ⟨k1, k2⟩ := hlive2 a' e hl'
   rw [hother a' e] at hb'
   simp only [hgetS, if_neg e, if_neg k1]
   exact hst.own a' v' b' δ' hb' k2
 ·have e : a' ≠ s.nx := by intro e; subst e; omega
  refine ⟨fun v' => by rw [hother a' e]; exact ha' v', ?_⟩
  simp only [hgetS, if_neg e]
  by_cases e2 : a' = a
  ·rw [if_pos e2]; exact .inr rfl
  ·rw [if_neg e2]; exact .inl rfl
 ·refine ⟨b, δ2, cap, hself, by rw [Nat.add_zero], hfit, ?_, ?_⟩
  ·rw [← hν]; simp [Val.addS]
  ·simp
end Go.Ev

namespace Go.Ev
open Go.RowKit
variable {P : Program} {n0 : Nat} {w0 : World}
theorem ext_row {ν : Val} {s : S} {w w2 : World} (hst : St P n0 w0 ν s w) {a : K} {b δ m el mn : Nat} {l : List V} (hb : ν.blk a m = some (b, δ)) (hB : Tr.get B.none a s.h = .row l m el true mn 0 0)
  {i : TypeInfo} (hi : P.info? el = some i) {ln : List V} (hpos : 0 < ln.length) {b2 δ2 cap2 : Nat} {c2 : Array Value} {fz2 : Nat × Nat} (hbel : Below n0 w0 w2) (hn2 : n0 ≤ b2)
  (hoth : ∀ k, k < w.heap.size → k ≠ b2 → w2.heap[k]? = w.heap[k]?) (hc2 : w2.heap[b2]? = some (.cells c2 el fz2)) (hfz : fz2.1 = fz2.2)
  (hcap : δ2 + cap2 * i.size ≤ c2.size) (hm : m + ln.length ≤ cap2 * i.size) (hcell : ∀ j x, (l ++ ln)[j]? = some x → ∃ y, c2[δ2 + j]? = some y ∧ (x ≠ .bad → y.oneCell' = true) ∧ VR ν x y)
  (hwh : (b2 = b ∧ δ2 = δ ∧ ∃ c fz, w.heap[b]? = some (.cells c el fz) ∧ c2.size = c.size ∧ ∀ j, j < δ + m → c2[j]? = c[j]?) ∨ w.heap.size ≤ b2) :
  ∃ ν', Out P n0 w0 ν s ν' ⟨Tr.set B.none (.row (l ++ ln) (m + ln.length) el true mn 0 0) a s.h, s.nx⟩ w2 ∧ ν'.blk a (m + ln.length) = some (b2, δ2) ∧ ν'.cap a (m + ln.length) = cap2 ∧ ν'.sz a = i.size := by
 have hlive : (Tr.get B.none a s.h).live := by rw [hB]; trivial
 have hrow := hst.rows a
 rw [hB] at hrow
 have hlen := hrow.len
 have hcs : P.cellsOf el = i.size := by simp [Program.cellsOf, hi]
 have hsz : ∀ v p, ν.blk a v = some p → ν.sz a = i.size := by
  intro v p hp
  obtain ⟨c, fz, _, h, _⟩ := hrow.at_ v p.1 p.2 hp
  rw [h, hcs]
 have hnone : ν.blk a (m + ln.length) = none := by
  cases h : ν.blk a (m + ln.length) with
  | none => rfl
  | some p => have := hrow.vn rfl _ _ h; omega
 have hle : ν.le (ν.addS a (m + ln.length) b2 δ2 cap2 i.size) := Val.le_addS hnone hsz
 have hself : (ν.addS a (m + ln.length) b2 δ2 cap2 i.size).blk a (m + ln.length) = some (b2, δ2) := Val.addS_self
 have hne : ∀ a' v', ¬ (a' = a ∧ v' = m + ln.length) → (ν.addS a (m + ln.length) b2 δ2 cap2 i.size).blk a' v' = ν.blk a' v' := fun a' v' h => Val.addS_ne h
 have hcapn : (ν.addS a (m + ln.length) b2 δ2 cap2 i.size).cap a (m + ln.length) = cap2 := by simp [Val.addS]
 have hcapo : ∀ v', v' ≠ m + ln.length → (ν.addS a (m + ln.length) b2 δ2 cap2 i.size).cap a v' = ν.cap a v' := fun v' h => by simp [Val.addS, h]
 have hszn : (ν.addS a (m + ln.length) b2 δ2 cap2 i.size).sz a = i.size := by simp [Val.addS]
 generalize ν.addS a (m + ln.length) b2 δ2 cap2 i.size = ν' at *
 have hother : ∀ a', a' ≠ a → ∀ v', ν'.blk a' v' = ν.blk a' v' := fun a' h v' => hne a' v' (fun e => h e.1)
 have hgetS : ∀ a', Tr.get B.none a' (Tr.set B.none (.row (l ++ ln) (m + ln.length) el true mn 0 0) a s.h) = if a' = a then .row (l ++ ln) (m + ln.length) el true mn 0 0 else Tr.get B.none a' s.h := fun a' => get_set _ _ _ _ _
 have there : ∀ a' v' b' δ', ν.blk a' v' = some (b', δ') → (Tr.get B.none a' s.h).live → b' < w.heap.size := fun a' v' b' δ' h hl => (hst.rows a').there hl h
 -- another block than this one's
 have hapart : ∀ a' v' b' δ', a' ≠ a → ν.blk a' v' = some (b', δ') → (Tr.get B.none a' s.h).live → b' ≠ b2 := by
  intro a' v' b' δ' hne' hb' hl e
  rcases hwh with ⟨e2, _⟩ | h
  ·rw [e, e2] at hb'
   exact hne' (hst.sep _ _ _ _ _ _ _ hb' hb hl hlive)
  ·have := there a' v' b' δ' hb' hl; omega
 refine ⟨ν', ⟨hle, ⟨hbel, hst.n0le, fun a' => ?_, fun a' ha' => ?_, fun a1 v1 b1 d1 a2 v2 d2 e1 e2 l1 l2 => ?_, fun a' v' b' δ' hb' hl' => ?_⟩, Nat.le_refl _, fun a' ha' hlt => ?_⟩, hself, hcapn, hszn⟩
 ·simp only [hgetS]
  by_cases e : a' = a
  ·subst e
   rw [if_pos rfl]
   refine ⟨by rw [List.length_append, hlen], fun g => (by cases g), fun _ v' p hp => ?_, fun _ => by have := hrow.mnn rfl; omega, fun v1 v2 b' d1 d2 e1 e2 => ?_, fun v' b' δ' hb' => ?_⟩
   ·by_cases ev : v' = m + ln.length
    ·omega
    ·rw [hne _ _ (fun h => ev h.2)] at hp
     have := hrow.vn rfl _ _ hp; omega
   ·by_cases ev1 : v1 = m + ln.length
    ·by_cases ev2 : v2 = m + ln.length
     ·rw [ev1, hself] at e1; rw [ev2, hself] at e2
      simp only [Option.some.injEq, Prod.mk.injEq] at e1 e2
      omega
     ·rw [ev1, hself] at e1; rw [hne _ _ (fun h => ev2 h.2)] at e2
      simp only [Option.some.injEq, Prod.mk.injEq] at e1
      rcases hwh with ⟨q1, q2, _⟩ | q
      ·rw [← e1.1, q1] at e2
       rw [← e1.2, q2]
       exact hrow.same _ _ _ _ _ hb e2
      ·have := there _ _ _ _ e2 hlive; omega
    ·by_cases ev2 : v2 = m + ln.length
     ·rw [ev2, hself] at e2; rw [hne _ _ (fun h => ev1 h.2)] at e1
      simp only [Option.some.injEq, Prod.mk.injEq] at e2
      rcases hwh with ⟨q1, q2, _⟩ | q
      ·rw [← e2.1, q1] at e1
       rw [← e2.2, q2]
       exact hrow.same _ _ _ _ _ e1 hb
      ·have := there _ _ _ _ e1 hlive; omega
     ·rw [hne _ _ (fun h => ev1 h.2)] at e1; rw [hne _ _ (fun h => ev2 h.2)] at e2
      exact hrow.same _ _ _ _ _ e1 e2
   ·by_cases ev : v' = m + ln.length
    ·rw [ev, hself] at hb'
     simp only [Option.some.injEq, Prod.mk.injEq] at hb'
     obtain ⟨q1, q2⟩ := hb'
     rw [← q1, ← q2]
     refine ⟨c2, fz2, hc2, by rw [hszn, hcs], .inr (.inl hfz), fun _ => by rw [hszn, ev, hcapn]; exact ⟨hcap, hm⟩, fun _ j x hj _ => ?_⟩
     ·obtain ⟨y, h1, h2, h3⟩ := hcell j x hj
      exact ⟨y, h1, h2, h3.mono' hle⟩
    ·rw [hne _ _ (fun h => ev h.2)] at hb'
     have hvm := hrow.vn rfl _ _ hb'
     obtain ⟨c, fz, k1, k2, k3, k4, k5⟩ := hrow.at_ v' b' δ' hb'
     have k3 : FzR fz δ' 0 0 := by
      rcases k3 with ⟨h, _⟩ | h
      ·cases h
      ·exact h
     have hl5 : (true = true → mn ≤ v') → ∀ (j : Nat) (x : V), (l ++ ln)[j]? = some x → (true = true → j < v') → ∃ y, c[δ' + j]? = some y ∧ (x ≠ .bad → y.oneCell' = true) ∧ VR ν' x y := by
      intro g j x hj hv
      have := hv rfl
      rw [List.getElem?_append_left (by omega)] at hj
      obtain ⟨y, h1, h2, h3⟩ := k5 g j x hj hv
      exact ⟨y, h1, h2, h3.mono' hle⟩
     by_cases eb : b' = b2
     ·rcases hwh with ⟨q1, q2, cc, ff, q3, q4, q5⟩ | q
      ·subst eb
       rw [q1] at k1 hb' ⊢
       rw [q1] at hc2
       rw [q3] at k1
       simp only [Option.some.injEq, Obj.cells.injEq] at k1
       obtain ⟨rfl, _, rfl⟩ := k1
       have hδ := hrow.same _ _ _ _ _ hb' hb
       subst hδ
       refine ⟨c2, fz2, hc2, by rw [hszn, hcs], .inr (.inl hfz), fun g => by rw [hszn, hcapo v' ev, q4, ← hsz _ _ hb]; exact k4 g, fun g j x hj hv => ?_⟩
       ·obtain ⟨y, h1, h2, h3⟩ := hl5 g j x hj hv
        have := hv rfl
        exact ⟨y, by rw [q5 _ (by omega)]; exact h1, h2, h3⟩
      ·have := there _ _ _ _ hb' hlive; omega
     ·have hlt := there _ _ _ _ hb' hlive
      have hh := hoth b' hlt eb
      exact ⟨c, fz, by rw [hh]; exact k1, by rw [hszn, hcs], .inr k3, fun g => by rw [hszn, hcapo v' ev, ← hsz _ _ hb]; exact k4 g, hl5⟩
  ·rw [if_neg e]
   exact BR.frame (BR.mono hle (hother a' e) (hst.rows a')) fun v' b' δ' hb' hl' => by
    rw [hother a' e] at hb'
    exact hoth b' (there _ _ _ _ hb' hl') (hapart a' v' b' δ' e hb' hl')
 ·have e : a' ≠ a := by intro e; subst e; have := (hst.fresh a' ha').1 m; rw [this] at hb; cases hb
  obtain ⟨q1, q2⟩ := hst.fresh a' ha'
  exact ⟨fun v' => by rw [hother a' e]; exact q1 v', by simp only [hgetS, if_neg e]; exact q2⟩
 ·have hold : ∀ a' v' b' δ', a' ≠ a → ν'.blk a' v' = some (b', δ') → (Tr.get B.none a' (Tr.set B.none (.row (l ++ ln) (m + ln.length) el true mn 0 0) a s.h)).live → ν.blk a' v' = some (b', δ') ∧ (Tr.get B.none a' s.h).live := by
   intro a' v' b' δ' e h hl
   rw [hother a' e] at h
   rw [hgetS, if_neg e] at hl
   exact ⟨h, hl⟩
  have clash : ∀ a' v' v'' b' δ' δ'', a' ≠ a → ν'.blk a' v' = some (b', δ') → (Tr.get B.none a' (Tr.set B.none (.row (l ++ ln) (m + ln.length) el true mn 0 0) a s.h)).live → ν'.blk a v'' = some (b', δ'') → False := by
   intro a' v' v'' b' δ' δ'' e h hl h2
   obtain ⟨g1, g2⟩ := hold a' v' b' δ' e h hl
   by_cases ev : v'' = m + ln.length
   ·rw [ev, hself] at h2
    simp only [Option.some.injEq, Prod.mk.injEq] at h2
    exact hapart a' v' b' δ' e g1 g2 h2.1.symm
   ·rw [hne _ _ (fun h => ev h.2)] at h2
    exact e (hst.sep _ _ _ _ _ _ _ g1 h2 g2 hlive)
  by_cases n1 : a1 = a
  ·by_cases n2 : a2 = a
   ·rw [n1, n2]
   ·subst n1; exact (clash a2 v2 v1 b1 d2 d1 n2 e2 l2 e1).elim
  ·by_cases n2 : a2 = a
   ·subst n2; exact (clash a1 v1 v2 b1 d1 d2 n1 e1 l1 e2).elim
   ·obtain ⟨g1, g2⟩ := hold a1 v1 b1 d1 n1 e1 l1
    obtain ⟨g3, g4⟩ := hold a2 v2 b1 d2 n2 e2 l2
    exact hst.sep _ _ _ _ _ _ _ g1 g3 g2 g4
 ·by_cases e : a' = a
  ·subst e
   left
   by_cases ev : v' = m + ln.length
   ·rw [ev, hself] at hb'
    simp only [Option.some.injEq, Prod.mk.injEq] at hb'
    omega
   ·rw [hne _ _ (fun h => ev h.2)] at hb'
    rcases hst.own _ _ _ _ hb' hlive with h | h
    ·exact h
    ·rw [hB] at h; exact absurd h.1 (by simp)
  ·simp only [hgetS, if_neg e] at hl' ⊢
   rw [hother a' e] at hb'
   exact hst.own a' v' b' δ' hb' hl'
 ·have e : a' ≠ a := by intro e; subst e; rw [ha'] at hb; cases hb
  exact ⟨fun v' => by rw [hother a' e]; exact ha' v', .inl (by simp only [hgetS, if_neg e])⟩
end Go.Ev

namespace Go.Ev
open Go.RowKit
variable {P : Program}
theorem loads_ok {w : World} {b off sz len cap : Nat} {old : List Value} (hra : w.rangeAt b off old) (hl : old.length = len * sz) : ∀ w' : World, w'.heap = w.heap → (Builtin.firstCells sz len (.slice (some ⟨b, off, none⟩) len cap)).run P w' = .ok old.toArray w' := by
 intro w' hw'
 have := run_loadCells_list (P := P) (w := w') ⟨b, off, none⟩ old (fun j v hv => by rw [add_off, cell_heap hw']; exact hra j v hv)
 rw [hl] at this
 exact this
theorem Out.kill0 {n0 : Nat} {w0 w : World} {ν : Val} {s : S} (hst : St P n0 w0 ν s w) {a : K} (halt : a.toNat < s.nx.toNat) : Out P n0 w0 ν s ν ⟨Tr.set B.none .none a s.h, s.nx⟩ w := by
 refine ⟨ν.le_refl, kill_blk hst a halt, Nat.le_refl _, fun a' ha' hlt => ⟨ha', ?_⟩⟩
 simp only [get_set]
 split
 ·exact .inr rfl
 ·exact .inl rfl
theorem Out.kill {n0 : Nat} {w0 w : World} {ν : Val} {s : S} (hst : St P n0 w0 ν s w) {a : K} {v : Nat} {p : Nat × Nat} (hb : ν.blk a v = some p) : Out P n0 w0 ν s ν ⟨Tr.set B.none .none a s.h, s.nx⟩ w := by
 have halt : a.toNat < s.nx.toNat := by
  rcases Nat.lt_or_ge a.toNat s.nx.toNat with h | h
  ·exact h
  ·have := (hst.fresh a h).1 v; rw [this] at hb; cases hb
 refine ⟨ν.le_refl, kill_blk hst a halt, Nat.le_refl _, fun a' ha' hlt => ⟨ha', ?_⟩⟩
 simp only [get_set]
 split
 ·exact .inr rfl
 ·exact .inl rfl
structure ApOk (P : Program) (ats : Array TypeId) (t el : TypeId) (i : TypeInfo) (z : Value) : Prop where
 h0 : ats[0]? = some t
 hu : P.underlying t = some (.slice el)
 hi : P.info? el = some i
 hz : ∀ w, (zeroValue el).run P w = .ok z w
 hb : i.bytes ≤ 1048576
 hzs : z.cells.size = i.size
 hsz : i.size ≠ 0
def ApRes (P : Program) (ats : Array TypeId) (_ _ : TypeId) (i : TypeInfo) (z : Value) (x : V) (n : Nat) (new : List V) (s : S) (v : V) (s' : S) : Prop :=
 ∀ n0 w0 ν w (zeros : Bool) (cargs : Array Value) (ty : TypeId) (xv yv : Value) (cs : List Value), St P n0 w0 ν s w → cargs[0]? = some xv → cargs[1]? = some yv → VR ν x xv → SrcOk P ats i.size z w zeros yv n cs → VRs ν new cs → (∀ y ∈ cs, y.oneCell' = true) → cs.length = n * i.size →
  ∃ ν' y w', Out P n0 w0 ν s ν' s' w' ∧ VR ν' v y ∧ (Builtin.append_ ats ty cargs).run P w = .ok y w'
theorem so_sz {ν : Val} {s : S} {w : World} {a : K} {l : List V} {m el mn f1 f2 v b δ : Nat} {gr : Bool} {i : TypeInfo} (hw : Rows P ν s w) (hB : Tr.get B.none a s.h = .row l m el gr mn f1 f2) (hb : ν.blk a v = some (b, δ)) (hi : P.info? el = some i) : ν.sz a = i.size := by
 have := hw a
 rw [hB] at this
 obtain ⟨c, fz, _, h, _⟩ := this.at_ v b δ hb
 rw [h, Program.cellsOf, hi]; rfl
theorem appendN_ok {ats : Array TypeId} {t el : TypeId} {i : TypeInfo} {z : Value} (hA : ApOk P ats t el i z) {x : V} {n : Nat} {new : List V} {s : S} {k : V → S → A} (hnb : ¬ (appendN el i.size x n new s k).isBad) :
  ∃ v s', k v s' = appendN el i.size x n new s k ∧ ApRes P ats t el i z x n new s v s' := by
 have hpos : 0 < i.size := Nat.pos_of_ne_zero hA.hsz
 unfold appendN at hnb ⊢
 cases hn : Nat.beq n 0 with
 | true =>
  have hn := Nat.eq_of_beq_eq_true hn
  subst hn
  have zero : (∀ (ν : Val) (y : Value), VR ν x y → ∃ base len cap, y = .slice base len cap ∧ len ≤ cap) → ApRes P ats t el i z x 0 new s x s := by
   intro hx n0 w0 ν w zeros cargs ty xv yv cs hst c0 c1 hxv hsrc hv h1 hcl
   obtain ⟨base, len, cap, e, hle⟩ := hx ν xv hxv
   subst e
   exact ⟨ν, _, w, Out.refl hst, hxv, append_zero hA.h0 hA.hu hA.hi hA.hb c0 c1 hsrc hcl hle⟩
  cases x with
  | nil u =>
   simp only at hnb ⊢
   cases hu : Nat.beq u 1 with
   | false => rw [hu] at hnb; exact absurd trivial hnb
   | true =>
    have := Nat.eq_of_beq_eq_true hu
    subst this
    exact ⟨_, _, rfl, zero fun ν y h => ⟨none, 0, 0, h, Nat.le_refl _⟩⟩
  | ref u a =>
   simp only at hnb ⊢
   cases hu : Nat.beq u 1 with
   | false => rw [hu] at hnb; exact absurd trivial hnb
   | true =>
    have := Nat.eq_of_beq_eq_true hu
    subst this
    exact ⟨_, _, rfl, zero fun ν y h => by obtain ⟨_, cap, e⟩ := VR.ref1 h; exact ⟨_, 0, cap, e, Nat.zero_le _⟩⟩
  | sl a v o len cap => exact ⟨_, _, rfl, zero fun ν y h => by obtain ⟨b, δ, _, e, h⟩ := h; exact ⟨_, len, cap, e, h⟩⟩
  | so a v o len e => exact ⟨_, _, rfl, zero fun ν y h => by obtain ⟨b, δ, cap, _, e, h, _⟩ := h; exact ⟨_, len, cap, e, h⟩⟩
  | _ => exact absurd trivial hnb
 | false =>
  have hn0 : n ≠ 0 := fun h => by subst h; simp at hn
  simp only [hn] at hnb ⊢
  -- a grown slice whose old cells are known
  have grow : ∀ (s : S) (l : List V) (need : Nat), ¬ (growNew s el l need k).isBad → need ≤ 1048576 ∧ k (.so s.nx l.length 0 need 0) ⟨Tr.set B.none (.row l l.length el true 0 0 0) s.nx s.h, s.nx.succ⟩ = growNew s el l need k := by
   intro s l need hnb
   unfold growNew at hnb ⊢
   cases hb : Nat.ble need 1048576 with
   | false => rw [hb] at hnb; exact absurd trivial hnb
   | true => exact ⟨Nat.ble_eq.mp hb, (newRow_eq (c := fun a n s => k (.so a n 0 need 0) s)).symm⟩
  cases x with
  | nil u =>
   simp only at hnb ⊢
   cases hu : Nat.beq u 1 with
   | false => rw [hu] at hnb; exact absurd trivial hnb
   | true =>
    have := Nat.eq_of_beq_eq_true hu
    subst this
    simp only [hu] at hnb ⊢
    obtain ⟨h1, h2⟩ := grow _ _ _ hnb
    refine ⟨_, _, h2, fun n0 w0 ν w zeros cargs ty xv yv cs hst c0 c1 hxv hsrc hv ho hcl => ?_⟩
    simp only [VR] at hxv
    subst hxv
    obtain ⟨N, hN, rest, hr, hrun⟩ := append_grow (base := none) (sLen := 0) (sCap := 0) (ty := ty) hA.h0 hA.hu hA.hi hA.hz hA.hb c0 c1 hsrc hcl hA.hzs (by omega) (by omega) (old := []) (fun w' _ => by simp [Builtin.firstCells])
    simp only [Nat.zero_add, List.nil_append] at hN hr hrun
    obtain ⟨ν', g1, g2⟩ := grow_new hst (w1 := { w with drawn := w.drawn + 1 }) rfl rfl rfl rfl hA.hi hv ho (by rw [← hv.length]; exact hcl) hN hr
    exact ⟨ν', _, _, g1, g2, hrun⟩
  | ref u a =>
   simp only at hnb ⊢
   cases hu : Nat.beq u 1 with
   | false => rw [hu] at hnb; exact absurd trivial hnb
   | true =>
    have := Nat.eq_of_beq_eq_true hu
    subst this
    simp only [hu, hget_row] at hnb ⊢
    cases hB : Tr.get B.none a s.h with
    | row l m el' gr mn f1 f2 =>
     rw [hB] at hnb
     simp only at hnb ⊢
     cases hc : andB gr (andB (Nat.beq el el') (andB (Nat.beq f1 0) (Nat.beq f2 0))) with
     | false => rw [hc] at hnb; exact absurd trivial hnb
     | true =>
      obtain ⟨q1, q2⟩ := andB_true hc
      obtain ⟨q2, q3⟩ := andB_true q2
      obtain ⟨q3, q4⟩ := andB_true q3
      have q2 := Nat.eq_of_beq_eq_true q2
      have q3 := Nat.eq_of_beq_eq_true q3
      have q4 := Nat.eq_of_beq_eq_true q4
      subst q1 q2 q3 q4
      simp only [hc, hset_eq] at hnb ⊢
      obtain ⟨h1, h2⟩ := grow _ _ _ hnb
      refine ⟨_, _, h2, fun n0 w0 ν w zeros cargs ty xv yv cs hst c0 c1 hxv hsrc hv ho hcl => ?_⟩
      rcases hxv with ⟨ad, g2⟩ | ⟨v, b, δ, off, cap, g1, g2, g3, g4⟩
      ·subst g2
       obtain ⟨N, hN, rest, hr, hrun⟩ := append_grow (ty := ty) hA.h0 hA.hu hA.hi hA.hz hA.hb c0 c1 hsrc hcl hA.hzs (by omega) (by omega) (old := []) (fun w' _ => by simp [Builtin.firstCells, loadCells, loadCellsFrom])
       simp only [Nat.zero_add, List.nil_append] at hN hr hrun
       have halt : a.toNat < s.nx.toNat := by
        rcases Nat.lt_or_ge a.toNat s.nx.toNat with h | h
        ·exact h
        ·have := (hst.fresh a h).2; rw [this] at hB; cases hB
       have hk := Out.kill0 hst halt
       obtain ⟨ν', p1, p2⟩ := grow_new hk.st (w1 := { w with drawn := w.drawn + 1 }) rfl rfl rfl rfl hA.hi hv ho (by rw [← hv.length]; exact hcl) hN hr
       exact ⟨ν', _, _, hk.trans p1, p2, hrun⟩
      subst g2
      have hsz := so_sz hst.rows hB g1 hA.hi
      have hnl := hv.length
      by_cases hfit : 0 + n ≤ cap
      ·have hroom : ∀ c fz, w.heap[b]? = some (.cells c el fz) → off + cap * i.size ≤ c.size := by
        intro c fz hc'
        have hr := hst.rows a
        rw [hB] at hr
        obtain ⟨c', fz', k1, _, _, k4, _⟩ := hr.at_ v b δ g1
        rw [k1] at hc'
        simp only [Option.some.injEq, Obj.cells.injEq] at hc'
        obtain ⟨rfl, _, _⟩ := hc'
        have := (k4 rfl).1
        rw [hsz] at this g4
        omega
       obtain ⟨p1, ν', p2, p3⟩ := rebind hst g1 hB hA.hi (δ2 := off) (len := 0) (n := n) (cap := cap) (lo := []) (ln := new) (old := []) (cs := cs) rfl hv (by simp) ho (by simp) hcl (fun j v h => by simp at h) hfit hroom
       have := append_fit (ty := ty) hA.h0 hA.hu hA.hi hA.hz hA.hb c0 c1 hsrc hcl hA.hzs hfit p1 ho
       rw [Nat.zero_add] at p3
       exact ⟨ν', _, _, p2, p3, by rw [Nat.zero_add] at this; exact this⟩
      ·obtain ⟨N, hN, rest, hr, hrun⟩ := append_grow (ty := ty) hA.h0 hA.hu hA.hi hA.hz hA.hb c0 c1 hsrc hcl hA.hzs (by omega) (by omega) (old := []) (fun w' _ => by simp [Builtin.firstCells, loadCells, loadCellsFrom])
       simp only [Nat.zero_add, List.nil_append] at hN hr hrun
       have hk := Out.kill hst g1
       obtain ⟨ν', p1, p2⟩ := grow_new hk.st (w1 := { w with drawn := w.drawn + 1 }) rfl rfl rfl rfl hA.hi hv ho (by rw [← hv.length]; exact hcl) hN hr
       exact ⟨ν', _, _, hk.trans p1, p2, hrun⟩
    | _ => rw [hB] at hnb; exact absurd trivial hnb
  | sl a v o len cap =>
   simp only [fN_eq] at hnb ⊢
   cases hfit : Nat.ble (Nat.add len n) cap with
   | true =>
    have hfit' : len + n ≤ cap := Nat.ble_eq.mp hfit
    simp only [hfit] at hnb ⊢
    obtain ⟨s', g4, g5, g6⟩ := writeCells_ok (P := P) hnb
    refine ⟨_, s', g4, fun n0 w0 ν w zeros cargs ty xv yv cs hst c0 c1 hxv hsrc hv ho hcl => ?_⟩
    obtain ⟨b, δ, p1, p2, p3⟩ := hxv
    subst p2
    obtain ⟨q5, q6, q7⟩ := g6 hst b δ p1 cs hv (by rw [← hv.length]; exact hcl) ho
    have e1 : δ + (o + len * i.size) = δ + o + len * i.size := by omega
    have q5 : w.there b (δ + o + len * i.size) cs.length := by rw [hcl, ← e1]; exact q5
    have q6 : St P n0 w0 ν s' (w.setCells b (δ + o + len * i.size) cs) := by rw [← e1]; exact q6
    exact ⟨ν, _, _, Out.write q6 g5 q7, ⟨b, δ, p1, rfl, hfit'⟩, append_fit hA.h0 hA.hu hA.hi hA.hz hA.hb c0 c1 hsrc hcl hA.hzs hfit' q5 ho⟩
   | false =>
    have hbig : cap < len + n := by
     rcases Nat.lt_or_ge cap (len + n) with h | h
     ·exact h
     ·have h9 : Nat.ble (Nat.add len n) cap = true := Nat.ble_eq.mpr h
      rw [h9] at hfit; cases hfit
    simp only [hfit, appL_eq] at hnb ⊢
    obtain ⟨lo, h1, h2⟩ := readCells_ok (P := P) hnb
    rw [← h1] at hnb ⊢
    obtain ⟨h3, h4⟩ := grow _ _ _ hnb
    refine ⟨_, _, h4, fun n0 w0 ν w zeros cargs ty xv yv cs hst c0 c1 hxv hsrc hv ho hcl => ?_⟩
    obtain ⟨b, δ, p1, p2, p3⟩ := hxv
    subst p2
    obtain ⟨old, r1, r2, r3, r4⟩ := h2 hst.rows b δ p1
    have r1 : old.length = len * i.size := r1
    have h3 : len + n ≤ 1048576 := h3
    obtain ⟨N, hN, rest, hr, hrun⟩ := append_grow (ty := ty) hA.h0 hA.hu hA.hi hA.hz hA.hb c0 c1 hsrc hcl hA.hzs hbig h3 (old := old) (loads_ok r2 r1)
    have hvv := r3.append hv
    obtain ⟨ν', g1, g2⟩ := grow_new hst (w1 := { w with drawn := w.drawn + 1 }) rfl rfl rfl rfl hA.hi hvv (fun y hy => by rcases List.mem_append.1 hy with h | h; exact r4 y h; exact ho y h) (by rw [← hvv.length, List.length_append, r1, hcl, ← Nat.add_mul]) hN hr
    exact ⟨ν', _, _, g1, g2, hrun⟩
  | so a v o len e =>
   simp only [fN_eq, hget_row] at hnb ⊢
   cases hB : Tr.get B.none a s.h with
   | row l m el' gr mn f1 f2 =>
    rw [hB] at hnb
    simp only at hnb ⊢
    cases hc : andB gr (andB (Nat.beq el el') (andB (Nat.beq f1 0) (Nat.beq f2 0))) with
    | false => rw [hc] at hnb; exact absurd trivial hnb
    | true =>
     obtain ⟨q1, q2⟩ := andB_true hc
     obtain ⟨q2, q3⟩ := andB_true q2
     obtain ⟨q3, q4⟩ := andB_true q3
     have q2 := Nat.eq_of_beq_eq_true q2
     have q3 := Nat.eq_of_beq_eq_true q3
     have q4 := Nat.eq_of_beq_eq_true q4
     subst q1 q2 q3 q4
     simp only [hc] at hnb ⊢
     -- what the slice is in the machine
     have hat : ∀ (n0 : Nat) (w0 : World) (ν : Val) (w : World) (b δ cap : Nat), St P n0 w0 ν s w → ν.blk a v = some (b, δ) → ν.cap a v = e + cap → o = e * ν.sz a → ∃ c fz, w.heap[b]? = some (.cells c el fz) ∧ ν.sz a = i.size ∧ o = e * i.size ∧ δ + o + cap * i.size ≤ c.size ∧ v ≤ o + cap * i.size ∧ fz.1 = fz.2 ∧ n0 ≤ b ∧
       (mn ≤ v → ∀ j x, l[j]? = some x → j < v → ∃ y, c[δ + j]? = some y ∧ (x ≠ .bad → y.oneCell' = true) ∧ VR ν x y) := by
      intro n0 w0 ν w b δ cap hst hb hcap ho
      have hr := hst.rows a
      rw [hB] at hr
      obtain ⟨c, fz, k1, k2, k3, k4, k5⟩ := hr.at_ v b δ hb
      have hsz := so_sz hst.rows hB hb hA.hi
      have k3 : FzR fz δ 0 0 := by
       rcases k3 with ⟨h, _⟩ | h
       ·cases h
       ·exact h
      obtain ⟨k4, k6⟩ := k4 rfl
      rw [hsz, hcap, Nat.add_mul] at k4 k6
      rw [hsz] at ho
      refine ⟨c, fz, k1, hsz, ho, by omega, by omega, (by unfold FzR at k3; omega), ?_, fun g j x hj hv => k5 (fun _ => g) j x hj (fun _ => hv)⟩
      ·rcases hst.own a v b δ hb (by rw [hB]; trivial) with h | h
       ·exact h
       ·rw [hB] at h; exact absurd h.1 (by simp)
     cases h1 : andB (Nat.beq v m) (Nat.ble (Nat.add (Nat.add o (Nat.mul len i.size)) (Nat.mul n i.size)) m) with
     | true =>
      obtain ⟨r1, r2⟩ := andB_true h1
      have r1 := Nat.eq_of_beq_eq_true r1
      have r2 : o + len * i.size + n * i.size ≤ m := Nat.ble_eq.mp r2
      subst r1
      simp only [h1] at hnb ⊢
      obtain ⟨s', g4, g5, g6⟩ := writeCells_ok (P := P) hnb
      refine ⟨_, s', g4, fun n0 w0 ν w zeros cargs ty xv yv cs hst c0 c1 hxv hsrc hv ho hcl => ?_⟩
      obtain ⟨b, δ, cap, p1, p2, p3, p4, p5⟩ := hxv
      subst p2
      obtain ⟨c, fz, t1, t2, t3, t4, t5, t60, t7, t8⟩ := hat n0 w0 ν w b δ cap hst p1 p4 p5
      have t6 := fun (j : Nat) (_ : j < c.size) => nofz t1 t60 j
      have hfit' : len + n ≤ cap := by
       have : (len + n) * i.size ≤ cap * i.size := by rw [Nat.add_mul]; omega
       exact Nat.le_of_mul_le_mul_right this hpos
      obtain ⟨q5, q6, q7⟩ := g6 hst b δ p1 cs hv (by rw [← hv.length]; exact hcl) ho
      have e1 : δ + (o + len * i.size) = δ + o + len * i.size := by omega
      have q5 : w.there b (δ + o + len * i.size) cs.length := by rw [hcl, ← e1]; exact q5
      have q6 : St P n0 w0 ν s' (w.setCells b (δ + o + len * i.size) cs) := by rw [← e1]; exact q6
      exact ⟨ν, _, _, Out.write q6 g5 q7, ⟨b, δ, cap, p1, rfl, hfit', p4, p5⟩, append_fit hA.h0 hA.hu hA.hi hA.hz hA.hb c0 c1 hsrc hcl hA.hzs hfit' q5 ho⟩
     | false =>
      simp only [h1] at hnb ⊢
      cases h2 : andB (Nat.beq v m) (andB (Nat.beq (Nat.add o (Nat.mul len i.size)) m) (andB (Nat.beq o 0) (Nat.beq e 0))) with
      | true =>
       obtain ⟨s1, s2⟩ := andB_true h2
       obtain ⟨s3, s4⟩ := andB_true s2
       obtain ⟨s5, s6⟩ := andB_true s4
       have r1 := Nat.eq_of_beq_eq_true s1
       have r2 : o + len * i.size = m := Nat.eq_of_beq_eq_true s3
       have r3 := Nat.eq_of_beq_eq_true s5
       have r4 := Nat.eq_of_beq_eq_true s6
       clear s1 s2 s3 s4 s5 s6
       subst r1 r3 r4
       rw [Nat.zero_add] at r2
       simp only [h2] at hnb ⊢
       cases h3 : Nat.ble (Nat.add len n) 1048576 with
       | false => rw [h3] at hnb; exact absurd trivial hnb
       | true =>
        have h3' : len + n ≤ 1048576 := Nat.ble_eq.mp h3
        simp only [appL_eq, hset_eq] at hnb ⊢
        refine ⟨_, _, rfl, fun n0 w0 ν w zeros cargs ty xv yv cs hst c0 c1 hxv hsrc hv ho hcl => ?_⟩
        obtain ⟨b, δ, cap, p1, p2, p3, p4, p5⟩ := hxv
        subst p2
        obtain ⟨c, fz, t1, t2, t3, t4, t5, t60, t7, t8⟩ := hat n0 w0 ν w b δ cap hst p1 p4 p5
        have t6 := fun (j : Nat) (_ : j < c.size) => nofz t1 t60 j
        have hrow := hst.rows a
        rw [hB] at hrow
        have hll := hrow.len
        have hvl := hv.length
        have hnl : new.length = n * i.size := by rw [← hvl, hcl]
        have hnpos : 0 < new.length := by rw [hnl]; exact Nat.mul_pos (Nat.pos_of_ne_zero hn0) hpos
        have hsum : v + n * i.size = (len + n) * i.size := by rw [Nat.add_mul, r2]
        have e0 : δ + 0 + len * i.size = δ + v := by rw [r2]; omega
        have hrow' : (Tr.get B.none a s.h) = .row l v el true mn 0 0 := hB
        -- what the row holds
        obtain ⟨old, o1, o2, o3, o4⟩ := hrow.cells' (v := v) (o := 0) (m := v) p1 ((rdOk_iff _ _ _ _ _).2 ⟨fun _ => ⟨hrow.mnn rfl, Nat.le_refl _, by omega⟩, fun g => by cases g⟩)
        rw [List.drop_zero, List.take_of_length_le (by omega)] at o3 o4
        rw [Nat.add_zero] at o2
        have gen : ∀ (b2 δ2 cap2 : Nat) (y : Value) (w2 : World), (∃ ν', Out P n0 w0 ν s ν' ⟨Tr.set B.none (.row (l ++ new) (v + new.length) el true mn 0 0) a s.h, s.nx⟩ w2 ∧ ν'.blk a (v + new.length) = some (b2, δ2) ∧ ν'.cap a (v + new.length) = cap2 ∧ ν'.sz a = i.size) → y = .slice (some ⟨b2, δ2, none⟩) (len + n) cap2 → len + n ≤ cap2 → (Builtin.append_ ats ty cargs).run P w = .ok y w2 →
          ∃ ν' y w', Out P n0 w0 ν s ν' ⟨Tr.set B.none (.row (l ++ new) (Nat.add v (Nat.mul n i.size)) el true mn 0 0) a s.h, s.nx⟩ w' ∧ VR ν' (.so a (Nat.add v (Nat.mul n i.size)) 0 (Nat.add len n) 0) y ∧ (Builtin.append_ ats ty cargs).run P w = .ok y w' := by
         rintro b2 δ2 cap2 y w2 ⟨ν', u1, u2, u3, u4⟩ hy hle hrun
         have em : Nat.add v (Nat.mul n i.size) = v + new.length := by rw [hnl]; rfl
         rw [em]
         exact ⟨ν', y, w2, u1, ⟨b2, δ2, cap2, u2, by rw [hy]; rfl, hle, by rw [u3, Nat.zero_add], by rw [Nat.zero_mul]⟩, hrun⟩
        by_cases hfit : len + n ≤ cap
        ·have hmulc : (len + n) * i.size ≤ cap * i.size := Nat.mul_le_mul_right _ hfit
         have hthere : w.there b (δ + v) cs.length := by
          intro j hj
          have hlt : δ + v + j < c.size := by omega
          exact ⟨by rw [cell_of_heap t1]; simp [hlt], t6 _ hlt⟩
         obtain ⟨c2, k1, k2, k3⟩ := block_setCells b cs (δ + v) w c el fz t1
         refine gen b δ cap _ _ (ext_row hst p1 hB hA.hi hnpos (Below.setCells t7 cs _ w hst.below) t7 (fun kk hk hne => heap_setCells _ _ _ _ _ hne) k1 t60 (by omega) (by omega) (fun j x hj => ?_) (.inl ⟨rfl, rfl, c, fz, t1, k2, fun j hj => by rw [k3 j (by omega), if_neg (by omega)]⟩)) rfl hfit ?_
         ·have hjl := (List.getElem?_eq_some_iff.1 hj).1
          rw [List.length_append] at hjl
          rw [k3 _ (by omega)]
          by_cases hjm : j < l.length
          ·rw [List.getElem?_append_left hjm] at hj
           rw [if_neg (by omega)]
           exact t8 (hrow.mnn rfl) j x hj (by omega)
          ·rw [List.getElem?_append_right (by omega)] at hj
           obtain ⟨y, hy, hr⟩ := hv.get _ x hj
           rw [if_pos (by omega), show δ + j - (δ + v) = j - l.length by omega]
           exact ⟨y, hy, fun _ => ho y (List.mem_of_getElem? hy), hr⟩
         ·have := append_fit (ty := ty) hA.h0 hA.hu hA.hi hA.hz hA.hb c0 c1 hsrc hcl hA.hzs hfit (by rw [e0]; exact hthere) ho
          rw [e0] at this
          exact this
        ·obtain ⟨N, hN, rest, hr, hrun⟩ := append_grow (ty := ty) hA.h0 hA.hu hA.hi hA.hz hA.hb c0 c1 hsrc hcl hA.hzs (by omega) h3' (old := old) (loads_ok (by rw [Nat.add_zero]; exact o2) (by rw [o1, r2]))
         have hsize : n0 ≤ w.heap.size := Nat.le_trans hst.n0le hst.below.size
         have hmulN : (len + n) * i.size + (N - (len + n)) * i.size = N * i.size := by rw [← Nat.add_mul]; congr 1; omega
         have hb1 : Below n0 w0 ({ w with drawn := w.drawn + 1 } : World) := hst.below.trans ⟨rfl, rfl, rfl, Nat.le_refl _, fun _ _ => rfl⟩
         refine gen w.heap.size 0 N _ _ (ext_row hst p1 hB hA.hi hnpos (hb1.alloc hsize _) hsize (fun kk hk hne => Below.heap_alloc ({ w with drawn := w.drawn + 1 } : World) _ kk hk) (new_alloc ({ w with drawn := w.drawn + 1 } : World) _) rfl ?_ ?_ (fun j x hj => ?_) (.inr (Nat.le_refl _))) rfl hN hrun
         ·simp only [List.size_toArray, List.length_append]; omega
         ·omega
         ·have hjl := (List.getElem?_eq_some_iff.1 hj).1
          rw [List.length_append] at hjl
          have hvv := o3.append hv
          obtain ⟨y, hy, hr2⟩ := hvv.get j x hj
          have hyl := (List.getElem?_eq_some_iff.1 hy).1
          refine ⟨y, by rw [Nat.zero_add, List.getElem?_toArray, List.getElem?_append_left hyl]; exact hy, fun hne => ?_, hr2⟩
          by_cases hjo : j < old.length
          ·rw [List.getElem?_append_left hjo] at hy
           rw [List.getElem?_append_left (by omega)] at hj
           exact o4 j x y hj hy hne
          ·rw [List.getElem?_append_right (by omega)] at hy
           exact ho y (List.mem_of_getElem? hy)
      | false =>
       simp only [h2, appL_eq] at hnb ⊢
       obtain ⟨lo, g1, g2⟩ := readCells_ok (P := P) hnb
       rw [← g1] at hnb ⊢
       simp only [hset_eq] at hnb ⊢
       obtain ⟨h3, h4⟩ := grow _ _ _ hnb
       have h3 : len + n ≤ 1048576 := h3
       refine ⟨_, _, h4, fun n0 w0 ν w zeros cargs ty xv yv cs hst c0 c1 hxv hsrc hv ho hcl => ?_⟩
       obtain ⟨b, δ, cap, p1, p2, p3, p4, p5⟩ := hxv
       subst p2
       obtain ⟨c, fz, t1, t2, t3, t4, t5, t60, t7, t8⟩ := hat n0 w0 ν w b δ cap hst p1 p4 p5
       have t6 := fun (j : Nat) (_ : j < c.size) => nofz t1 t60 j
       obtain ⟨old, r1, r2, r3, r4⟩ := g2 hst.rows b δ p1
       have r1 : old.length = len * i.size := r1
       have hvv := r3.append hv
       by_cases hfit : len + n ≤ cap
       ·obtain ⟨k1, ν', k2, k3⟩ := rebind hst p1 hB hA.hi (δ2 := δ + o) (len := len) (n := n) (cap := cap) r3 hv r4 ho r1 hcl r2 hfit (fun c' fz' hc' => by
         rw [t1] at hc'
         simp only [Option.some.injEq, Obj.cells.injEq] at hc'
         obtain ⟨rfl, _, _⟩ := hc'
         exact t4)
        exact ⟨ν', _, _, k2, k3, append_fit (ty := ty) hA.h0 hA.hu hA.hi hA.hz hA.hb c0 c1 hsrc hcl hA.hzs hfit k1 ho⟩
       ·obtain ⟨N, hN, rest, hr, hrun⟩ := append_grow (ty := ty) hA.h0 hA.hu hA.hi hA.hz hA.hb c0 c1 hsrc hcl hA.hzs (by omega) h3 (old := old) (loads_ok r2 r1)
        have hk := Out.kill hst p1
        obtain ⟨ν', k1, k2⟩ := grow_new hk.st (w1 := { w with drawn := w.drawn + 1 }) rfl rfl rfl rfl hA.hi hvv (fun y hy => by rcases List.mem_append.1 hy with h | h; exact r4 y h; exact ho y h) (by rw [← hvv.length, List.length_append, r1, hcl, ← Nat.add_mul]) hN hr
        exact ⟨ν', _, _, hk.trans k1, k2, hrun⟩
   | _ => rw [hB] at hnb; exact absurd trivial hnb
  | _ => exact absurd trivial hnb
end Go.Ev

namespace Go.Ev
open Go.RowKit
variable {P : Program}
def BuOp (P : Program) (pc : PC) (b : Builtin) (ts : List TypeId) : Prop := ∀ args s k, ¬ ((buC pc b ts).run args s k).isBad → ∃ v s', k v s' = (buC pc b ts).run args s k ∧
 ∀ n0 w0 ν w (cargs : Array Value) (ty : TypeId) (cst : Array Bool), St P n0 w0 ν s w → VRs ν args cargs.toList → ∃ ν' y w', Out P n0 w0 ν s ν' s' w' ∧ VR ν' v y ∧ (builtin b ts.toArray ty cst cargs).run P w = .ok (.value y) w'
theorem BuRead.op {pc : PC} {b : Builtin} {ts : List TypeId} (h : BuRead P pc b ts) : BuOp P pc b ts := fun args s k hnb => by
 obtain ⟨z, h1, h2⟩ := h args s k hnb
 refine ⟨z, s, h1, fun n0 w0 ν w cargs ty cst hst hv => ?_⟩
 obtain ⟨y, h3, h4⟩ := h2 ν w cargs ty cst hst.rows hv
 exact ⟨ν, y, w, Out.refl hst, h3, h4⟩
theorem op_builtin {pc : PC} {fi : FI} {ds : List Nat} {o : Oper} {c : Call} {b : Builtin} (ho : o.op = .call c) (hc : c.callee = .builtin b) (hb : b ≠ .recover) (h : BuOp P pc b c.argTypes.toList) : OpS P pc fi ds o := by
 intro r tm le s k hnb
 rw [call_builtin ho hc hb] at hnb ⊢
 obtain ⟨args, h1, h2⟩ := opds_ok fi ds c.args.toList tm le _ hnb
 rw [← h1] at hnb ⊢
 obtain ⟨v, s', h3, h4⟩ := h args s k hnb
 refine ⟨v, s', h3, fun n0 w0 ν w tmps hst hG hf => ?_⟩
 obtain ⟨cst, h5⟩ := exec_builtin (P := P) ho hc (ev tmps) w
 obtain ⟨ν', y, w', h6, h7, h8⟩ := h4 n0 w0 ν w (c.args.map (ev tmps)) o.type cst hst (by simpa using h2 ν tmps hG (fun x hx => hf x (mem_args ho hx)))
 exact ⟨ν', y, w', h6, h7, .inl (by rw [h5]; simpa using h8)⟩
theorem buBad {m : Nat} {args : List V} {s : S} {k : V → S → A} (h : ¬ ((badB m).run args s k).isBad) : False := h trivial
theorem bu_append {pc : PC} (hp : PcOk P pc) (ts : List TypeId) : BuOp P pc .append ts := by
 intro args s k hnb
 cases ts with
 | nil => exact absurd trivial hnb
 | cons t ts =>
  have e : buC pc .append (t :: ts) = buC pc .append (t :: ts) := rfl
  conv at e => rhs; simp only [buC]
  have dead : ∀ m, buC pc .append (t :: ts) = badB m → False := fun m h => by rw [h] at hnb; exact hnb trivial
  cases hu : pc.und t with
  | none => rw [hu] at e; exact (dead _ e).elim
  | some d =>
   rw [hu] at e
   cases d with
   | slice el =>
    simp only at e
    rcases PC.sz_or pc el (badB 113) _ with h | ⟨i, hi, h⟩
    ·exact (dead _ (e.trans h)).elim
    ·rw [h] at e
     rcases PC.by_or pc el (badB 113) _ with h | ⟨i', hi', h⟩
     ·exact (dead _ (e.trans h)).elim
     ·rw [h] at e
      rw [hi] at hi'
      simp only [Option.some.injEq] at hi'
      subst hi'
      rcases PC.zc_or hp el (badB 113) _ with h | ⟨zc, h, z, hz, hz1, hz2⟩
      ·exact (dead _ (e.trans h)).elim
      ·rw [h] at e
       rcases chk_or (Nat.beq (lenC zc) i.size && (Nat.ble i.bytes 1048576 && !(Nat.beq i.size 0))) (badB 113) _ with h | ⟨hc, h⟩
       ·exact (dead _ (e.trans h)).elim
       ·rw [h] at e
        simp only [fN_eq] at e
        simp only [Bool.and_eq_true] at hc
        obtain ⟨c1, c2, c3⟩ := hc
        have hzl : zc.length = i.size := by rw [← lenC_eq]; exact Nat.eq_of_beq_eq_true c1
        have hzsz : z.cells.size = i.size := by have := (hz1 ⟨fun _ _ => none, fun _ _ => 0, fun _ => 0⟩).length; simp at this; omega
        have hA : ApOk P (t :: ts).toArray t el i z := ⟨by simp, hp.und hu, hp.info _ _ hi, hz, Nat.ble_eq.mp c2, hzsz, fun h => by rw [h] at c3; cases c3⟩
        cases hap : apZ pc ts with
        | none => rw [hap] at e; exact (dead _ e).elim
        | some zeros =>
         rw [hap] at e
         obtain ⟨u, r, ets, hu1⟩ : ∃ u r, ts = u :: r ∧ (if zeros then ∃ kk, pc.und u = some (.int kk) else ∃ d, pc.und u = some d ∧ ∀ kk, d ≠ .int kk) := by
          cases ts with
          | nil => cases hap
          | cons u r =>
           refine ⟨u, r, rfl, ?_⟩
           simp only [apZ] at hap
           cases hd : pc.und u with
           | none => rw [hd] at hap; cases hap
           | some d =>
            rw [hd] at hap
            cases d <;> simp only [Option.some.injEq] at hap <;> subst hap <;> first
             | exact ⟨_, rfl⟩
             | exact ⟨_, rfl, fun kk h => by cases h⟩
         have fin : ∀ (x : V) (n : Nat) (new : List V) (v : V) (s' : S), ApRes P (t :: ts).toArray t el i z x n new s v s' → ∀ n0 w0 ν w (cargs : Array Value) (ty : TypeId) (cst : Array Bool) (xv yv : Value) (cs : List Value), St P n0 w0 ν s w → cargs[0]? = some xv → cargs[1]? = some yv → VR ν x xv → SrcOk P (t :: ts).toArray i.size z w zeros yv n cs → VRs ν new cs → (∀ y ∈ cs, y.oneCell' = true) → cs.length = n * i.size →
           ∃ ν' y w', Out P n0 w0 ν s ν' s' w' ∧ VR ν' v y ∧ (builtin .append (t :: ts).toArray ty cst cargs).run P w = .ok (.value y) w' := by
          intro x n new v s' hR n0 w0 ν w cargs ty cst xv yv cs a1 a2 a3 a4 a5 a6 a7 a8
          obtain ⟨ν', y, w', b1, b2, b3⟩ := hR n0 w0 ν w zeros cargs ty xv yv cs a1 a2 a3 a4 a5 a6 a7 a8
          exact ⟨ν', y, w', b1, b2, by simp only [builtin, Sem.run_bind, b3, Result.andThen_ok, Sem.run_pure]⟩
         cases zeros with
         | true =>
          simp only [if_true] at hu1
          obtain ⟨kk, hu1⟩ := hu1
          have e2 : (buC pc .append (t :: ts)).run args s k = arg2 args fun x y => xAppendZ el i.size zc x y s k := by rw [e]
          rw [e2] at hnb ⊢
          obtain ⟨x, y, rr, ea, h1⟩ := arg2_ok hnb
          subst ea
          rw [← h1] at hnb ⊢
          cases y with
          | nat ky n =>
           unfold xAppendZ at hnb ⊢
           simp only at hnb ⊢
           cases hb : Nat.ble n 1048576 with
           | false => rw [hb] at hnb; exact absurd trivial hnb
           | true =>
            simp only [hb, repL_eq] at hnb ⊢
            obtain ⟨v, s', g1, g2⟩ := appendN_ok hA hnb
            refine ⟨v, s', g1, fun n0 w0 ν w cargs ty cst hst hv => ?_⟩
            obtain ⟨xv, x1, x2⟩ := hv.first
            obtain ⟨yv, y1, y2⟩ := hv.second
            simp only [VR] at y2
            refine fin x n (rep zc n) v s' g2 n0 w0 ν w cargs ty cst xv yv ((List.range n).flatMap fun _ => z.cells.toList) hst x1 y1 x2 ?_ (VRs_rep (hz1 ν) n) (one_rep hz2) ?_
            ·exact ⟨⟨u, kk, by rw [ets]; simp, hp.und hu1⟩, ⟨ky, y2⟩, Nat.ble_eq.mp hb, rfl⟩
            ·have := (VRs_rep (hz1 ν) n).length
             rw [rep_length, hzl] at this
             exact this
          | _ => exact absurd trivial hnb
         | false =>
          simp only [Bool.false_eq_true, if_false] at hu1
          obtain ⟨d, hu1, hd⟩ := hu1
          have e2 : (buC pc .append (t :: ts)).run args s k = arg2 args fun x y => xAppend el i.size x y s k := by rw [e]
          rw [e2] at hnb ⊢
          obtain ⟨x, y, rr, ea, h1⟩ := arg2_ok hnb
          subst ea
          rw [← h1] at hnb ⊢
          unfold xAppend at hnb ⊢
          obtain ⟨n, new, f1, f2⟩ := srcCells_ok (P := P) hnb
          rw [← f1] at hnb ⊢
          obtain ⟨v, s', g1, g2⟩ := appendN_ok hA hnb
          refine ⟨v, s', g1, fun n0 w0 ν w cargs ty cst hst hv => ?_⟩
          obtain ⟨xv, x1, x2⟩ := hv.first
          obtain ⟨yv, y1, y2⟩ := hv.second
          obtain ⟨cs, c4, c5, c6, c7, c8⟩ := f2 ν w yv hst.rows y2
          refine fin x n new v s' g2 n0 w0 ν w cargs ty cst xv yv cs hst x1 y1 x2 ?_ c4 c5 c6
          refine ⟨⟨u, d, by rw [ets]; simp, hp.und hu1, hd⟩, c7, fun w' hw' => ?_⟩
          have := c8 n (Nat.le_refl _) w' hw'
          rwa [List.take_of_length_le (by omega)] at this
   | _ => exact (dead _ e).elim
theorem bu_copy {pc : PC} (hp : PcOk P pc) (ts : List TypeId) : BuOp P pc .copy ts := by
 intro args s k hnb
 cases ts with
 | nil => exact absurd trivial hnb
 | cons t ts =>
  have e : buC pc .copy (t :: ts) = buC pc .copy (t :: ts) := rfl
  conv at e => rhs; simp only [buC]
  have dead : ∀ m, buC pc .copy (t :: ts) = badB m → False := fun m h => by rw [h] at hnb; exact hnb trivial
  cases hu : pc.und t with
  | none => rw [hu] at e; exact (dead _ e).elim
  | some d =>
   rw [hu] at e
   cases d with
   | slice el =>
    simp only at e
    rcases PC.sz_or pc el (badB 114) _ with h | ⟨i, hi, h⟩
    ·exact (dead _ (e.trans h)).elim
    ·rw [h] at e
     have e2 : (buC pc .copy (t :: ts)).run args s k = arg2 args fun x y => xCopy i.size x y s k := by rw [e]
     rw [e2] at hnb ⊢
     obtain ⟨x, y, rr, ea, h1⟩ := arg2_ok hnb
     subst ea
     rw [← h1] at hnb ⊢
     have go : ∀ (a : K) (v o len : Nat), (∀ (ν : Val) (z : Value), VR ν x z → ∃ b δ cap, ν.blk a v = some (b, δ) ∧ z = .slice (some ⟨b, δ + o, none⟩) len cap) → ¬ (xCopy1 i.size a v o len y s k).isBad → ∃ v' s', k v' s' = xCopy1 i.size a v o len y s k ∧
       ∀ n0 w0 ν w (cargs : Array Value) (ty : TypeId) (cst : Array Bool), St P n0 w0 ν s w → VRs ν (x :: y :: rr) cargs.toList → ∃ ν' z w', Out P n0 w0 ν s ν' s' w' ∧ VR ν' v' z ∧ (builtin .copy (t :: ts).toArray ty cst cargs).run P w = .ok (.value z) w' := by
      intro a v o len hx hnb
      unfold xCopy1 at hnb ⊢
      obtain ⟨n, new, f1, f2⟩ := srcCells_ok (P := P) hnb
      rw [← f1] at hnb ⊢
      simp only [fN_eq] at hnb ⊢
      have core : ∀ n0 w0 ν w (cargs : Array Value) (ty : TypeId) (cst : Array Bool), St P n0 w0 ν s w → VRs ν (x :: y :: rr) cargs.toList → ∃ (b δ : Nat) (cs : List Value), ν.blk a v = some (b, δ) ∧ VRs ν new cs ∧ (∀ y ∈ cs, y.oneCell' = true) ∧ cs.length = n * i.size ∧
        ∀ w', (storeCells ⟨b, δ + o, none⟩ (cs.take (Nat.min n len * i.size))).run P w = .ok () w' → (builtin .copy (t :: ts).toArray ty cst cargs).run P w = .ok (.value (.int .i64 (Int.ofNat (Nat.min n len)))) w' := by
       intro n0 w0 ν w cargs ty cst hst hv
       obtain ⟨xv, x1, x2⟩ := hv.first
       obtain ⟨yv, y1, y2⟩ := hv.second
       obtain ⟨b, δ, cap, g1, g2⟩ := hx ν xv x2
       obtain ⟨cs, c4, c5, c6, c7, c8⟩ := f2 ν w yv hst.rows y2
       refine ⟨b, δ, cs, g1, c4, c5, c6, fun w' hs => ?_⟩
       subst g2
       have h8 := c8 (Nat.min n len) (Nat.min_le_left _ _) w rfl
       have : (Builtin.copy_ (t :: ts).toArray ty cargs).run P w = .ok (.int .i64 (Int.ofNat (Nat.min n len))) w' := by
        simp only [Builtin.copy_, List.getElem?_toArray, List.getElem?_cons_zero, x1, y1, Sem.run_bind, run_und (hp.und hu), Result.andThen_ok, c7, run_sz (hp.info _ _ hi), h8, hs, Sem.run_pure, goInt]
        rfl
       simp only [builtin, Sem.run_bind, this, Result.andThen_ok, Sem.run_pure]
      cases hm : Nat.beq (Nat.min n len) 0 with
      | true =>
       have hm := Nat.eq_of_beq_eq_true hm
       refine ⟨_, _, rfl, fun n0 w0 ν w cargs ty cst hst hv => ?_⟩
       obtain ⟨b, δ, cs, g1, c4, c5, c6, hrun⟩ := core n0 w0 ν w cargs ty cst hst hv
       have := hrun w (by rw [hm]; simp [storeCells])
       rw [hm] at this
       exact ⟨ν, _, w, Out.refl hst, rfl, this⟩
      | false =>
       simp only [hm, takeL_eq] at hnb ⊢
       obtain ⟨s', g4, g5, g6⟩ := writeCells_ok (P := P) hnb
       refine ⟨_, s', g4, fun n0 w0 ν w cargs ty cst hst hv => ?_⟩
       obtain ⟨b, δ, cs, g1, c4, c5, c6, hrun⟩ := core n0 w0 ν w cargs ty cst hst hv
       have hle : Nat.min n len * i.size ≤ n * i.size := Nat.mul_le_mul_right _ (Nat.min_le_left _ _)
       have hl := c4.length
       have hcl : (cs.take (Nat.min n len * i.size)).length = Nat.min n len * i.size := by rw [List.length_take]; omega
       have h1c : ∀ y ∈ cs.take (Nat.min n len * i.size), y.oneCell' = true := fun y hy => c5 y (List.mem_of_mem_take hy)
       obtain ⟨q5, q6, q7⟩ := g6 hst b δ g1 _ (c4.take (Nat.min n len * i.size)) (by rw [List.length_take]; show min (Nat.min n len * i.size) _ = Nat.min n len * i.size; omega) h1c
       have q5 : w.there b (δ + o) (cs.take (Nat.min n len * i.size)).length := by rw [hcl]; exact q5
       exact ⟨ν, _, _, Out.write q6 g5 q7, rfl, hrun _ (run_stores q5 h1c)⟩
     cases x with
     | sl a v o len cap => exact go a v o len (fun ν z h => by obtain ⟨b, δ, h1, h2, _⟩ := h; exact ⟨b, δ, cap, h1, h2⟩) hnb
     | so a v o len e => exact go a v o len (fun ν z h => by obtain ⟨b, δ, cap, h1, h2, _⟩ := h; exact ⟨b, δ, cap, h1, h2⟩) hnb
     | ref t a =>
      by_cases ht : t = 1
      ·subst ht
       have e3 : xCopy i.size (.ref 1 a) y s k = srcCells i.size y s fun _ _ => k (.nat .i64 0) s := rfl
       rw [e3] at hnb ⊢
       obtain ⟨n, new, f1, f2⟩ := srcCells_ok (P := P) hnb
       refine ⟨_, _, f1, fun n0 w0 ν w cargs ty cst hst hv => ?_⟩
       obtain ⟨xv, x1, x2⟩ := hv.first
       obtain ⟨yv, y1, y2⟩ := hv.second
       obtain ⟨ad, cap, g2⟩ := x2.ref1
       obtain ⟨cs, c4, c5, c6, c7, c8⟩ := f2 ν w yv hst.rows y2
       subst g2
       have h8 := c8 0 (Nat.zero_le _) w rfl
       have hm : Nat.min n 0 = 0 := Nat.min_zero _
       have : (Builtin.copy_ (t :: ts).toArray ty cargs).run P w = .ok (.int .i64 (Int.ofNat 0)) w := by
        simp only [Builtin.copy_, List.getElem?_toArray, List.getElem?_cons_zero, x1, y1, Sem.run_bind, run_und (hp.und hu), Result.andThen_ok, c7, run_sz (hp.info _ _ hi), hm, h8, Nat.zero_mul, List.take_zero, storeCells, Sem.run_pure, goInt]
        simp
       refine ⟨ν, .int .i64 (Int.ofNat 0), w, Out.refl hst, rfl, ?_⟩
       simp only [builtin, Sem.run_bind, this, Result.andThen_ok, Sem.run_pure]
      ·have e3 : Nat.beq t 1 = false := by
        cases h : Nat.beq t 1 with
        | true => exact absurd (Nat.eq_of_beq_eq_true h) ht
        | false => rfl
       have e4 : xCopy i.size (.ref t a) y s k = .bad 75 := by
        show (Bool.rec (motive := fun _ => A) (.bad 75) _ (Nat.beq t 1) : A) = _
        rw [e3]
       rw [e4] at hnb
       exact absurd trivial hnb
     | _ => exact absurd trivial hnb
   | _ => exact (dead _ e).elim
theorem bu_clear {pc : PC} (hp : PcOk P pc) (ts : List TypeId) : BuOp P pc .clear ts := by
 intro args s k hnb
 cases ts with
 | nil => exact absurd trivial hnb
 | cons t ts =>
  have e : buC pc .clear (t :: ts) = buC pc .clear (t :: ts) := rfl
  conv at e => rhs; simp only [buC]
  have dead : ∀ m, buC pc .clear (t :: ts) = badB m → False := fun m h => by rw [h] at hnb; exact hnb trivial
  cases hu : pc.und t with
  | none => rw [hu] at e; exact (dead _ e).elim
  | some d =>
   rw [hu] at e
   cases d with
   | slice el =>
    simp only at e
    rcases PC.sz_or pc el (badB 126) _ with h | ⟨i, hi, h⟩
    ·exact (dead _ (e.trans h)).elim
    ·rw [h] at e
     rcases PC.zc_or hp el (badB 126) _ with h | ⟨zc, h, z, hz, hz1, hz2⟩
     ·exact (dead _ (e.trans h)).elim
     ·rw [h] at e
      rcases chk_or (Nat.beq (lenC zc) i.size) (badB 126) _ with h | ⟨hc, h⟩
      ·exact (dead _ (e.trans h)).elim
      ·rw [h] at e
       have hzl : zc.length = i.size := by rw [← lenC_eq]; exact Nat.eq_of_beq_eq_true hc
       have e2 : (buC pc .clear (t :: ts)).run args s k = arg1 args fun x => xClear i.size zc x s k := by rw [e]
       rw [e2] at hnb ⊢
       obtain ⟨x, rr, ea, h1⟩ := arg1_ok hnb
       subst ea
       rw [← h1] at hnb ⊢
       have go : ∀ (a : K) (v o len : Nat), (∀ (ν : Val) (z : Value), VR ν x z → ∃ b δ cap, ν.blk a v = some (b, δ) ∧ z = .slice (some ⟨b, δ + o, none⟩) len cap) → ¬ (xClear1 i.size zc a v o len s k).isBad → ∃ v' s', k v' s' = xClear1 i.size zc a v o len s k ∧
         ∀ n0 w0 ν w (cargs : Array Value) (ty : TypeId) (cst : Array Bool), St P n0 w0 ν s w → VRs ν (x :: rr) cargs.toList → ∃ ν' z w', Out P n0 w0 ν s ν' s' w' ∧ VR ν' v' z ∧ (builtin .clear (t :: ts).toArray ty cst cargs).run P w = .ok (.value z) w' := by
        intro a v o len hx hnb
        unfold xClear1 at hnb ⊢
        cases hm : Nat.beq len 0 with
        | true =>
         have hm := Nat.eq_of_beq_eq_true hm
         subst hm
         refine ⟨_, _, rfl, fun n0 w0 ν w cargs ty cst hst hv => ?_⟩
         obtain ⟨xv, x1, x2⟩ := hv.first
         obtain ⟨b, δ, cap, g1, g2⟩ := hx ν xv x2
         subst g2
         refine ⟨ν, Go.undef, w, Out.refl hst, VR.undef, ?_⟩
         have : (Builtin.clear_ (t :: ts).toArray ty cargs).run P w = .ok (.tuple #[]) w := by
          simp [Builtin.clear_, x1, run_und (hp.und hu)]
         simp only [builtin, Sem.run_bind, this, Result.andThen_ok, Sem.run_pure]
         rfl
        | false =>
         simp only [hm, repL_eq] at hnb ⊢
         obtain ⟨s', g4, g5, g6⟩ := writeCells_ok (P := P) hnb
         refine ⟨_, s', g4, fun n0 w0 ν w cargs ty cst hst hv => ?_⟩
         obtain ⟨xv, x1, x2⟩ := hv.first
         obtain ⟨b, δ, cap, g1, g2⟩ := hx ν xv x2
         subst g2
         have hr := VRs_rep (hz1 ν) len
         have hrl := hr.length
         obtain ⟨q5, q6, q7⟩ := g6 hst b δ g1 _ hr (by rw [rep_length, hzl]; rfl) (one_rep hz2)
         have q5 : w.there b (δ + o) ((List.range len).flatMap fun _ => z.cells.toList).length := by rw [hrl, rep_length, hzl]; exact q5
         have hs := run_stores (P := P) q5 (one_rep hz2)
         refine ⟨ν, Go.undef, _, Out.write q6 g5 q7, VR.undef, ?_⟩
         have hl0 : len ≠ 0 := fun h => by subst h; simp at hm
         have : (Builtin.clear_ (t :: ts).toArray ty cargs).run P w = .ok (.tuple #[]) (w.setCells b (δ + o) ((List.range len).flatMap fun _ => z.cells.toList)) := by
          obtain ⟨m, rfl⟩ : ∃ m, len = m + 1 := ⟨len - 1, by omega⟩
          simp only [Builtin.clear_, List.getElem?_toArray, List.getElem?_cons_zero, x1, Sem.run_bind, run_und (hp.und hu), Result.andThen_ok, hz, zeroCells_list, hs, Sem.run_pure]
         simp only [builtin, Sem.run_bind, this, Result.andThen_ok, Sem.run_pure]
         rfl
       cases x with
       | sl a v o len cap => exact go a v o len (fun ν z h => by obtain ⟨b, δ, h1, h2, _⟩ := h; exact ⟨b, δ, cap, h1, h2⟩) hnb
       | so a v o len e => exact go a v o len (fun ν z h => by obtain ⟨b, δ, cap, h1, h2, _⟩ := h; exact ⟨b, δ, cap, h1, h2⟩) hnb
       | _ => exact absurd trivial hnb
   | _ => exact (dead _ e).elim
theorem FzR.grow {fz : Nat × Nat} {δ f1 f2 g1 g2 : Nat} (h : FzR fz δ f1 f2) (hg : (f1 = f2) ∨ (g1 ≤ f1 ∧ f2 ≤ g2)) : FzR fz δ g1 g2 := by
 unfold FzR at *
 omega
theorem freezeN_eq {f1 f2 o n : Nat} {c : Nat → Nat → A} : ∃ g1 g2, freezeN f1 f2 o n c = c g1 g2 ∧ ((f1 = f2 ∧ g1 = o ∧ g2 = o + n) ∨ (f1 ≠ f2 ∧ g1 = min f1 o ∧ g2 = max f2 (o + n))) := by
 unfold freezeN
 cases h : Nat.beq f1 f2 with
 | true => exact ⟨o, o + n, by simp only [fN_eq]; rfl, .inl ⟨Nat.eq_of_beq_eq_true h, rfl, rfl⟩⟩
 | false => exact ⟨min f1 o, max f2 (o + n), by simp only [fN_eq]; rfl, .inr ⟨fun e => by subst e; simp at h, rfl, rfl⟩⟩
theorem freeze_row {n0 : Nat} {w0 w : World} {ν : Val} {s : S} (hst : St P n0 w0 ν s w) {a : K} {l : List V} {m el mn f1 f2 v b δ o n g1 g2 : Nat} (hB : Tr.get B.none a s.h = .row l m el true mn f1 f2) (hb : ν.blk a v = some (b, δ)) (hn : n ≠ 0)
  (hg : (f1 = f2 ∧ g1 = o ∧ g2 = o + n) ∨ (f1 ≠ f2 ∧ g1 = min f1 o ∧ g2 = max f2 (o + n))) :
  St P n0 w0 ν ⟨Tr.set B.none (.row l m el true mn g1 g2) a s.h, s.nx⟩ (w.freeze ⟨b, δ + o, none⟩ n) := by
 have hlive : (Tr.get B.none a s.h).live := by rw [hB]; trivial
 have hrow := hst.rows a
 rw [hB] at hrow
 have hn0 : n0 ≤ b := by
  rcases hst.own a v b δ hb hlive with h | h
  ·exact h
  ·rw [hB] at h; exact absurd h.1 (by simp)
 have hoth : ∀ k, k ≠ b → (w.freeze ⟨b, δ + o, none⟩ n).heap[k]? = w.heap[k]? := by
  intro k hk
  unfold World.freeze
  rw [if_neg hn]
  simp only [Array.getElem?_modify]
  rw [if_neg (fun e => hk e.symm)]
 have hat : ∀ c fz, w.heap[b]? = some (.cells c el fz) → (w.freeze ⟨b, δ + o, none⟩ n).heap[b]? = some (.cells c el (if fz.1 == fz.2 then (δ + o, δ + o + n) else (min fz.1 (δ + o), max fz.2 (δ + o + n)))) := by
  intro c fz h
  unfold World.freeze
  rw [if_neg hn]
  simp only [Array.getElem?_modify, h]
  simp
 have hget : ∀ a', Tr.get B.none a' (Tr.set B.none (.row l m el true mn g1 g2) a s.h) = if a' = a then .row l m el true mn g1 g2 else Tr.get B.none a' s.h := fun a' => get_set _ _ _ _ _
 have hliv : ∀ a', (Tr.get B.none a' (Tr.set B.none (.row l m el true mn g1 g2) a s.h)).live → (Tr.get B.none a' s.h).live := by
  intro a' h
  rw [hget] at h
  by_cases e : a' = a
  ·rw [e]; exact hlive
  ·rwa [if_neg e] at h
 refine ⟨Lib.below_freeze hst.below hn0 n, hst.n0le, fun a' => ?_, fun a' ha' => ?_, fun a1 v1 b1 δ1 a2 v2 δ2 h1 h2 l1 l2 => hst.sep _ _ _ _ _ _ _ h1 h2 (hliv _ l1) (hliv _ l2), fun a' v' b' δ' hb' hl' => ?_⟩
 ·simp only [hget]
  by_cases e : a' = a
  ·subst e
   rw [if_pos rfl]
   refine ⟨hrow.len, hrow.v0, hrow.vn, hrow.mnn, hrow.same, fun v' b' δ' hb' => ?_⟩
   obtain ⟨c, fz, k1, k2, k3, k4, k5⟩ := hrow.at_ v' b' δ' hb'
   have k3 : FzR fz δ' f1 f2 := by
    rcases k3 with ⟨h, _⟩ | h
    ·cases h
    ·exact h
   by_cases eb : b' = b
   ·subst eb
    have hδ := hrow.same _ _ _ _ _ hb' hb
    subst hδ
    refine ⟨c, _, hat c fz k1, k2, .inr ?_, k4, k5⟩
    unfold FzR at *
    by_cases e0 : fz.1 = fz.2
    ·have : (fz.1 == fz.2) = true := by simp [e0]
     rw [this]
     simp only [if_true]
     right
     omega
    ·have : (fz.1 == fz.2) = false := by simp [e0]
     rw [this]
     simp only [Bool.false_eq_true, if_false]
     right
     omega
   ·exact ⟨c, fz, by rw [hoth _ eb]; exact k1, k2, .inr (k3.grow (by omega)), k4, k5⟩
  ·rw [if_neg e]
   refine (hst.rows a').frame fun v' b' δ' hb' hl' => hoth _ fun eb => e ?_
   subst eb
   exact hst.sep a' v' b' δ' a v δ hb' hb hl' hlive
 ·obtain ⟨h1, h2⟩ := hst.fresh a' ha'
  refine ⟨h1, ?_⟩
  simp only [hget]
  rw [if_neg]
  ·exact h2
  ·intro e; subst e; rw [h2] at hB; cases hB
 ·rcases hst.own a' v' b' δ' hb' (hliv _ hl') with h | h
  ·exact .inl h
  ·refine .inr ?_
   simp only [hget]
   by_cases e : a' = a
   ·subst e; rw [hB] at h; exact absurd h.1 (by simp)
   ·rw [if_neg e]; exact h
theorem only1_ok {l : List V} {c : V → A} (hnb : ¬ (only1 l c).isBad) : ∃ x, l = [x] ∧ c x = only1 l c := by
 cases l with
 | nil => exact absurd trivial hnb
 | cons x r => cases r with
  | nil => exact ⟨x, rfl, rfl⟩
  | cons _ _ => exact absurd trivial hnb
theorem only2_ok {l : List V} {c : V → V → A} (hnb : ¬ (only2 l c).isBad) : ∃ x y, l = [x, y] ∧ c x y = only2 l c := by
 cases l with
 | nil => exact absurd trivial hnb
 | cons x r => cases r with
  | nil => exact absurd trivial hnb
  | cons y r => cases r with
   | nil => exact ⟨x, y, rfl, rfl⟩
   | cons _ _ => exact absurd trivial hnb
theorem VRs.one {ν : Val} {x : V} {c : Array Value} (h : VRs ν [x] c.toList) : ∃ y, c = #[y] ∧ VR ν x y := by
 obtain ⟨y, r, e, h1, h2⟩ := h
 simp only [VRs] at h2
 subst h2
 exact ⟨y, by apply Array.ext'; simpa using e, h1⟩
theorem VRs.two {ν : Val} {x y : V} {c : Array Value} (h : VRs ν [x, y] c.toList) : ∃ u v, c = #[u, v] ∧ VR ν x u ∧ VR ν y v := by
 obtain ⟨u, r, e, h1, v, r', e2, h2, h3⟩ := h
 simp only [VRs] at h3
 subst h3 e2
 exact ⟨u, v, by apply Array.ext'; simpa using e, h1, h2⟩
theorem bu_sliceData {pc : PC} (ts : List TypeId) : BuRead P pc .unsafeSliceData ts := by
 intro args s k hnb
 have e : (buC pc .unsafeSliceData ts).run args s k = only1 args fun x => xSliceData x fun v => k v s := by cases ts <;> rfl
 rw [e] at hnb ⊢
 obtain ⟨x, ea, h1⟩ := only1_ok hnb
 subst ea
 rw [← h1] at hnb ⊢
 have fin : ∀ (w : World) (ty : TypeId) (cst : Array Bool) (a : Option Addr) (n c : Nat), (a = none ∨ c ≠ 0) → (builtin .unsafeSliceData ts.toArray ty cst #[.slice a n c]).run P w = .ok (.value (.pointer a)) w := by
  intro w ty cst a n c hac
  rcases a with _ | a
  ·simp [builtin, Lib.run_unsafeSliceData_nil]
  ·rcases hac with h | h
   ·cases h
   ·simp [builtin, Lib.run_unsafeSliceData_row w ts.toArray ty a n c h]
 cases x with
 | nil t =>
  unfold xSliceData at hnb ⊢
  simp only at hnb ⊢
  cases ht : Nat.beq t 1 with
  | false => rw [ht] at hnb; exact absurd trivial hnb
  | true =>
   have := Nat.eq_of_beq_eq_true ht
   subst this
   refine ⟨.nil 0, rfl, fun ν w cargs ty cst hw hv => ?_⟩
   obtain ⟨y, hy, h2⟩ := hv.one
   simp only [VR] at h2
   subst hy h2
   exact ⟨_, rfl, fin w ty cst none 0 0 (.inl rfl)⟩
 | sl a v o len cap =>
  unfold xSliceData at hnb ⊢
  simp only at hnb ⊢
  cases ht : Nat.beq cap 0 with
  | true => rw [ht] at hnb; exact absurd trivial hnb
  | false =>
   have h0 : cap ≠ 0 := fun h => by subst h; simp at ht
   refine ⟨.ptr a v o, rfl, fun ν w cargs ty cst hw hv => ?_⟩
   obtain ⟨y, hy, b, δ, h2, h3, h4⟩ := hv.one
   subst hy h3
   exact ⟨_, ⟨b, δ, h2, rfl⟩, fin w ty cst _ _ _ (.inr h0)⟩
 | so a v o len e0 =>
  unfold xSliceData at hnb ⊢
  simp only at hnb ⊢
  cases ht : Nat.beq len 0 with
  | true => rw [ht] at hnb; exact absurd trivial hnb
  | false =>
   have h0 : len ≠ 0 := fun h => by subst h; simp at ht
   refine ⟨.ptr a v o, rfl, fun ν w cargs ty cst hw hv => ?_⟩
   obtain ⟨y, hy, b, δ, cap, h2, h3, h4, _⟩ := hv.one
   subst hy h3
   exact ⟨_, ⟨b, δ, h2, rfl⟩, fin w ty cst _ _ _ (.inr (by omega))⟩
 | _ => exact absurd trivial hnb
theorem run_unsafeString_at {w : World} {ats : Array TypeId} {pt ty e : TypeId} {k : IntKind} (hat : ats[0]? = some pt) (hp : P.underlying pt = some (.pointer e)) (hc : P.cellsOf e = 1) {b x cells : Nat} (hsh : w.shape? b = some (e, cells)) (l : List UInt8) (h0 : l ≠ []) (hn : x + l.length ≤ cells) (h63 : l.length ≤ 9223372036854775807)
  (hcell : ∀ j u, l[j]? = some u → w.cell? ((⟨b, x, none⟩ : Addr).add j) = some (.int .u8 u.toNat)) :
  (Builtin.unsafeString_ ats ty #[.pointer (some ⟨b, x, none⟩), .int k (Int.ofNat l.length)]).run P w = .ok (.string ⟨l.toArray⟩) (w.freeze ⟨b, x, none⟩ l.length) := by
 have hl : l.length ≠ 0 := by simpa using h0
 have hlb := Lib.run_loadBytes (P := P) w l ⟨b, x, none⟩ .empty hcell
 have hlies := liesAt_same (P := P) (e := e) (by rw [hc]; simp) (cells / P.cellsOf e) x l.length (by rw [hc]; simp [Nat.mod_one]) (by rw [hc]; simpa using hn)
 have h63' : ¬ (9223372036854775807 : Int) < (l.length : Int) := by omega
 have hmax : IntKind.i64.max = 9223372036854775807 := rfl
 have hneg : ¬ (l.length : Int) < 0 := by omega
 have hdef : Builtin.unsafeString_ ats ty #[.pointer (some ⟨b, x, none⟩), .int k (Int.ofNat l.length)] =
   (do
    let n ← asInt (.int k (Int.ofNat l.length))
    let some pt := ats[0]? | stuck "unsafe.String: no argument types"
    if n < 0 then runtimePanic (.error "unsafe.String: len out of range")
    if n > IntKind.i64.max then unsupported (.unsafePointer "String: a length above the largest int")
    if n = 0 then pure (.string .empty)
    else if ← variablesAt ⟨b, x, none⟩ (← elemOf pt) n.toNat then do
     let s ← loadBytes ⟨b, x, none⟩ .empty n.toNat
     freeze ⟨b, x, none⟩ n.toNat
     pure (.string s)
    else unsupported (.unsafePointer "String: not so many bytes at ptr")) := rfl
 rw [hdef]
 simp [asInt, asIntOf, hmax, h63', hneg, hl, variablesAt, hsh, elemOf, run_underlying hp, hlies, hlb, hat]
theorem run_unsafeString_none {w : World} {ats : Array TypeId} {pt ty : TypeId} {k : IntKind} (hat : ats[0]? = some pt) (p : Option Addr) : (Builtin.unsafeString_ ats ty #[.pointer p, .int k (Int.ofNat 0)]).run P w = .ok (.string .empty) w := by
 have hmax : IntKind.i64.max = 9223372036854775807 := rfl
 cases p with
 | none =>
  have hdef : Builtin.unsafeString_ ats ty #[.pointer none, .int k (Int.ofNat 0)] =
    (do
     let n ← asInt (.int k (Int.ofNat 0))
     let some pt := ats[0]? | stuck "unsafe.String: no argument types"
     if n < 0 then runtimePanic (.error "unsafe.String: len out of range")
     if n > IntKind.i64.max then unsupported (.unsafePointer "String: a length above the largest int")
     if n = 0 then pure (.string .empty)
     else runtimePanic (.error "unsafe.String: ptr is nil and len is not zero")) := rfl
  rw [hdef]
  simp [asInt, asIntOf, hmax, hat]
 | some a =>
  have hdef : Builtin.unsafeString_ ats ty #[.pointer (some a), .int k (Int.ofNat 0)] =
    (do
     let n ← asInt (.int k (Int.ofNat 0))
     let some pt := ats[0]? | stuck "unsafe.String: no argument types"
     if n < 0 then runtimePanic (.error "unsafe.String: len out of range")
     if n > IntKind.i64.max then unsupported (.unsafePointer "String: a length above the largest int")
     if n = 0 then pure (.string .empty)
     else if ← variablesAt a (← elemOf pt) n.toNat then do
      let s ← loadBytes a .empty n.toNat
      freeze a n.toNat
      pure (.string s)
     else unsupported (.unsafePointer "String: not so many bytes at ptr")) := rfl
  rw [hdef]
  simp [asInt, asIntOf, hmax, hat]
theorem bu_unsafeString {pc : PC} (hp : PcOk P pc) (ts : List TypeId) : BuOp P pc .unsafeString ts := by
 intro args s k hnb
 cases ts with
 | nil => exact absurd trivial hnb
 | cons t ts =>
  have e : buC pc .unsafeString (t :: ts) = buC pc .unsafeString (t :: ts) := rfl
  conv at e => rhs; simp only [buC]
  have dead : ∀ m, buC pc .unsafeString (t :: ts) = badB m → False := fun m h => by rw [h] at hnb; exact hnb trivial
  cases hu : pc.und t with
  | none => rw [hu] at e; exact (dead _ e).elim
  | some d =>
   rw [hu] at e
   cases d with
   | pointer el =>
    simp only at e
    rcases PC.sz_or pc el (badB 125) _ with h | ⟨i, hi, h⟩
    ·exact (dead _ (e.trans h)).elim
    ·rw [h] at e
     rcases chk_or (Nat.beq i.size 1) (badB 125) _ with h | ⟨hc, h⟩
     ·exact (dead _ (e.trans h)).elim
     ·rw [h] at e
      simp only [fN_eq] at e
      have hcell : P.cellsOf el = 1 := by simp [Program.cellsOf, hp.info _ _ hi, Nat.eq_of_beq_eq_true hc]
      have e2 : (buC pc .unsafeString (t :: ts)).run args s k = only2 args fun x y => xUStr el x y s k := by rw [e]
      rw [e2] at hnb ⊢
      obtain ⟨x, y, ea, h1⟩ := only2_ok hnb
      subst ea
      rw [← h1] at hnb ⊢
      have hat : (t :: ts).toArray[0]? = some t := by simp
      have none_ : ∀ (kk : IntKind) (_ : ∀ (ν : Val) (z : Value), VR ν x z → ∃ p, z = .pointer p) s', s' = s → y = .nat kk 0 → k (.str []) s' = k (.str []) s ∧ ∀ n0 w0 ν w (cargs : Array Value) (ty : TypeId) (cst : Array Bool), St P n0 w0 ν s w → VRs ν [x, y] cargs.toList → ∃ ν' y w', Out P n0 w0 ν s ν' s' w' ∧ VR ν' (.str []) y ∧ (builtin .unsafeString (t :: ts).toArray ty cst cargs).run P w = .ok (.value y) w' := by
       intro kk hx s' hs hy
       subst hs hy
       refine ⟨rfl, fun n0 w0 ν w cargs ty cst hst hv => ?_⟩
       obtain ⟨u, v, e1, e2, e3⟩ := hv.two
       obtain ⟨p, e4⟩ := hx ν u e2
       simp only [VR] at e3
       subst e1 e3 e4
       refine ⟨ν, .string .empty, w, Out.refl hst, ⟨_, rfl, rfl⟩, ?_⟩
       have := run_unsafeString_none (P := P) (w := w) (ty := ty) (k := kk) hat p
       simp only [builtin, Sem.run_bind, this, Result.andThen_ok, Sem.run_pure]
      cases y with
      | nat kk n =>
       unfold xUStr at hnb ⊢
       simp only at hnb ⊢
       cases h63 : Nat.ble n 9223372036854775807 with
       | false => rw [h63] at hnb; exact absurd trivial hnb
       | true =>
        have h63' : n ≤ 9223372036854775807 := Nat.ble_eq.mp h63
        simp only [h63] at hnb ⊢
        cases x with
        | nil u =>
         simp only at hnb ⊢
         cases hc2 : andB (Nat.beq u 0) (Nat.beq n 0) with
         | false => rw [hc2] at hnb; exact absurd trivial hnb
         | true =>
          obtain ⟨q1, q2⟩ := andB_true hc2
          have q1 := Nat.eq_of_beq_eq_true q1
          have q2 := Nat.eq_of_beq_eq_true q2
          subst q1 q2
          obtain ⟨g1, g2⟩ := none_ kk (fun ν z h => ⟨none, h⟩) s rfl rfl
          exact ⟨.str [], s, rfl, g2⟩
        | ptr a v o =>
         simp only at hnb ⊢
         cases hn0 : Nat.beq n 0 with
         | true =>
          have q2 := Nat.eq_of_beq_eq_true hn0
          subst q2
          obtain ⟨g1, g2⟩ := none_ kk (fun ν z h => by obtain ⟨b, δ, _, h⟩ := h; exact ⟨_, h⟩) s rfl rfl
          exact ⟨.str [], s, rfl, g2⟩
         | false =>
          have hn : n ≠ 0 := fun h => by subst h; simp at hn0
          simp only [hn0, hget_row] at hnb ⊢
          generalize hB : Tr.get B.none a s.h = B' at hnb ⊢
          cases B' with
          | row l m el' gr mn f1 f2 =>
           simp only at hnb ⊢
           cases hc3 : andB gr (Nat.beq el' el) with
           | false => rw [hc3] at hnb; exact absurd trivial hnb
           | true =>
            obtain ⟨q1, q2⟩ := andB_true hc3
            have q2 := Nat.eq_of_beq_eq_true q2
            subst q1 q2
            simp only [hc3] at hnb ⊢
            obtain ⟨cv, r1, r2⟩ := readCells_ok (P := P) hnb
            rw [← r1] at hnb ⊢
            obtain ⟨bs, r3, r4, r5⟩ := bytesC_ok hnb
            rw [← r3] at hnb ⊢
            obtain ⟨g1, g2, r6, r7⟩ := freezeN_eq (f1 := f1) (f2 := f2) (o := o) (n := n) (c := fun g1 g2 => hset s a (.row l m el' true mn g1 g2) fun s => k (.str bs) s)
            rw [r6] at hnb ⊢
            simp only [hset_eq] at hnb ⊢
            refine ⟨_, _, rfl, fun n0 w0 ν w cargs ty cst hst hv => ?_⟩
            obtain ⟨u, v', e1, ⟨b, δ, e2, e4⟩, e3⟩ := hv.two
            simp only [VR] at e3
            subst e1 e3 e4
            obtain ⟨cs, k1, k2, k3, k4⟩ := r2 hst.rows b δ e2
            rw [r5] at k3
            have k5 := VRs_bytes k3
            have hrow := hst.rows a
            rw [hB] at hrow
            obtain ⟨c, fz, t1, _⟩ := hrow.at_ v b δ e2
            have hbl : bs.length = n := by rw [← k1, k5]; simp
            have hcs : ∀ j z, cs[j]? = some z → δ + o + j < c.size := by
             intro j z hz
             have := k2 j z hz
             rw [cell_of_heap t1] at this
             exact (Array.getElem?_eq_some_iff.1 this).1
            have hsz : δ + o + n ≤ c.size := by
             have : n - 1 < cs.length := by omega
             have := hcs (n - 1) _ (List.getElem?_eq_getElem this)
             omega
            have hrun := run_unsafeString_at (P := P) (w := w) (ty := ty) (k := kk) hat (hp.und hu) hcell (b := b) (x := δ + o) (shape_of t1) (bs.map UInt8.ofNat) (by intro h; have h9 := congrArg List.length h; simp at h9; subst h9; simp at hbl; omega) (by simpa [hbl] using hsz) (by simpa [hbl] using h63') (fun j z hz => by
             rw [add_off]
             refine k2 j _ ?_
             rw [k5]
             rw [List.getElem?_map] at hz ⊢
             cases hj : bs[j]? with
             | none => rw [hj] at hz; cases hz
             | some q =>
              rw [hj] at hz
              simp only [Option.map_some, Option.some.injEq] at hz ⊢
              rw [← hz]
              have := r4 q (List.mem_of_getElem? hj)
              simp; omega)
            have hl2 : (bs.map UInt8.ofNat).length = n := by simpa using hbl
            rw [hl2] at hrun
            refine ⟨ν, _, _, Out.write (freeze_row hst hB e2 hn r7) rfl (set_keep e2 _), ?_, by simp only [builtin, Sem.run_bind, hrun, Result.andThen_ok, Sem.run_pure]; rfl⟩
            refine ⟨_, rfl, ?_⟩
            unfold bytesL
            simp only [List.map_map]
            conv => rhs; rw [← List.map_id bs]
            apply List.map_congr_left
            intro q hq
            have := r4 q hq
            simp; omega
          | _ => exact absurd trivial hnb
        | _ => exact absurd trivial hnb
      | _ => exact absurd trivial hnb
   | _ => exact (dead _ e).elim
theorem bu_other {pc : PC} {b : Builtin} {ts : List TypeId} (h : ∃ m, buC pc b ts = badB m) : BuOp P pc b ts := fun args s k hnb => by
 obtain ⟨m, h⟩ := h
 rw [h] at hnb; exact absurd trivial hnb
theorem bu_all {pc : PC} (hp : PcOk P pc) (b : Builtin) (ts : List TypeId) : BuOp P pc b ts := by
 cases b
 case append => exact bu_append hp ts
 case copy => exact bu_copy hp ts
 case clear => exact bu_clear hp ts
 case len => exact (bu_len hp ts).op
 case cap => exact (bu_cap hp ts).op
 case min => exact (bu_min ts).op
 case max => exact (bu_max ts).op
 case unsafeSliceData => exact (bu_sliceData ts).op
 case unsafeString => exact bu_unsafeString hp ts
 all_goals exact bu_other ⟨127, by cases ts <;> rfl⟩
end Go.Ev

namespace Go.Ev
open Go.RowKit
variable {P : Program}
theorem pure_makeInterface {pc : PC} (hp : PcOk P pc) {fi : FI} {ds : List Nat} {o : Oper} {t : TypeId} {x : Operand} (ho : o.op = .makeInterface t x) : PureS P pc fi ds o := by
 have e : op pc fi ds o = op pc fi ds o := rfl
 conv at e => rhs; simp only [op, ho]
 cases hu : pc.und t with
 | none => rw [hu] at e; exact pure_bad e
 | some d =>
  have go : op pc fi ds o = un fi ds x (fun v s k => xIface t v fun v => k v s) → (∀ m, d ≠ .interface m) → PureS P pc fi ds o := by
   intro e hd
   refine pure_un (X := xIface t) e (by simp [ho, Op.operands]) (fun v c hnb => ⟨_, rfl, fun ν tmps hv => ?_⟩)
   refine ⟨.iface t (ev tmps x), ⟨_, hv, rfl⟩, fun w => ?_⟩
   have : (Instr.makeInterface t (ev tmps x)).run P w = .ok (.iface t (ev tmps x)) w := by
    unfold Instr.makeInterface
    rw [Sem.run_bind, run_und (hp.und hu)]
    cases d <;> first | rfl | exact absurd rfl (hd _)
   simp [execOp, ho, this]
  rw [hu] at e
  cases d <;> first | exact pure_bad e | (simp only [fN_eq] at e; exact go e (fun _ h => by cases h))
theorem xAssert_ok {t : Nat} {ok : Bool} {z x : V} {c : V → A} (hnb : ¬ (xAssert t ok z x c).isBad) : ∃ v, c v = xAssert t ok z x c ∧ ∀ (ν : Val) (y zv : Value) (xt : TypeId) (d : TypeDesc), VR ν x y → VR ν z zv → P.underlying t = some d → (∀ m, d ≠ .interface m) → (∀ w, (zeroValue t).run P w = .ok zv w) →
  ∃ v', VR ν v v' ∧ ∀ w, (Instr.typeAssert y xt t ok).run P w = .ok v' w := by
 cases x with
 | nil u =>
  unfold xAssert at hnb ⊢
  simp only at hnb ⊢
  cases hc : andB ok (Nat.beq u 4) with
  | false => rw [hc] at hnb; exact absurd trivial hnb
  | true =>
   obtain ⟨q1, q2⟩ := andB_true hc
   have q2 := Nat.eq_of_beq_eq_true q2
   subst q1 q2
   refine ⟨_, rfl, fun ν y zv xt d hy hz hu hd hzv => ?_⟩
   simp only [VR] at hy
   subst hy
   refine ⟨.tuple #[zv, .bool false], VR.pair hz, fun w => ?_⟩
   unfold Instr.typeAssert
   rw [Sem.run_bind, run_und hu]
   cases d <;> first | exact absurd rfl (hd _) | simp [hzv]
 | ifc u v =>
  unfold xAssert at hnb ⊢
  simp only at hnb ⊢
  cases hc : Nat.beq u t with
  | true =>
   have q2 := Nat.eq_of_beq_eq_true hc
   subst q2
   cases ok with
   | true =>
    refine ⟨_, rfl, fun ν y zv xt d hy hz hu hd hzv => ?_⟩
    obtain ⟨y', hy1, hy2⟩ := hy
    subst hy2
    refine ⟨.tuple #[y', .bool true], VR.pair hy1, fun w => ?_⟩
    unfold Instr.typeAssert
    rw [Sem.run_bind, run_und hu]
    cases d <;> first | exact absurd rfl (hd _) | simp
   | false =>
    refine ⟨_, rfl, fun ν y zv xt d hy hz hu hd hzv => ?_⟩
    obtain ⟨y', hy1, hy2⟩ := hy
    subst hy2
    refine ⟨y', hy1, fun w => ?_⟩
    unfold Instr.typeAssert
    rw [Sem.run_bind, run_und hu]
    cases d <;> first | exact absurd rfl (hd _) | simp
  | false =>
   cases ok with
   | false => rw [hc] at hnb; exact absurd trivial hnb
   | true =>
    have hne : u ≠ t := fun h => by subst h; simp at hc
    refine ⟨_, rfl, fun ν y zv xt d hy hz hu hd hzv => ?_⟩
    obtain ⟨y', hy1, hy2⟩ := hy
    subst hy2
    refine ⟨.tuple #[zv, .bool false], VR.pair hz, fun w => ?_⟩
    unfold Instr.typeAssert
    rw [Sem.run_bind, run_und hu]
    cases d <;> first | exact absurd rfl (hd _) | simp [hne, hzv]
 | _ => exact absurd trivial hnb
theorem pure_typeAssert {pc : PC} (hp : PcOk P pc) {fi : FI} {ds : List Nat} {o : Oper} {xt t : TypeId} {x : Operand} {ok : Bool} (ho : o.op = .typeAssert x xt t ok) : PureS P pc fi ds o := by
 have e : op pc fi ds o = op pc fi ds o := rfl
 conv at e => rhs; simp only [op, ho]
 cases hu : pc.und t with
 | none => rw [hu] at e; exact pure_bad e
 | some d =>
  have go : op pc fi ds o = (match pc.zero t with | .bad => badO 216 | z => fN t fun t => cB ok fun ok => un fi ds x fun v s k => xAssert t ok z v fun v => k v s) → (∀ m, d ≠ .interface m) → PureS P pc fi ds o := by
   intro e hd
   by_cases hz : pc.zero t = .bad
   ·rw [hz] at e; exact pure_bad e
   ·have e : op pc fi ds o = un fi ds x (fun v s k => xAssert t ok (pc.zero t) v fun v => k v s) := by
     rw [e]
     cases hz' : pc.zero t <;> first | exact absurd hz' hz | simp only [cB_eq, fN_eq]
    obtain ⟨zv, hzv⟩ := PC.zero_ok hp hz
    refine pure_un (X := xAssert t ok (pc.zero t)) e (by simp [ho, Op.operands]) (fun v c hnb => ?_)
    obtain ⟨u, h1, h2⟩ := xAssert_ok (P := P) hnb
    refine ⟨u, h1, fun ν tmps hv => ?_⟩
    obtain ⟨v', h3, h4⟩ := h2 ν _ zv xt d hv ((hzv default).2 ν) (hp.und hu) hd (fun w => (hzv w).1)
    exact ⟨v', h3, fun w => by simp [execOp, ho, h4]⟩
  rw [hu] at e
  cases d <;> first | exact pure_bad e | exact go e (fun _ h => by cases h)
theorem op_range {pc : PC} (hp : PcOk P pc) {fi : FI} {ds : List Nat} {o : Oper} {t : TypeId} {x : Operand} (ho : o.op = .range t x) : OpS P pc fi ds o := by
 have e : op pc fi ds o = op pc fi ds o := rfl
 conv at e => rhs; simp only [op, ho]
 cases hu : pc.und t with
 | none => rw [hu] at e; exact OpS.bad e
 | some d =>
  rw [hu] at e
  cases d with
  | string =>
   simp only at e
   refine AllocS.op ?_
   intro r tm le s k hnb
   rw [e, un_run] at hnb
   obtain ⟨u, h1, h2⟩ := opd_ok fi ds x tm le _ hnb
   rw [← h1] at hnb
   cases u with
   | str l =>
    refine ⟨.ptr s.nx 0 0, .it l 0 0, by rw [e, un_run, ← h1]; simp only [xRangeS, hnew_eq], fun ν w hn v b δ h => (by rw [hn] at h; cases h), fun n0 w0 ν tmps s2 w hst hG hf hn hlt hB => ?_⟩
    have hsize : n0 ≤ w.heap.size := Nat.le_trans hst.n0le hst.below.size
    obtain ⟨st, e1, e2⟩ := h2 ν tmps hG (hf x (by simp [ho, Op.operands]))
    refine ⟨ν.add s.nx 0 w.heap.size 0 0, .pointer (some ⟨w.heap.size, 0, none⟩), w.alloc (.stringIter st 0), Val.le_add hn, ?_, fun a ha u => Val.add_other ha, VR_ptr0 Val.add_self, ?_⟩
    ·refine bind_blk hst s.nx hn hlt 0 0 0 (lt_alloc _ _) (fun k hk => Below.heap_alloc w _ k hk) (hst.below.alloc hsize _) ?_
     rcases hB with h | h
     ·rw [h]
      intro v b δ hb
      obtain ⟨g1, g2⟩ := Val.add_only hn hb
      simp only [Prod.mk.injEq] at g2
      obtain ⟨rfl, rfl⟩ := g2
      exact ⟨g1, rfl, st, new_alloc _ _, by rw [List.drop_zero]; exact e2⟩
     ·rw [h]; trivial
    ·simp [execOp, ho, e1, Instr.range, run_und (hp.und hu)]
   | _ => exact absurd trivial hnb
  | map j el =>
   simp only at e
   intro r tm le s k hnb
   rw [e, un_run] at hnb ⊢
   obtain ⟨u, h1, h2⟩ := opd_ok fi ds x tm le _ hnb
   rw [← h1] at hnb ⊢
   cases u with
   | ref tt m =>
    unfold xRangeM at hnb ⊢
    simp only at hnb ⊢
    cases ht : Nat.beq tt 0 with
    | false => rw [ht] at hnb; exact absurd trivial hnb
    | true =>
     have ht := Nat.eq_of_beq_eq_true ht
     subst ht
     simp only [hget_row] at hnb ⊢
     cases hB : Tr.get B.none m s.h with
     | map es ck =>
      rw [hB] at hnb
      simp only at hnb ⊢
      cases hbo : bornOk ck es with
      | false => rw [hbo] at hnb; exact absurd trivial hnb
      | true =>
       simp only [hbo, hnew_eq] at hnb ⊢
       refine ⟨.ptr s.nx 0 0, _, rfl, fun n0 w0 ν w tmps hst hG hf => ?_⟩
       obtain ⟨mb, v1, v2⟩ := h2 ν tmps hG (hf x (by simp [ho, Op.operands]))
       obtain ⟨hn, _⟩ := hst.fresh s.nx (Nat.le_refl _)
       have hne : m ≠ s.nx := by intro e; subst e; rw [hn] at v1; cases v1
       obtain ⟨es', q3, q4⟩ := map_at hst.rows hB v1
       have hst2 := put_blk hst (.mit m es ck es none) (fun v b δ h => (by rw [hn] at h; cases h))
       have hsize : n0 ≤ w.heap.size := Nat.le_trans hst.n0le hst.below.size
       refine ⟨ν.add s.nx 0 w.heap.size 0 0, .pointer (some ⟨w.heap.size, 0, none⟩), w.alloc (.mapIter (some mb) ck #[] ck), ⟨Val.le_add hn, ?_, by show _ ≤ s.nx.succ.toNat; rw [K.toNat_succ]; omega, fun a ha hlt => ?_⟩, VR_ptr0 Val.add_self, .inl ?_⟩
       ·refine bind_blk hst2 s.nx hn (by show _ < s.nx.succ.toNat; rw [K.toNat_succ]; omega) 0 0 0 (lt_alloc _ _) (fun k hk => Below.heap_alloc w _ k hk) (hst.below.alloc hsize _) ?_
        have hg : Tr.get B.none s.nx (Tr.set B.none (.mit m es ck es none) s.nx s.h) = .mit m es ck es none := by rw [get_set, if_pos rfl]
        rw [hg]
        intro v b δ hb
        obtain ⟨g1, g2⟩ := Val.add_only hn hb
        simp only [Prod.mk.injEq] at g2
        obtain ⟨rfl, rfl⟩ := g2
        refine ⟨g1, rfl, mb, #[], ck, by rw [Val.add_other hne]; exact v1, new_alloc _ _, hbo, rfl, List.Sublist.refl _, fun e he => ?_, fun e he => by cases he⟩
        have : (es.any fun x => x.born == e.born) = true := List.any_eq_true.2 ⟨e, he, by simp⟩
        simp [this]
       ·have hne2 : a ≠ s.nx := by intro e; subst e; omega
        exact ⟨fun u => by rw [Val.add_other hne2]; exact ha u, .inl (by simp only [get_set, if_neg hne2])⟩
       ·simp [execOp, ho, v2, Instr.range, run_und (hp.und hu), run_getMap q3]
     | _ => rw [hB] at hnb; exact absurd trivial hnb
   | _ => exact absurd trivial hnb
  | _ => exact OpS.bad e
theorem decode_ascii {t : ByteArray} {pos c : Nat} {l : List Nat} (h : (bytesL t).drop pos = c :: l) (hc : c < 128) : pos < t.size ∧ Utf8.decode t pos = (c, 1) := by
 have hlen : pos < t.size := by
  rw [← bytesL_length]
  rcases Nat.lt_or_ge pos (bytesL t).length with h1 | h1
  ·exact h1
  ·rw [List.drop_eq_nil_of_le h1] at h; cases h
 refine ⟨hlen, ?_⟩
 have hb : (t.get! (pos + 0)).toNat = c := by
  have h2 : (bytesL t)[pos]? = some c := by
   have := List.getElem?_drop (xs := bytesL t) (i := pos) (j := 0)
   rw [h] at this
   simpa using this.symm
  unfold bytesL at h2
  rw [List.getElem?_map] at h2
  have hd : pos < t.data.size := hlen
  rw [Array.getElem?_toList, Array.getElem?_eq_getElem hd] at h2
  simp only [Option.map_some, Option.some.injEq] at h2
  rw [← h2]
  congr 1
  simp only [Nat.add_zero, ByteArray.get!]
  exact getElem!_pos t.data pos hd
 unfold Utf8.decode
 simp only [hb]
 rw [if_pos (by omega)]
theorem get_bytes (t : ByteArray) (pos k : Nat) : (t.get! (pos + k)).toNat = ((bytesL t).drop pos).getD k 0 := by
 rw [List.getD_eq_getElem?_getD, List.getElem?_drop]
 unfold bytesL
 rw [List.getElem?_map, Array.getElem?_toList]
 by_cases hd : pos + k < t.data.size
 ·rw [Array.getElem?_eq_getElem hd]
  simp only [Option.map_some, Option.getD_some]
  congr 1
  simp only [ByteArray.get!]
  exact getElem!_pos t.data (pos + k) hd
 ·rw [Array.getElem?_eq_none (by omega)]
  simp only [Option.map_none, Option.getD_none, ByteArray.get!]
  rw [getElem!_neg t.data (pos + k) hd]; rfl
theorem decode_list {t : ByteArray} {pos : Nat} : Utf8.decode t pos = dcL ((bytesL t).drop pos) := by
 have hs : ∀ k, decide (pos + k < t.size) = decide (k < ((bytesL t).drop pos).length) := fun k => by
  rw [List.length_drop, bytesL_length]
  exact decide_eq_decide.2 (by omega)
 unfold Utf8.decode dcL
 simp only [get_bytes, hs]
 rfl
theorem op_next {pc : PC} {fi : FI} {ds : List Nat} {o : Oper} {x : Operand} {isS : Bool} (ho : o.op = .next x isS) : OpS P pc fi ds o := by
 have e : op pc fi ds o = op pc fi ds o := rfl
 conv at e => rhs; simp only [op, ho]
 cases isS with
 | false => exact OpS.bad e
 | true =>
  simp only at e
  intro r tm le s k hnb
  rw [e, un_run] at hnb ⊢
  obtain ⟨u, h1, h2⟩ := opd_ok fi ds x tm le _ hnb
  rw [← h1] at hnb ⊢
  cases u with
  | ptr a v off =>
   unfold xNextS at hnb ⊢
   simp only at hnb ⊢
   cases hoff : Nat.beq off 0 with
   | false => rw [hoff] at hnb; exact absurd trivial hnb
   | true =>
    have hoff := Nat.eq_of_beq_eq_true hoff
    subst hoff
    simp only [hget_row] at hnb ⊢
    cases hB : Tr.get B.none a s.h with
    | it l pos rr =>
     rw [hB] at hnb
     have iter : ∀ {n0 : Nat} {w0 w : World} {ν : Val} {tmps : Array Value}, St P n0 w0 ν s w → VR ν (.ptr a v 0) (ev tmps x) → ∃ b t, v = 0 ∧ ν.blk a 0 = some (b, 0) ∧ ev tmps x = .pointer (some ⟨b, 0, none⟩) ∧ w.heap[b]? = some (.stringIter t pos) ∧ (bytesL t).drop pos = l := by
      intro n0 w0 w ν tmps hst hx
      obtain ⟨b, δ, g1, g2⟩ := hx
      have hr := hst.rows a
      rw [hB] at hr
      obtain ⟨q1, q2, t, q3, q4⟩ := hr v b δ g1
      subst q1 q2
      exact ⟨b, t, rfl, g1, by rw [g2], q3, q4⟩
     have hgo : ∀ {w : World} {b : Nat} {t : ByteArray}, w.heap[b]? = some (.stringIter t pos) → (getObj b).run P w = .ok (.stringIter t pos) w := fun h => by simp [getObj, Sem.run, h]
     cases l with
     | nil =>
      simp only at hnb ⊢
      refine ⟨_, s, rfl, fun n0 w0 ν w tmps hst hG hf => ?_⟩
      obtain ⟨b, t, _, g1, g2, g3, g4⟩ := iter hst (h2 ν tmps hG (hf x (by simp [ho, Op.operands])))
      refine ⟨ν, .tuple #[.bool false], w, Out.refl hst, ⟨[.bool false], ⟨_, _, rfl, rfl, rfl⟩, rfl⟩, .inl ?_⟩
      have hp : ¬ pos < t.size := by
       intro hlt
       have := congrArg List.length g4
       rw [List.length_drop, bytesL_length] at this
       simp at this; omega
      simp [execOp, ho, Instr.next, g2, hgo g3, hp]
     | cons c l =>
      simp only at hnb ⊢
      cases hc : Nat.blt c 128 with
      | false =>
       simp only [hc, nextU, fN_eq, hset_eq] at hnb ⊢
       refine ⟨_, _, rfl, fun n0 w0 ν w tmps hst hG hf => ?_⟩
       obtain ⟨b, t, hv0, g1, g2, g3, g4⟩ := iter hst (h2 ν tmps hG (hf x (by simp [ho, Op.operands])))
       subst hv0
       have d1 : pos < t.size := by
        rw [← bytesL_length]
        rcases Nat.lt_or_ge pos (bytesL t).length with h1 | h1
        ·exact h1
        ·rw [List.drop_eq_nil_of_le h1] at g4; cases g4
       have d2 : Utf8.decode t pos = dcL (c :: l) := by rw [decode_list, g4]
       generalize dcL (c :: l) = q at d2 ⊢
       obtain ⟨q1, q2⟩ := q
       have hv : ∀ v p, ν.blk a v = some p → v = 0 := by
        intro v p hvp
        have := hst.rows a
        rw [hB] at this
        exact (this v p.1 p.2 hvp).1
       refine ⟨ν, .tuple #[.bool true, .int .i64 (Int.ofNat pos), .int .i32 (Int.ofNat q1)], _, Out.write (set_obj hst g1 (by rw [hB]; trivial) (by rw [hB]; exact fun h => h) hv (B' := .it ((c :: l).drop q2) (Nat.add pos q2) rr) (o := .stringIter t (pos + q2)) (fun h => h) (fun w' hw' => ?_)) rfl (set_keep g1 _), ⟨[.bool true, .int .i64 (Int.ofNat pos), .int .i32 (Int.ofNat q1)], ⟨_, _, rfl, rfl, _, _, rfl, rfl, _, _, rfl, rfl, rfl⟩, rfl⟩, .inl ?_⟩
       ·intro v b' δ' hb'
        have hr := hst.rows a
        rw [hB] at hr
        obtain ⟨q1, q2, _⟩ := hr v b' δ' hb'
        subst q1 q2
        rw [g1] at hb'
        simp only [Option.some.injEq, Prod.mk.injEq, and_true] at hb'
        subst hb'
        refine ⟨rfl, rfl, t, hw', ?_⟩
        rw [show Nat.add pos _ = pos + _ from rfl, ← List.drop_drop, g4]
       ·have hlt : b < w.heap.size := (Array.getElem?_eq_some_iff.1 g3).1
        have hset : (setObj b (.stringIter t (pos + q2))).run P w = .ok () { w with heap := w.heap.setIfInBounds b (.stringIter t (pos + q2)) } := by simp [setObj, Sem.run, g3]
        simp [execOp, ho, Instr.next, g2, hgo g3, d1, d2, hset, goInt]
      | true =>
       have hc' : c < 128 := by simpa [Nat.blt_eq] using hc
       simp only [hc, fN_eq, hset_eq] at hnb ⊢
       refine ⟨_, _, rfl, fun n0 w0 ν w tmps hst hG hf => ?_⟩
       obtain ⟨b, t, hv0, g1, g2, g3, g4⟩ := iter hst (h2 ν tmps hG (hf x (by simp [ho, Op.operands])))
       subst hv0
       obtain ⟨d1, d2⟩ := decode_ascii g4 hc'
       have hv : ∀ v p, ν.blk a v = some p → v = 0 := by
        intro v p hvp
        have := hst.rows a
        rw [hB] at this
        exact (this v p.1 p.2 hvp).1
       refine ⟨ν, .tuple #[.bool true, .int .i64 (Int.ofNat pos), .int .i32 (Int.ofNat c)], _, Out.write (set_obj hst g1 (by rw [hB]; trivial) (by rw [hB]; exact fun h => h) hv (B' := .it l (Nat.succ pos) rr) (o := .stringIter t (pos + 1)) (fun h => h) (fun w' hw' => ?_)) rfl (set_keep g1 _), ⟨[.bool true, .int .i64 (Int.ofNat pos), .int .i32 (Int.ofNat c)], ⟨_, _, rfl, rfl, _, _, rfl, rfl, _, _, rfl, rfl, rfl⟩, rfl⟩, .inl ?_⟩
       ·intro v b' δ' hb'
        have hr := hst.rows a
        rw [hB] at hr
        obtain ⟨q1, q2, _⟩ := hr v b' δ' hb'
        subst q1 q2
        rw [g1] at hb'
        simp only [Option.some.injEq, Prod.mk.injEq, and_true] at hb'
        subst hb'
        refine ⟨rfl, rfl, t, hw', ?_⟩
        rw [show Nat.succ pos = pos + 1 from rfl, ← List.drop_drop, g4]; rfl
       ·have hlt : b < w.heap.size := (Array.getElem?_eq_some_iff.1 g3).1
        have hset : (setObj b (.stringIter t (pos + 1))).run P w = .ok () { w with heap := w.heap.setIfInBounds b (.stringIter t (pos + 1)) } := by simp [setObj, Sem.run, g3]
        simp [execOp, ho, Instr.next, g2, hgo g3, d1, d2, hset, goInt]
    | _ => rw [hB] at hnb; exact absurd trivial hnb
  | _ => exact absurd trivial hnb
end Go.Ev

namespace Go.Ev
open Go.RowKit
theorem bq {a b : Nat} (h : Nat.beq a b = true) : a = b := Nat.eq_of_beq_eq_true h
theorem beqV_ok : ∀ (a b : V), beqV a b = true → a = b := by
 refine V.rec (motive_1 := fun a => ∀ b, beqV a b = true → a = b) (motive_2 := fun l => ∀ m, beqV (.ls 0 l) (.ls 0 m) = true → l = m) ?_ ?_ ?_ ?_ ?_ ?_ ?_ ?_ ?_ ?_ ?_ ?_ ?_ ?_ ?_
 ·intro b h; cases h
 ·intro k n b h
  cases b <;> first | (cases h; done) | skip
  obtain ⟨h1, h2⟩ := andB_true h
  rw [(kbeq_iff _ _).1 h1, bq h2]
 ·intro k n b h
  cases b <;> first | (cases h; done) | skip
  obtain ⟨h1, h2⟩ := andB_true h
  rw [(kbeq_iff _ _).1 h1, bq h2]
 ·intro x b h
  cases b <;> first | (cases h; done) | skip
  rename_i y
  cases x <;> cases y <;> first | rfl | cases h
 ·intro x b h
  cases b <;> first | (cases h; done) | skip
  rw [(eqS_iff _ _).1 h]
 ·intro a v o b h
  cases b <;> first | (cases h; done) | skip
  obtain ⟨h1, h2⟩ := andB_true h
  obtain ⟨h2, h3⟩ := andB_true h2
  rw [(K.beq_iff _ _).1 h1, bq h2, bq h3]
 ·intro a v o l c b h
  cases b <;> first | (cases h; done) | skip
  obtain ⟨h1, h2⟩ := andB_true h
  obtain ⟨h2, h3⟩ := andB_true h2
  obtain ⟨h3, h4⟩ := andB_true h3
  obtain ⟨h4, h5⟩ := andB_true h4
  rw [(K.beq_iff _ _).1 h1, bq h2, bq h3, bq h4, bq h5]
 ·intro a v o l c b h
  cases b <;> first | (cases h; done) | skip
  obtain ⟨h1, h2⟩ := andB_true h
  obtain ⟨h2, h3⟩ := andB_true h2
  obtain ⟨h3, h4⟩ := andB_true h3
  obtain ⟨h4, h5⟩ := andB_true h4
  rw [(K.beq_iff _ _).1 h1, bq h2, bq h3, bq h4, bq h5]
 ·intro t b h
  cases b <;> first | (cases h; done) | skip
  rw [bq h]
 ·intro t a b h
  cases b <;> first | (cases h; done) | skip
  obtain ⟨h1, h2⟩ := andB_true h
  rw [bq h1, (K.beq_iff _ _).1 h2]
 ·intro t l ih b h
  cases b <;> first | (cases h; done) | skip
  obtain ⟨h1, h2⟩ := andB_true h
  rw [bq h1, ih _ h2]
 ·intro f a b ih1 ih2 c h
  cases c <;> first | (cases h; done) | skip
  rename_i g x y
  obtain ⟨h1, h2⟩ := andB_true h
  obtain ⟨h2, h3⟩ := andB_true h2
  rw [ih1 _ h2, ih2 _ h3]
  cases f <;> cases g <;> first | (cases h1; done) | rw [bq h1]
 ·intro t v ih b h
  cases b <;> first | (cases h; done) | skip
  obtain ⟨h1, h2⟩ := andB_true h
  rw [bq h1, ih _ h2]
 ·intro m h
  cases m with
  | nil => rfl
  | cons y m => cases h
 ·intro x l ih1 ih2 m h
  cases m with
  | nil => cases h
  | cons y m =>
   have h' : andB (beqV x y) (beqV (.ls 0 l) (.ls 0 m)) = true := h
   obtain ⟨h1, h2⟩ := andB_true h'
   rw [ih1 _ h1, ih2 _ h2]
theorem beqVs_ok : ∀ {a b : List V}, (∀ x ∈ a, ∀ y, beqV x y = true → x = y) → beqVs a b = true → a = b
 | [], [], _, _ => rfl
 | [], _ :: _, _, h => by cases h
 | x :: a, [], _, h => by cases h
 | x :: a, y :: b, hx, h => by
  have e : beqVs (x :: a) (y :: b) = andB (beqV x y) (beqVs a b) := rfl
  rw [e] at h
  obtain ⟨h1, h2⟩ := andB_true h
  rw [hx x (by simp) y h1, beqVs_ok (fun z hz => hx z (by simp [hz])) h2]
theorem beqVs_eq {a b : List V} (h : beqVs a b = true) : a = b := beqVs_ok (fun x _ y => beqV_ok x y) h
theorem beqEs_eq : ∀ {a b : List ME}, beqEs a b = true → a = b
 | [], [], _ => rfl
 | [], _ :: _, h => by cases h
 | x :: a, [], h => by cases h
 | x :: a, y :: b, h => by
  have e : beqEs (x :: a) (y :: b) = andB (beqE x y) (beqEs a b) := rfl
  rw [e] at h
  obtain ⟨h1, h2⟩ := andB_true h
  rw [beqEs_eq h2]
  obtain ⟨k, v, n⟩ := x
  obtain ⟨k', v', n'⟩ := y
  obtain ⟨h3, h4⟩ := andB_true h1
  obtain ⟨h4, h5⟩ := andB_true h4
  rw [bq h3, beqV_ok _ _ h4, beqV_ok _ _ h5]
end Go.Ev

namespace Go.Ev
open Go.RowKit
variable {P : Program}
theorem entE_ok {pc : PC} (hp : PcOk P pc) {j : TypeId} (hk : keyOk (pc.eqKind j) = true) {key zero : V} {ck : Nat} : ∀ {es : List ME} {c : V → Nat → List ME → Bool → A}, ¬ (entE (pc.eqKind j) key zero ck es c).isBad → ∃ v n l' b, c v n l' b = entE (pc.eqKind j) key zero ck es c ∧
  ∀ (ν : Val) (k z : Value) (es' : List MapEntry), VR ν key k → VR ν zero z → MRs ν es es' → ∀ i, ∃ r', (∀ w, (Instr.findAsking j k es' i).run P w = .ok r' w) ∧
   match r' with
   | none => b = true ∧ n = ck ∧ v = zero ∧ MRs ν l' (es' ++ [⟨k, z, ck⟩])
   | some (m, y) => b = false ∧ i ≤ m ∧ VR ν v y ∧ ∃ e, es'[m - i]? = some e ∧ e.born = n ∧ Instr.sameBits 10000 e.key k = true ∧ MRs ν l' (es'.set (m - i) ⟨k, e.val, e.born⟩)
 | [], c, _ => ⟨zero, ck, [⟨key, zero, ck⟩], true, rfl, fun ν k z es' h1 h2 he i => ⟨none, fun w => by simp only [MRs] at he; subst he; rfl, rfl, rfl, rfl, by simp only [MRs] at he; subst he; exact ⟨_, [], rfl, ⟨h1, h2, rfl⟩, rfl⟩⟩⟩
 | e :: es, c, hnb => by
  have eq : entE (pc.eqKind j) key zero ck (e :: es) c = (match eqV (pc.eqKind j) false key e.key with | some true => c e.val e.born (⟨key, e.val, e.born⟩ :: es) false | some false => entE (pc.eqKind j) key zero ck es (fun v n l b => c v n (e :: l) b) | none => .bad 82) := rfl
  rw [eq] at hnb ⊢
  cases hq : eqV (pc.eqKind j) false key e.key with
  | none => rw [hq] at hnb; exact absurd trivial hnb
  | some b =>
   rw [hq] at hnb
   cases b with
   | true =>
    refine ⟨_, _, _, _, rfl, fun ν k z es' h1 h2 he i => ?_⟩
    obtain ⟨x, r, e1, ⟨m1, m2, m3⟩, h3⟩ := he
    subst e1
    obtain ⟨h4, _⟩ := eqV_ok hp hq h1 m1
    refine ⟨some (i, x.val), fun w => by simp [Instr.findAsking, h4 w], rfl, Nat.le_refl _, m2, x, by simp, m3.symm, eqV_same hp hk hq h1 m1, ?_⟩
    simp only [Nat.sub_self, List.set_cons_zero]
    exact ⟨_, _, rfl, ⟨h1, m2, m3⟩, h3⟩
   | false =>
    obtain ⟨v0, n0, l0, b0, h0, h1⟩ := entE_ok hp hk hnb
    refine ⟨v0, n0, e :: l0, b0, h0, fun ν k z es' hk1 hv he i => ?_⟩
    obtain ⟨x, r, e1, ⟨m1, m2, m3⟩, h3⟩ := he
    subst e1
    obtain ⟨h4, _⟩ := eqV_ok hp hq hk1 m1
    obtain ⟨r', h5, h6⟩ := h1 ν k z r hk1 hv h3 (i + 1)
    refine ⟨r', fun w => by simp [Instr.findAsking, h4 w, h5 w], ?_⟩
    cases r' with
    | none => exact ⟨h6.1, h6.2.1, h6.2.2.1, ⟨x, _, rfl, ⟨m1, m2, m3⟩, h6.2.2.2⟩⟩
    | some p =>
     obtain ⟨q1, q2, q3, e', q4, q5, q6, q7⟩ := h6
     refine ⟨q1, by omega, q3, e', ?_, q5, q6, ?_⟩
     ·rw [show p.1 - i = (p.1 - (i + 1)) + 1 by omega]; simpa using q4
     ·rw [show p.1 - i = (p.1 - (i + 1)) + 1 by omega, List.set_cons_succ]
      exact ⟨x, _, rfl, ⟨m1, m2, m3⟩, q7⟩
theorem map_set {n0 : Nat} {w0 w : World} {ν : Val} {s : S} (hst : St P n0 w0 ν s w) {a : K} {es l' : List ME} {ck ck2 b0 : Nat} {es2 : Array MapEntry} (hB : Tr.get B.none a s.h = .map es ck) (v1 : ν.blk a 0 = some (b0, 0)) (hm : MRs ν l' es2.toList) :
  St P n0 w0 ν ⟨Tr.set B.none (.map l' ck2) a s.h, s.nx⟩ { w with heap := w.heap.setIfInBounds b0 (.map es2 ck2) } := by
 have hlive : (Tr.get B.none a s.h).live := by rw [hB]; trivial
 have hnl : ¬ Locked (Tr.get B.none a s.h) := by rw [hB]; exact fun h => h
 have hv : ∀ v p, ν.blk a v = some p → v = 0 := by
  intro v p hvp
  have := hst.rows a
  rw [hB] at this
  exact (this v p.1 p.2 hvp).1
 refine set_obj hst v1 hlive hnl hv (B' := .map l' ck2) (o := .map es2 ck2) (fun h => h) (fun w' hw' => ?_)
 intro v b' δ' hb'
 have hv0 := hv v _ hb'
 subst hv0
 rw [v1] at hb'
 simp only [Option.some.injEq, Prod.mk.injEq] at hb'
 rw [← hb'.1]
 exact ⟨rfl, es2, hw', hm⟩
theorem VR.two {ν : Val} {v u : V} {y z : Value} (h : VR ν v y) (k : VR ν u z) : VR ν (.ls 1 [v, u]) (.tuple #[y, z]) := ⟨[y, z], ⟨y, _, rfl, h, z, _, rfl, k, rfl⟩, rfl⟩
theorem op_mapEntry {pc : PC} (hp : PcOk P pc) {fi : FI} {ds : List Nat} {o : Oper} {t : TypeId} {m kx : Operand} (ho : o.op = .mapEntry t m kx) : OpS P pc fi ds o := by
 have e : op pc fi ds o = op pc fi ds o := rfl
 conv at e => rhs; simp only [op, ho]
 cases hu : pc.und t with
 | none => rw [hu] at e; exact OpS.bad e
 | some d =>
  rw [hu] at e
  cases d with
  | map j el =>
   simp only [fK_eq] at e
   rcases chk_or (keyOk (pc.eqKind j)) (badO 155) _ with h | ⟨hk, h⟩
   ·exact OpS.bad (e.trans h)
   ·rw [h] at e
    obtain ⟨dj, hdj⟩ := keyOk_und hp hk
    by_cases hz : pc.zero el = .bad
    ·rw [hz] at e; exact OpS.bad e
    ·have e : op pc fi ds o = bi fi ds m kx (fun m k s c => xMapEntry (pc.eqKind j) (pc.zero el) m k s c) := by
      rw [e]
      cases hz' : pc.zero el <;> first | exact absurd hz' hz | rfl
     obtain ⟨zv, hzv⟩ := PC.zero_ok hp hz
     intro r tm le s k hnb
     rw [e, bi_run] at hnb ⊢
     obtain ⟨u1, h1, h2⟩ := opd_ok fi ds m tm le _ hnb
     rw [← h1] at hnb ⊢
     obtain ⟨u2, h3, h4⟩ := opd_ok fi ds kx tm le _ hnb
     rw [← h3] at hnb ⊢
     unfold xMapEntry at hnb ⊢
     obtain ⟨q1, q2⟩ := keyC_ok hp hk hnb
     rw [q1] at hnb ⊢
     cases u1 with
     | ref n a =>
      simp only at hnb ⊢
      cases ht : Nat.beq n 0 with
      | false => rw [ht] at hnb; exact absurd trivial hnb
      | true =>
       have := Nat.eq_of_beq_eq_true ht
       subst this
       simp only [ht, hget_row] at hnb ⊢
       cases hB : Tr.get B.none a s.h with
       | map es ck =>
        rw [hB] at hnb
        simp only [fN_eq, hset_eq] at hnb ⊢
        obtain ⟨v, nn, l', b, g1, g2⟩ := entE_ok hp hk hnb
        rw [← g1] at hnb ⊢
        refine ⟨_, _, rfl, fun n0 w0 ν w tmps hst hG hf => ?_⟩
        obtain ⟨b0, v1, v2⟩ := h2 ν tmps hG (hf m (by simp [ho, Op.operands]))
        have v3 := h4 ν tmps hG (hf kx (by simp [ho, Op.operands]))
        obtain ⟨es', q3, q4⟩ := map_at hst.rows hB v1
        obtain ⟨r', q5, q6⟩ := g2 ν _ zv es'.toList v3 ((hzv w).2 ν) q4 0
        have q7 := findKey_ok hdj _ es'.toList w (q5 w)
        cases r' with
        | none =>
         obtain ⟨p1, p2, p3, p4⟩ := q6
         subst p1 p2 p3
         refine ⟨ν, .tuple #[zv, .int .i64 (Int.ofNat nn)], _, Out.write (map_set hst hB v1 (es2 := es'.push ⟨ev tmps kx, zv, nn⟩) (by simpa using p4)) rfl (set_keep v1 _), VR.two ((hzv w).2 ν) rfl, .inl ?_⟩
         simp [execOp, ho, Instr.mapEntry, run_und (hp.und hu), v2, run_getMap q3, q2 ν _ v3, q7, (hzv w).1, MapKept.run_setObj_map _ q3, goInt]
        | some p =>
         obtain ⟨p1, p2, p3, e0, p4, p5, p6, p7⟩ := q6
         subst p1
         simp only [Nat.sub_zero, Array.getElem?_toList] at p4 p7
         have hlt : p.1 < es'.size := (Array.getElem?_eq_some_iff.1 p4).1
         have hgete : es'[p.1] = e0 := (Array.getElem?_eq_some_iff.1 p4).2
         have hes2 : (es'.modify p.1 fun e => { e with key := ev tmps kx }).toList = es'.toList.set p.1 ⟨ev tmps kx, e0.val, e0.born⟩ := by
          apply List.ext_getElem?
          intro i
          rw [Array.getElem?_toList, Array.getElem?_modify, List.getElem?_set]
          by_cases hi : p.1 = i
          ·subst hi; simp [hlt, hgete]
          ·simp [hi]
         refine ⟨ν, .tuple #[p.2, .int .i64 (Int.ofNat nn)], _, Out.write (map_set hst hB v1 (es2 := es'.modify p.1 fun e => { e with key := ev tmps kx }) (by rw [hes2]; exact p7)) rfl (set_keep v1 _), VR.two p3 rfl, .inl ?_⟩
         simp [execOp, ho, Instr.mapEntry, run_und (hp.und hu), v2, run_getMap q3, q2 ν _ v3, q7, Instr.keyThatStays, p4, p5, p6, MapKept.run_setObj_map _ q3, goInt]
       | _ => rw [hB] at hnb; exact absurd trivial hnb
     | _ => exact absurd trivial hnb
  | _ => exact OpS.bad e
theorem setE_ok {n : Nat} {val : V} : ∀ {es : List ME} {c : List ME → A}, ¬ (setE n val es c).isBad → ∃ l', c l' = setE n val es c ∧ ∀ (ν : Val) (v : Value) (es' : List MapEntry), VR ν val v → MRs ν es es' →
  ∃ i, es'.findIdx? (fun e => (e.born : Int) == (n : Int)) = some i ∧ MRs ν l' (es'.modify i fun e => { e with val := v })
 | [], c, hnb => absurd trivial hnb
 | e :: es, c, hnb => by
  have eq : setE n val (e :: es) c = (match Nat.beq e.born n with | true => c (⟨e.key, val, e.born⟩ :: es) | false => setE n val es (fun l => c (e :: l))) := by
   show Bool.rec (motive := fun _ => A) _ _ (Nat.beq e.born n) = _
   cases Nat.beq e.born n <;> rfl
  rw [eq] at hnb ⊢
  cases hb : Nat.beq e.born n with
  | true =>
   have hb := Nat.eq_of_beq_eq_true hb
   refine ⟨_, rfl, fun ν v es' hv he => ?_⟩
   obtain ⟨x, r, e1, ⟨m1, m2, m3⟩, h3⟩ := he
   subst e1
   refine ⟨0, ?_, ?_⟩
   ·rw [List.findIdx?_cons]
    have : ((x.born : Int) == (n : Int)) = true := by rw [← m3, hb]; simp
    rw [this]; rfl
   ·exact ⟨_, _, rfl, ⟨m1, hv, m3⟩, h3⟩
  | false =>
   rw [hb] at hnb
   have hne : e.born ≠ n := fun h => by rw [h] at hb; simp at hb
   obtain ⟨l', h1, h2⟩ := setE_ok hnb
   refine ⟨e :: l', h1, fun ν v es' hv he => ?_⟩
   obtain ⟨x, r, e1, ⟨m1, m2, m3⟩, h3⟩ := he
   subst e1
   obtain ⟨i, h4, h5⟩ := h2 ν v r hv h3
   refine ⟨i + 1, ?_, ?_⟩
   ·rw [List.findIdx?_cons]
    have : ((x.born : Int) == (n : Int)) = false := by
     rw [← m3, beq_eq_false_iff_ne]
     intro h; exact hne (by exact_mod_cast h)
    rw [this, h4]; rfl
   ·rw [List.modify_succ_cons]
    exact ⟨x, _, rfl, ⟨m1, m2, m3⟩, h5⟩
theorem op_entryStore {pc : PC} {fi : FI} {ds : List Nat} {o : Oper} {t : TypeId} {m n x : Operand} (ho : o.op = .entryStore t m n x) : OpS P pc fi ds o := by
 have e : op pc fi ds o = op pc fi ds o := rfl
 conv at e => rhs; simp only [op, ho]
 intro r tm le s k hnb
 have e2 : (op pc fi ds o).run r tm le s k = (opd fi ds m).run tm le fun m => (opd fi ds n).run tm le fun n => (opd fi ds x).run tm le fun x => xEntryStore m n x s k := by rw [e]
 rw [e2] at hnb ⊢
 obtain ⟨u1, h1, h2⟩ := opd_ok fi ds m tm le _ hnb
 rw [← h1] at hnb ⊢
 obtain ⟨u2, h3, h4⟩ := opd_ok fi ds n tm le _ hnb
 rw [← h3] at hnb ⊢
 obtain ⟨u3, h5, h6⟩ := opd_ok fi ds x tm le _ hnb
 rw [← h5] at hnb ⊢
 unfold xEntryStore at hnb ⊢
 cases u1 with
 | ref nn a =>
  simp only at hnb ⊢
  cases ht : Nat.beq nn 0 with
  | false => rw [ht] at hnb; exact absurd trivial hnb
  | true =>
   have := Nat.eq_of_beq_eq_true ht
   subst this
   cases u2 with
   | nat kk st =>
    simp only [ht, hget_row] at hnb ⊢
    cases hB : Tr.get B.none a s.h with
    | map es ck =>
     rw [hB] at hnb
     simp only [hset_eq] at hnb ⊢
     obtain ⟨l', g1, g2⟩ := setE_ok hnb
     rw [← g1] at hnb ⊢
     refine ⟨undef, _, rfl, fun n0 w0 ν w tmps hst hG hf => ?_⟩
     obtain ⟨b0, v1, v2⟩ := h2 ν tmps hG (hf m (by simp [ho, Op.operands]))
     have v3 := h4 ν tmps hG (hf n (by simp [ho, Op.operands]))
     have v4 := h6 ν tmps hG (hf x (by simp [ho, Op.operands]))
     simp only [VR] at v3
     obtain ⟨es', q3, q4⟩ := map_at hst.rows hB v1
     obtain ⟨i, q5, q6⟩ := g2 ν _ es'.toList v4 q4
     have hmod : (es'.modify i fun e => { e with val := ev tmps x }).toList = es'.toList.modify i (fun e => { e with val := ev tmps x }) := by
      apply List.ext_getElem?
      intro q
      rw [Array.getElem?_toList, Array.getElem?_modify, List.getElem?_modify, Array.getElem?_toList]
      by_cases hq : i = q <;> simp [hq]
     have hfind : es'.findIdx? (fun e => (e.born : Int) == (st : Int)) = some i := by rw [← q5]; cases es'; simp
     refine ⟨ν, Go.undef, _, Out.write (map_set hst hB v1 (es2 := es'.modify i fun e => { e with val := ev tmps x }) (by rw [hmod]; exact q6)) rfl (set_keep v1 _), VR.undef, .inr ⟨rfl, ?_⟩⟩
     simp [execOp, ho, Instr.entryStore, v2, v3, run_getMap q3, asInt, asIntOf, hfind, MapKept.run_setObj_map _ q3]
    | _ => rw [hB] at hnb; exact absurd trivial hnb
   | _ => exact absurd trivial hnb
 | _ => exact absurd trivial hnb
theorem freshB_ok {n : Nat} : ∀ {l : List ME}, freshB n l = true → ∀ e ∈ l, e.born ≠ n
 | [], _, e, he => by cases he
 | x :: l, h, e, he => by
  have eq : freshB n (x :: l) = (match Nat.beq n x.born with | true => false | false => freshB n l) := by
   show Bool.rec (motive := fun _ => Bool) _ _ (Nat.beq n x.born) = _
   cases Nat.beq n x.born <;> rfl
  rw [eq] at h
  cases hb : Nat.beq n x.born with
  | true => rw [hb] at h; cases h
  | false =>
   rw [hb] at h
   rcases List.mem_cons.1 he with rfl | he
   ·intro e; rw [e] at hb; simp at hb
   ·exact freshB_ok h e he
theorem bornOk_cons {ck : Nat} {x : ME} {l : List ME} (h : bornOk ck (x :: l) = true) : x.born < ck ∧ (∀ e ∈ l, e.born ≠ x.born) ∧ bornOk ck l = true := by
 have eq : bornOk ck (x :: l) = andB (Nat.blt x.born ck) (andB (freshB x.born l) (bornOk ck l)) := rfl
 rw [eq] at h
 obtain ⟨h1, h2⟩ := andB_true h
 obtain ⟨h2, h3⟩ := andB_true h2
 exact ⟨by simpa [Nat.blt_eq] using h1, freshB_ok h2, h3⟩
theorem born_lt {ck : Nat} : ∀ {l : List ME}, bornOk ck l = true → ∀ e ∈ l, e.born < ck
 | [], _, e, he => by cases he
 | x :: l, h, e, he => by
  obtain ⟨h1, _, h3⟩ := bornOk_cons h
  rcases List.mem_cons.1 he with rfl | he
  ·exact h1
  ·exact born_lt h3 e he
theorem find_born {ν : Val} {ck : Nat} : ∀ {es : List ME} {es' : List MapEntry}, bornOk ck es = true → MRs ν es es' → ∀ e ∈ es, ∃ x, es'.find? (fun y => y.born == e.born) = some x ∧ MR ν e x
 | [], _, _, _, e, he => by cases he
 | y :: es, _, h, ⟨x, r, e1, m, h3⟩, e, he => by
  subst e1
  obtain ⟨h1, h2, h4⟩ := bornOk_cons h
  rw [List.find?_cons]
  rcases List.mem_cons.1 he with rfl | he
  ·have : (x.born == e.born) = true := by rw [m.2.2]; simp
   rw [this]
   exact ⟨x, rfl, m⟩
  ·have : (x.born == e.born) = false := by rw [← m.2.2, beq_eq_false_iff_ne]; exact fun h => h2 e he h.symm
   rw [this]
   exact find_born h4 h3 e he
theorem iter_at {n0 : Nat} {w0 w : World} {ν : Val} {s : S} (hst : St P n0 w0 ν s w) {a m : K} {es rest : List ME} {ck v : Nat} {cur : Option ME} (hB : Tr.get B.none a s.h = .mit m es ck rest cur) (hM : Tr.get B.none m s.h = .map es ck) {y : Value} (hy : VR ν (.ptr a v 0) y) :
  ∃ b mb seen last es', v = 0 ∧ ν.blk a 0 = some (b, 0) ∧ y = .pointer (some ⟨b, 0, none⟩) ∧ w.heap[b]? = some (.mapIter (some mb) ck seen last) ∧ IterR es ck rest cur seen last ∧ ν.blk m 0 = some (mb, 0) ∧ w.heap[mb]? = some (.map es' ck) ∧ MRs ν es es'.toList := by
 obtain ⟨b, δ, h1, h2⟩ := hy
 have hr := hst.rows a
 rw [hB] at hr
 obtain ⟨q1, q2, mb, seen, last, q3, q4, q5⟩ := hr v b δ h1
 subst q1 q2
 obtain ⟨es', q6, q7⟩ := map_at hst.rows hM q3
 exact ⟨b, mb, seen, last, es', rfl, h1, by rw [h2], q4, q5, q3, q6, q7⟩
theorem run_getIter {w : World} {b ck last : Nat} {m : Option Nat} {seen : Array Nat} (h : w.heap[b]? = some (.mapIter m ck seen last)) : (getObj b).run P w = .ok (.mapIter m ck seen last) w := by simp [getObj, Sem.run, h]
theorem read_entry {pc : PC} {fi : FI} {ds : List Nat} {o : Oper} {x : Operand} (ho : o.op = .entry x) : OpS P pc fi ds o := by
 have e : op pc fi ds o = un fi ds x (fun x s k => xEntry x s fun v => k v s) := by simp only [op, ho]
 intro r tm le s k hnb
 rw [e, un_run] at hnb ⊢
 obtain ⟨u, h1, h2⟩ := opd_ok fi ds x tm le _ hnb
 rw [← h1] at hnb ⊢
 cases u with
 | ptr a v off =>
  unfold xEntry at hnb ⊢
  simp only at hnb ⊢
  cases hoff : Nat.beq off 0 with
  | false => rw [hoff] at hnb; exact absurd trivial hnb
  | true =>
   have hoff := Nat.eq_of_beq_eq_true hoff
   subst hoff
   simp only [hget_row] at hnb ⊢
   cases hB : Tr.get B.none a s.h with
   | mit m es ck rest cur =>
    rw [hB] at hnb
    simp only at hnb ⊢
    cases hM : Tr.get B.none m s.h with
    | map es' ck' =>
     rw [hM] at hnb
     simp only at hnb ⊢
     cases hc : andB (Nat.beq ck ck') (beqEs es es') with
     | false => rw [hc] at hnb; exact absurd trivial hnb
     | true =>
      obtain ⟨c1, c2⟩ := andB_true hc
      have c1 := Nat.eq_of_beq_eq_true c1
      have c2 := beqEs_eq c2
      subst c1 c2
      simp only [hc] at hnb ⊢
      cases cur with
      | none => exact absurd trivial hnb
      | some e0 =>
       simp only at hnb ⊢
       refine ⟨_, s, rfl, fun n0 w0 ν w tmps hst hG hf => ?_⟩
       obtain ⟨b, mb, seen, last, es', g1, g2, g3, g4, ⟨i1, i2, i3, i4, i5⟩, g5, g6, g7⟩ := iter_at hst hB hM (h2 ν tmps hG (hf x (by simp [ho, Op.operands])))
       obtain ⟨j1, j2, j3⟩ := i5 e0 rfl
       obtain ⟨y, k1, k2⟩ := find_born i1 g7 e0 j1
       have k3 : es'.find? (fun y => y.born == e0.born) = some y := by rw [← k1]; simp
       subst j3
       refine ⟨ν, .tuple #[y.key, y.val], w, Out.refl hst, VR.two k2.1 k2.2.1, .inl ?_⟩
       simp [execOp, ho, Instr.entry, g3, run_getIter g4, j2, run_getMap g6, k3]
    | _ => rw [hM] at hnb; exact absurd trivial hnb
   | _ => rw [hB] at hnb; exact absurd trivial hnb
 | _ => exact absurd trivial hnb
end Go.Ev
