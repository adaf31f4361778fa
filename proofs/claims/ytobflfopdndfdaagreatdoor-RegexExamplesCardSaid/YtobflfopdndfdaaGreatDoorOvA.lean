/- The evaluator, run on unknown arguments: laws of its steps, contracts of calls and of loops, any world as its state. No statement of the seat stands here. No condition. By an AI agent. -/
import Derived.Test.YtobflfopdndfdaaGreatDoorEvG
import Derived.KernelRfl
import Derived.Deep.SlicePairs
import Derived.ChangeSlices
import Derived.Carry
namespace Go.Ev
def subC : List Nat → Code → Code
 | [], c => c
 | 0 :: p, .seq a _ => subC p a
 | _ :: p, .seq _ b => subC p b
 | 0 :: p, .cond _ a _ => subC p a
 | _ :: p, .cond _ _ b => subC p b
 | _ :: p, .block _ c => subC p c
 | _ :: p, .loop c => subC p c
 | _ :: p, .scope c => subC p c
 | _, c => c
def regOps : Code → List Oper
 | .region _ l _ => l.toList
 | _ => []
noncomputable def stepO (pc : PC) (fi : FI) (all : List Oper) (o : Oper) (ds : List Nat) (g : LoC) : LoC := guardC fi ds all o (putC fi o (op pc fi ds o) g) (skipC fi o g)
noncomputable def opsTo (pc : PC) (fi : FI) (all : List Oper) : List Oper → List Nat → LoC → LoC
 | [], _, g => g
 | o :: os, ds, g => stepO pc fi all o ds (opsTo pc fi all os (push o ds) g)
noncomputable def dopsTo (pc : PC) (fi : FI) (all : List Oper) : List (Bool × Nat) → List Nat → LoC → LoC
 | [], _, g => g
 | (again, i) :: l, ds, g => match all[i]? with
  | none => ⟨fun _ _ _ _ => .bad 196⟩
  | some o => match again with
   | false => stepO pc fi all o ds (dopsTo pc fi all l (push o ds) g)
   | true => guardC fi ds all o (againC fi ds o (op pc fi ds o) (dopsTo pc fi all l ds g)) (dopsTo pc fi all l ds g)
def LoC.eta (q : LoC) : LoC := ⟨fun r tm le s => q.run r tm le s⟩
def nilL : LoC := ⟨fun _ tm _ s => .nrm tm s⟩
@[simp] theorem nilL_run (r : R) (tm : T) (le : List V) (s : S) : nilL.run r tm le s = .nrm tm s := rfl
def pushes : List Oper → List Nat → List Nat
 | [], ds => ds
 | o :: os, ds => pushes os (push o ds)
def dpushes (all : List Oper) : List (Bool × Nat) → List Nat → List Nat
 | [], ds => ds
 | (again, i) :: l, ds => match all[i]? with
  | none => dpushes all l ds
  | some o => match again with
   | false => dpushes all l (push o ds)
   | true => dpushes all l ds
def regPlain : Code → Bool
 | .region _ l false => (match l.toList with | o :: _ => (match mapNext o with | some _ => false | none => true) | [] => true)
 | _ => false
def regDraw (mixed : Bool) : Code → Bool
 | .region _ l true => mixed && drawOk l.toList (masks l.toList []) (l.toList.map kindOf) (drawSteps l.toList)
 | _ => false
theorem ops_eq (pc : PC) (fi : FI) (all : List Oper) : ∀ (l : List Oper) (ds : List Nat), ops pc fi all l ds = opsTo pc fi all l ds nilL
 | [], _ => rfl
 | o :: os, ds => by
  show (match ops pc fi all os (push o ds) with | ⟨g⟩ => guardC fi ds all o (putC fi o (op pc fi ds o) ⟨g⟩) (skipC fi o ⟨g⟩)) = stepO pc fi all o ds (opsTo pc fi all os (push o ds) nilL)
  rw [← ops_eq pc fi all os (push o ds)]; rfl
theorem dops_eq (pc : PC) (fi : FI) (all : List Oper) : ∀ (l : List (Bool × Nat)) (ds : List Nat), dops pc fi all l ds = dopsTo pc fi all l ds nilL
 | [], _ => rfl
 | (again, i) :: l, ds => by
  have h1 := dops_eq pc fi all l ds
  unfold dops dopsTo
  cases e : all[i]? with
  | none => rfl
  | some o =>
   cases again with
   | false =>
    have h2 := dops_eq pc fi all l (push o ds)
    show (match dops pc fi all l (push o ds) with | ⟨g⟩ => guardC fi ds all o (putC fi o (op pc fi ds o) ⟨g⟩) (skipC fi o ⟨g⟩)) = stepO pc fi all o ds (dopsTo pc fi all l (push o ds) nilL)
    rw [← h2]; rfl
   | true =>
    show (match dops pc fi all l ds with | ⟨g⟩ => guardC fi ds all o (againC fi ds o (op pc fi ds o) ⟨g⟩) ⟨g⟩) = guardC fi ds all o (againC fi ds o (op pc fi ds o) (dopsTo pc fi all l ds nilL)) (dopsTo pc fi all l ds nilL)
    rw [← h1]
theorem opsTo_app (pc : PC) (fi : FI) (all : List Oper) (g : LoC) (b : List Oper) : ∀ (a : List Oper) (ds : List Nat), opsTo pc fi all (a ++ b) ds g = opsTo pc fi all a ds (opsTo pc fi all b (pushes a ds) g)
 | [], _ => rfl
 | o :: os, ds => by
  show stepO pc fi all o ds (opsTo pc fi all (os ++ b) (push o ds) g) = stepO pc fi all o ds (opsTo pc fi all os (push o ds) (opsTo pc fi all b (pushes os (push o ds)) g))
  rw [opsTo_app pc fi all g b os (push o ds)]
theorem dopsTo_app (pc : PC) (fi : FI) (all : List Oper) (g : LoC) (b : List (Bool × Nat)) : ∀ (a : List (Bool × Nat)) (ds : List Nat), dopsTo pc fi all (a ++ b) ds g = dopsTo pc fi all a ds (dopsTo pc fi all b (dpushes all a ds) g)
 | [], _ => rfl
 | (again, i) :: l, ds => by
  have h1 := dopsTo_app pc fi all g b l ds
  show dopsTo pc fi all ((again, i) :: (l ++ b)) ds g = _
  unfold dopsTo dpushes
  cases e : all[i]? with
  | none => rfl
  | some o =>
   have h2 := dopsTo_app pc fi all g b l (push o ds)
   cases again with
   | false => simp only [h2]
   | true => simp only [h1]
theorem chain_end (pc : PC) (fi : FI) (all L : List Oper) (ds : List Nat) (b : Nat) (h : (L.drop b).isEmpty = true) : opsTo pc fi all (L.drop b) ds nilL = nilL := by
 rw [List.isEmpty_iff.1 h]; rfl
theorem chain_step (pc : PC) (fi : FI) (all L : List Oper) (ds ds' : List Nat) (b n e : Nat) {q : LoC} (he : b + n = e) (hd : pushes ((L.drop b).take n) ds = ds') (h : opsTo pc fi all (L.drop e) ds' nilL = q) :
  opsTo pc fi all (L.drop b) ds nilL = opsTo pc fi all ((L.drop b).take n) ds q.eta := by
 show _ = opsTo pc fi all _ ds q
 subst he hd h
 rw [← opsTo_app, ← List.drop_drop, List.take_append_drop]
theorem dchain_end (pc : PC) (fi : FI) (all : List Oper) (L : List (Bool × Nat)) (ds : List Nat) (b : Nat) (h : (L.drop b).isEmpty = true) : dopsTo pc fi all (L.drop b) ds nilL = nilL := by
 rw [List.isEmpty_iff.1 h]; rfl
theorem dchain_step (pc : PC) (fi : FI) (all : List Oper) (L : List (Bool × Nat)) (ds ds' : List Nat) (b n e : Nat) {q : LoC} (he : b + n = e) (hd : dpushes all ((L.drop b).take n) ds = ds') (h : dopsTo pc fi all (L.drop e) ds' nilL = q) :
  dopsTo pc fi all (L.drop b) ds nilL = dopsTo pc fi all ((L.drop b).take n) ds q := by
 subst he hd h
 rw [← dopsTo_app, ← List.drop_drop, List.take_append_drop]
theorem regionC_plain (pc : PC) (fi : FI) (l : List Oper) (h : (match l with | o :: _ => (match mapNext o with | some _ => false | none => true) | [] => true) = true) : regionC pc fi false l = ops pc fi l l [] := by
 cases l with
 | nil => rfl
 | cons o os =>
  show (match mapNext o with
   | some x => nextC fi x o (ops pc fi (o :: os) os (push o []))
   | none => ops pc fi (o :: os) (o :: os) []) = _
  cases e : mapNext o with
  | none => rfl
  | some x => simp only [e] at h; cases h
theorem regionC_draw (pc : PC) (fi : FI) (l : List Oper) (h : (pc.mixed && drawOk l (masks l []) (l.map kindOf) (drawSteps l)) = true) : regionC pc fi true l = ⟨fun r tm le s => (dops pc fi l (drawSteps l) []).run r.det tm le s⟩ := by
 show (match pc.mixed && drawOk l (masks l []) (l.map kindOf) (drawSteps l) with
  | true => (match dops pc fi l (drawSteps l) [] with | ⟨f⟩ => (⟨fun r tm le s => f r.det tm le s⟩ : LoC))
  | false => ⟨fun _ _ _ _ => .bad 197⟩) = _
 rw [h]
theorem region_run (pc : PC) (fi : FI) (c : Code) {q : LoC} (hc : regPlain c = true) (h : opsTo pc fi (regOps c) ((regOps c).drop 0) [] nilL = q) (r : R) (tm : T) (s : S) : (comp pc fi c).run r tm s = q.run r tm [] s := by
 subst h
 match c, hc with
 | .region _ l false, hc =>
  show (match regionC pc fi false l.toList with | ⟨f⟩ => (⟨fun r tm s => f r tm [] s⟩ : CoC)).run r tm s = _
  rw [regionC_plain pc fi l.toList hc, ops_eq]; rfl
theorem region_drun (pc : PC) (fi : FI) (c : Code) {q : LoC} (hc : regDraw pc.mixed c = true) (h : dopsTo pc fi (regOps c) ((drawSteps (regOps c)).drop 0) [] nilL = q) (r : R) (tm : T) (s : S) : (comp pc fi c).run r tm s = q.run r.det tm [] s := by
 subst h
 match c, hc with
 | .region _ l true, hc =>
  show (match regionC pc fi true l.toList with | ⟨f⟩ => (⟨fun r tm s => f r tm [] s⟩ : CoC)).run r tm s = _
  rw [regionC_draw pc fi l.toList hc, dops_eq]; rfl
noncomputable def qOf (pc : PC) (fi : FI) (u : Code) (b n : Nat) (ds : List Nat) (g : LoC) : LoC := opsTo pc fi (regOps u) (((regOps u).drop b).take n) ds g.eta
noncomputable def dqOf (pc : PC) (fi : FI) (u : Code) (b n : Nat) (ds : List Nat) (g : LoC) : LoC := dopsTo pc fi (regOps u) (((drawSteps (regOps u)).drop b).take n) ds g.eta
def Ch (pc : PC) (fi : FI) (u : Code) (b : Nat) (ds : List Nat) (q : LoC) : Prop := opsTo pc fi (regOps u) ((regOps u).drop b) ds nilL = q
def DCh (pc : PC) (fi : FI) (u : Code) (b : Nat) (ds : List Nat) (q : LoC) : Prop := dopsTo pc fi (regOps u) ((drawSteps (regOps u)).drop b) ds nilL = q
theorem chE {pc : PC} {fi : FI} {u : Code} {ds : List Nat} {b : Nat} (h : ((regOps u).drop b).isEmpty = true) : Ch pc fi u b ds nilL := chain_end pc fi _ _ ds b h
theorem dchE {pc : PC} {fi : FI} {u : Code} {ds : List Nat} {b : Nat} (h : ((drawSteps (regOps u)).drop b).isEmpty = true) : DCh pc fi u b ds nilL := dchain_end pc fi _ _ ds b h
theorem chS {pc : PC} {fi : FI} {u : Code} {ds ds' : List Nat} {b n e : Nat} {q : LoC} (he : b + n = e) (hd : pushes (((regOps u).drop b).take n) ds = ds') (h : Ch pc fi u e ds' q) : Ch pc fi u b ds (qOf pc fi u b n ds q) := chain_step pc fi _ _ ds ds' b n e he hd h
theorem dchS {pc : PC} {fi : FI} {u : Code} {ds ds' : List Nat} {b n e : Nat} {q : LoC} (he : b + n = e) (hd : dpushes (regOps u) (((drawSteps (regOps u)).drop b).take n) ds = ds') (h : DCh pc fi u e ds' q) : DCh pc fi u b ds (dqOf pc fi u b n ds q) := dchain_step pc fi _ _ ds ds' b n e he hd h
theorem reg_run {pc : PC} {fi : FI} {u : Code} {q : LoC} (hc : regPlain u = true) (h : Ch pc fi u 0 [] q) (r : R) (s : S) (tm : T) : (comp pc fi u).run r tm s = q.run r tm [] s := region_run pc fi u hc h r tm s
theorem reg_drun {pc : PC} {fi : FI} {u : Code} {q : LoC} (hc : regDraw pc.mixed u = true) (h : DCh pc fi u 0 [] q) (r : R) (s : S) (tm : T) : (comp pc fi u).run r tm s = q.run r.det tm [] s := region_drun pc fi u hc h r tm s
theorem chL {pc : PC} {fi : FI} {u : Code} {ds : List Nat} {b n : Nat} (hc : ((regOps u).drop (b + n)).isEmpty = true := by kernel_rfl) : Ch pc fi u b ds (qOf pc fi u b n ds nilL) := chS rfl rfl (chE hc)
theorem dchL {pc : PC} {fi : FI} {u : Code} {ds : List Nat} {b n : Nat} (hc : ((drawSteps (regOps u)).drop (b + n)).isEmpty = true := by kernel_rfl) : DCh pc fi u b ds (dqOf pc fi u b n ds nilL) := dchS rfl rfl (dchE hc)
theorem reg1 {pc : PC} {fi : FI} {u : Code} (n : Nat) {f : R → T → S → A} (hc : (regPlain u && ((regOps u).drop n).isEmpty) = true := by kernel_rfl) (h : ∀ r s tm, (qOf pc fi u 0 n [] nilL).run r tm [] s = f r tm s := by intros; kernel_rfl) : ∀ r s tm, (comp pc fi u).run r tm s = f r tm s := fun r s tm => by
 rw [Bool.and_eq_true] at hc
 rw [← h]
 exact reg_run hc.1 (chS (Nat.zero_add n) rfl (chE hc.2)) r s tm
theorem dreg1 {pc : PC} {fi : FI} {u : Code} (n : Nat) {f : R → T → S → A} (hc : (regDraw pc.mixed u && ((drawSteps (regOps u)).drop n).isEmpty) = true := by kernel_rfl) (h : ∀ r s tm, (dqOf pc fi u 0 n [] nilL).run r.det tm [] s = f r tm s := by intros; kernel_rfl) : ∀ r s tm, (comp pc fi u).run r tm s = f r tm s := fun r s tm => by
 rw [Bool.and_eq_true] at hc
 rw [← h]
 exact reg_drun hc.1 (dchS (Nat.zero_add n) rfl (dchE hc.2)) r s tm
def sizeC : Code → Nat
 | .seq a b => sizeC a + sizeC b + 1
 | .cond _ a b => sizeC a + sizeC b + 1
 | .block _ a => sizeC a + 1
 | .loop a => sizeC a + 1
 | .scope a => sizeC a + 1
 | .rangeFunc _ _ a b => sizeC a + sizeC b + 1
 | .region _ l _ => l.size + 1
 | _ => 1
def bodyOf (P : Program) (f : Nat) : Code := ((P.funcs[f]?).bind (·.body)).getD .skip
def resOf (P : Program) (f : Nat) : List ResultVar := ((P.funcs[f]?).map (·.results.toList)).getD []
def N.nth {α : Type} (n : N α) (i : Nat) : α := match i with
 | 0 => n.a0 | 1 => n.a1 | 2 => n.a2 | 3 => n.a3 | 4 => n.a4 | 5 => n.a5 | 6 => n.a6 | 7 => n.a7 | 8 => n.a8 | 9 => n.a9 | 10 => n.a10 | 11 => n.a11 | 12 => n.a12 | 13 => n.a13 | 14 => n.a14 | _ => n.a15
def N.upd {α : Type} (n : N α) (i : Nat) (x : α) : N α := match i with
 | 0 => ⟨x, n.a1, n.a2, n.a3, n.a4, n.a5, n.a6, n.a7, n.a8, n.a9, n.a10, n.a11, n.a12, n.a13, n.a14, n.a15⟩
 | 1 => ⟨n.a0, x, n.a2, n.a3, n.a4, n.a5, n.a6, n.a7, n.a8, n.a9, n.a10, n.a11, n.a12, n.a13, n.a14, n.a15⟩
 | 2 => ⟨n.a0, n.a1, x, n.a3, n.a4, n.a5, n.a6, n.a7, n.a8, n.a9, n.a10, n.a11, n.a12, n.a13, n.a14, n.a15⟩
 | 3 => ⟨n.a0, n.a1, n.a2, x, n.a4, n.a5, n.a6, n.a7, n.a8, n.a9, n.a10, n.a11, n.a12, n.a13, n.a14, n.a15⟩
 | 4 => ⟨n.a0, n.a1, n.a2, n.a3, x, n.a5, n.a6, n.a7, n.a8, n.a9, n.a10, n.a11, n.a12, n.a13, n.a14, n.a15⟩
 | 5 => ⟨n.a0, n.a1, n.a2, n.a3, n.a4, x, n.a6, n.a7, n.a8, n.a9, n.a10, n.a11, n.a12, n.a13, n.a14, n.a15⟩
 | 6 => ⟨n.a0, n.a1, n.a2, n.a3, n.a4, n.a5, x, n.a7, n.a8, n.a9, n.a10, n.a11, n.a12, n.a13, n.a14, n.a15⟩
 | 7 => ⟨n.a0, n.a1, n.a2, n.a3, n.a4, n.a5, n.a6, x, n.a8, n.a9, n.a10, n.a11, n.a12, n.a13, n.a14, n.a15⟩
 | 8 => ⟨n.a0, n.a1, n.a2, n.a3, n.a4, n.a5, n.a6, n.a7, x, n.a9, n.a10, n.a11, n.a12, n.a13, n.a14, n.a15⟩
 | 9 => ⟨n.a0, n.a1, n.a2, n.a3, n.a4, n.a5, n.a6, n.a7, n.a8, x, n.a10, n.a11, n.a12, n.a13, n.a14, n.a15⟩
 | 10 => ⟨n.a0, n.a1, n.a2, n.a3, n.a4, n.a5, n.a6, n.a7, n.a8, n.a9, x, n.a11, n.a12, n.a13, n.a14, n.a15⟩
 | 11 => ⟨n.a0, n.a1, n.a2, n.a3, n.a4, n.a5, n.a6, n.a7, n.a8, n.a9, n.a10, x, n.a12, n.a13, n.a14, n.a15⟩
 | 12 => ⟨n.a0, n.a1, n.a2, n.a3, n.a4, n.a5, n.a6, n.a7, n.a8, n.a9, n.a10, n.a11, x, n.a13, n.a14, n.a15⟩
 | 13 => ⟨n.a0, n.a1, n.a2, n.a3, n.a4, n.a5, n.a6, n.a7, n.a8, n.a9, n.a10, n.a11, n.a12, x, n.a14, n.a15⟩
 | 14 => ⟨n.a0, n.a1, n.a2, n.a3, n.a4, n.a5, n.a6, n.a7, n.a8, n.a9, n.a10, n.a11, n.a12, n.a13, x, n.a15⟩
 | _ => ⟨n.a0, n.a1, n.a2, n.a3, n.a4, n.a5, n.a6, n.a7, n.a8, n.a9, n.a10, n.a11, n.a12, n.a13, n.a14, x⟩
def gp (i : Nat) (t : T) : V := (t.nth (i / 16)).nth (i % 16)
def sp (i : Nat) (v : V) (t : T) : T := t.upd (i / 16) ((t.nth (i / 16)).upd (i % 16) v)
noncomputable def condV (v : V) (a b : A) : A := V.rec (motive_1 := fun _ => A) (motive_2 := fun _ => Unit) (.bad 173) (fun _ _ => .bad 173) (fun _ _ => .bad 173) (fun b' => Bool.rec (motive := fun _ => A) b a b') (fun _ => .bad 173) (fun _ _ _ => .bad 173) (fun _ _ _ _ _ => .bad 173) (fun _ _ _ _ _ => .bad 173) (fun _ => .bad 173) (fun _ _ => .bad 173) (fun _ _ _ => .bad 173) (fun _ _ _ _ _ => .bad 173) (fun _ _ _ => .bad 173) () (fun _ _ _ _ => ()) v
noncomputable def boolA (b : Bool) (x y : A) : A := Bool.rec (motive := fun _ => A) y x b
noncomputable def seqA (f : T → S → A) (a : A) : A := bindA f (fun i tm s => .ext i tm s) (fun tm s => .ret tm s) a
noncomputable def blockA (id : Nat) (a : A) : A := normA (bindA (fun tm s => .nrm tm s) (fun i tm s => boolA (Nat.beq i id) (.nrm tm s) (.ext i tm s)) (fun tm s => .ret tm s) a)
noncomputable def finV (v : V) (x : A) : A := V.rec (motive_1 := fun _ => A) (motive_2 := fun _ => Unit) x (fun _ _ => .bad 188) (fun _ _ => .bad 188) (fun _ => .bad 188) (fun _ => .bad 188) (fun _ _ _ => .bad 188) (fun _ _ _ _ _ => .bad 188) (fun _ _ _ _ _ => .bad 188) (fun _ => .bad 188) (fun _ _ => .bad 188) (fun _ _ _ => .bad 188) (fun _ _ _ _ _ => .bad 188) (fun _ _ _ => .bad 188) () (fun _ _ _ _ => ()) v
noncomputable def xMakeMap (x : V) (s : S) (k : V → S → A) : A := V.rec (motive_1 := fun _ => A) (motive_2 := fun _ => Unit) (.bad 146) (fun _ _ => hnew s (.map [] 0) (fun a s => k (.ref 0 a) s)) (fun _ _ => .bad 146) (fun _ => .bad 146) (fun _ => .bad 146) (fun _ _ _ => .bad 146) (fun _ _ _ _ _ => .bad 146) (fun _ _ _ _ _ => .bad 146) (fun _ => .bad 146) (fun _ _ => .bad 146) (fun _ _ _ => .bad 146) (fun _ _ _ _ _ => .bad 146) (fun _ _ _ => .bad 146) () (fun _ _ _ _ => ()) x
end Go.Ev

namespace Go.Ev
section
variable {α : Type}
theorem N.nth_upd (n : N α) (i j : Nat) (x : α) (hi : i < 16) (hj : j < 16) : (n.upd i x).nth j = if j = i then x else n.nth j := by
 have h1 : i = 0 ∨ i = 1 ∨ i = 2 ∨ i = 3 ∨ i = 4 ∨ i = 5 ∨ i = 6 ∨ i = 7 ∨ i = 8 ∨ i = 9 ∨ i = 10 ∨ i = 11 ∨ i = 12 ∨ i = 13 ∨ i = 14 ∨ i = 15 := by omega
 have h2 : j = 0 ∨ j = 1 ∨ j = 2 ∨ j = 3 ∨ j = 4 ∨ j = 5 ∨ j = 6 ∨ j = 7 ∨ j = 8 ∨ j = 9 ∨ j = 10 ∨ j = 11 ∨ j = 12 ∨ j = 13 ∨ j = 14 ∨ j = 15 := by omega
 rcases h1 with rfl | rfl | rfl | rfl | rfl | rfl | rfl | rfl | rfl | rfl | rfl | rfl | rfl | rfl | rfl | rfl <;>
  rcases h2 with rfl | rfl | rfl | rfl | rfl | rfl | rfl | rfl | rfl | rfl | rfl | rfl | rfl | rfl | rfl | rfl <;> rfl
end
theorem gp_sp (i j : Nat) (v : V) (t : T) (hi : i < 256) (hj : j < 256) : gp i (sp j v t) = if i = j then v else gp i t := by
 unfold gp sp
 rw [N.nth_upd _ _ _ _ (by omega) (by omega)]
 by_cases h : i / 16 = j / 16
 ·rw [if_pos h, N.nth_upd _ _ _ _ (by omega) (by omega)]
  by_cases h2 : i % 16 = j % 16
  ·rw [if_pos h2, if_pos (by omega)]
  ·rw [if_neg h2, if_neg (by omega), h]
 ·rw [if_neg h, if_neg (by omega)]
theorem nth_empty {α : Type} (x : α) (d : Nat) (e : N α) (he : e = .mk x x x x x x x x x x x x x x x x) : e.nth d = x := by
 subst he
 unfold N.nth
 split <;> rfl
@[simp] theorem gp_new (i : Nat) : gp i T.new = .bad := by
  unfold gp T.new
  rw [nth_empty (emptyN .bad) _ (empty2 (emptyN .bad)) rfl]
  exact nth_empty _ _ _ rfl
@[simp] theorem seqA_nrm (f : T → S → A) (tm : T) (s : S) : seqA f (.nrm tm s) = f tm s := rfl
@[simp] theorem seqA_ext (f : T → S → A) (i : Nat) (tm : T) (s : S) : seqA f (.ext i tm s) = .ext i tm s := rfl
@[simp] theorem seqA_ret (f : T → S → A) (tm : T) (s : S) : seqA f (.ret tm s) = .ret tm s := rfl
@[simp] theorem blockA_nrm (i : Nat) (tm : T) (s : S) : blockA i (.nrm tm s) = .nrm tm s := rfl
@[simp] theorem blockA_ret (i : Nat) (tm : T) (s : S) : blockA i (.ret tm s) = .ret tm s := rfl
theorem blockA_ext (i j : Nat) (tm : T) (s : S) : blockA i (.ext j tm s) = if j = i then .nrm tm s else .ext j tm s := by
 show normA (boolA (Nat.beq j i) (.nrm tm s) (.ext j tm s)) = _
 by_cases h : j = i
 ·subst h; rw [if_pos rfl]; simp [boolA]; rfl
 ·have : Nat.beq j i = false := by cases e : Nat.beq j i with | true => exact absurd (Nat.eq_of_beq_eq_true e) h | false => rfl
  rw [if_neg h, this]; rfl
@[simp] theorem boolA_t (x y : A) : boolA true x y = x := rfl
@[simp] theorem boolA_f (x y : A) : boolA false x y = y := rfl
@[simp] theorem condV_b (b : Bool) (x y : A) : condV (.bool b) x y = if b = true then x else y := by cases b <;> rfl
@[simp] theorem xPick_b (b : Bool) (x y : Unit → A) : xPick (.bool b) x y = if b = true then x () else y () := by cases b <;> rfl
@[simp] theorem finV_bad (x : A) : finV .bad x = x := rfl
@[simp] theorem bindR_nrm (f : T → S → A) (tm : T) (s : S) : bindR f (.nrm tm s) = f tm s := rfl
@[simp] theorem bindR_ret (f : T → S → A) (tm : T) (s : S) : bindR f (.ret tm s) = f tm s := rfl
@[simp] theorem outF_fin (v : V) (s : S) : outF (.fin v s) = .ret v s := rfl
@[simp] theorem resV_1 (v : V) (s : S) : resV [v] s = .fin v s := rfl
@[simp] theorem resV_2 (v u : V) (s : S) : resV [v, u] s = .fin (.ls 1 [v, u]) s := rfl
@[simp] theorem resV_3 (v u x : V) (s : S) : resV [v, u, x] s = .fin (.ls 1 [v, u, x]) s := rfl
@[simp] theorem resV_0 (s : S) : resV [] s = .fin undef s := rfl
@[simp] theorem foldF_ret (v : V) (s : S) (k : V → S → A) : foldF (.ret v s) k = k v s := rfl
theorem det_call (r : R) (f : Nat) (args : List V) (s : S) : r.det.call f args s = oneF (r.call f args s) := rfl
@[simp] theorem oneF_ret (v : V) (s : S) : oneF (.ret v s) = .ret v s := rfl
theorem det_code (r : R) : r.det.code = r.code := rfl
theorem nat_iv (k : IntKind) (n : Nat) : V.nat k n = iv k (n : Int) := rfl
theorem neg_iv (k : IntKind) (n : Nat) : V.neg k n = iv k (Int.negSucc n) := rfl
theorem kbeq_refl (k : IntKind) : kbeq k k = true := by cases k <;> rfl
theorem blt_decide (a b : Nat) : Nat.blt a b = decide (a < b) := by rw [Bool.eq_iff_iff]; simp [Nat.blt_eq]
theorem ble_decide (a b : Nat) : Nat.ble a b = decide (a ≤ b) := by rw [Bool.eq_iff_iff]; simp
section
variable (q : EK) (cst : Bool) (k : IntKind) (c : V → A)
theorem xBin_nn (op : BinOp) (a b : Nat) : xBin q cst op (.nat k a) (.nat k b) c = natOp op k a b c := by
 show (Bool.rec (motive := fun _ => A) _ _ (kbeq k k) : A) = _
 rw [kbeq_refl]
theorem xBin_np (op : BinOp) (a b : Nat) : xBin q cst op (.nat k a) (.neg k b) c = mixOp op k false (.nat k a) (.neg k b) c := by
 show (Bool.rec (motive := fun _ => A) _ _ (kbeq k k) : A) = _
 rw [kbeq_refl]
theorem xBin_pn (op : BinOp) (a b : Nat) : xBin q cst op (.neg k a) (.nat k b) c = mixOp op k true (.neg k a) (.nat k b) c := by
 show (Bool.rec (motive := fun _ => A) _ _ (kbeq k k) : A) = _
 rw [kbeq_refl]
theorem xBin_pp (op : BinOp) (a b : Nat) : xBin q cst op (.neg k a) (.neg k b) c = negOp op k a b c := by
 show (Bool.rec (motive := fun _ => A) _ _ (kbeq k k) : A) = _
 rw [kbeq_refl]
private theorem cmpI {p : Bool} {r : Prop} [Decidable r] (h : p = true ↔ r) : fB p c = c (.bool (decide r)) := by
 rw [fB_eq]; congr 2; rw [Bool.eq_iff_iff]; simpa using h
theorem lss_ii (a b : Int) : xBin q cst .lss (iv k a) (iv k b) c = c (.bool (decide (a < b))) := by
 cases a <;> cases b <;> simp only [iv]
 ·rw [xBin_nn]; exact cmpI c (by simp [Nat.blt_eq])
 ·rw [xBin_np]; exact cmpI c (p := false) (by simp; omega)
 ·rw [xBin_pn]; exact cmpI c (p := true) (by simp; omega)
 ·rw [xBin_pp]; exact cmpI c (by rw [Nat.blt_eq]; omega)
theorem leq_ii (a b : Int) : xBin q cst .leq (iv k a) (iv k b) c = c (.bool (decide (a ≤ b))) := by
 cases a <;> cases b <;> simp only [iv]
 ·rw [xBin_nn]; exact cmpI c (by simp)
 ·rw [xBin_np]; exact cmpI c (p := false) (by simp; omega)
 ·rw [xBin_pn]; exact cmpI c (p := true) (by simp; omega)
 ·rw [xBin_pp]; exact cmpI c (by rw [Nat.ble_eq]; omega)
theorem gtr_ii (a b : Int) : xBin q cst .gtr (iv k a) (iv k b) c = c (.bool (decide (b < a))) := by
 cases a <;> cases b <;> simp only [iv]
 ·rw [xBin_nn]; exact cmpI c (by simp [Nat.blt_eq])
 ·rw [xBin_np]; exact cmpI c (p := true) (by simp; omega)
 ·rw [xBin_pn]; exact cmpI c (p := false) (by simp; omega)
 ·rw [xBin_pp]; exact cmpI c (by rw [Nat.blt_eq]; omega)
theorem geq_ii (a b : Int) : xBin q cst .geq (iv k a) (iv k b) c = c (.bool (decide (b ≤ a))) := by
 cases a <;> cases b <;> simp only [iv]
 ·rw [xBin_nn]; exact cmpI c (by simp)
 ·rw [xBin_np]; exact cmpI c (p := true) (by simp; omega)
 ·rw [xBin_pn]; exact cmpI c (p := false) (by simp; omega)
 ·rw [xBin_pp]; exact cmpI c (by rw [Nat.ble_eq]; omega)
theorem eql_ii (a b : Int) : xBin q cst .eql (iv k a) (iv k b) c = c (.bool (decide (a = b))) := by
 cases a <;> cases b <;> simp only [iv]
 ·rw [xBin_nn]; exact cmpI c (by rw [Nat.beq_eq]; simp; omega)
 ·rw [xBin_np]; show c (.bool false) = _; congr 2
 ·rw [xBin_pn]; show c (.bool false) = _; congr 2
 ·rw [xBin_pp]; exact cmpI c (by rw [Nat.beq_eq]; constructor <;> intro h <;> first | (subst h; rfl) | (injection h with h; exact h.symm))
theorem neq_ii (a b : Int) : xBin q cst .neq (iv k a) (iv k b) c = c (.bool (!decide (a = b))) := by
 cases a <;> cases b <;> simp only [iv]
 ·rw [xBin_nn]; show fB (notB (Nat.beq _ _)) c = _; rw [fB_eq, notB_eq]; congr 3; rw [Bool.eq_iff_iff, Nat.beq_eq]; simp; omega
 ·rw [xBin_np]; show c (.bool true) = _; congr 2
 ·rw [xBin_pn]; show c (.bool true) = _; congr 2
 ·rw [xBin_pp]; show fB (notB (Nat.beq _ _)) c = _; rw [fB_eq, notB_eq]; congr 3; rw [Bool.eq_iff_iff, Nat.beq_eq]; simp; omega
theorem add_ii (a b : Int) : xBin q cst .add (iv k a) (iv k b) c = c (iv k (k.wrap (a + b))) := by
 cases a <;> cases b <;> simp only [iv]
 ·rw [xBin_nn]; show natR k _ c = _; rw [natR_eq]; rfl
 ·rw [xBin_np]; exact wrapV_eq k _ c
 ·rw [xBin_pn]; exact wrapV_eq k _ c
 ·rw [xBin_pp]; exact wrapV_eq k _ c
theorem sub_ii (a b : Int) : xBin q cst .sub (iv k a) (iv k b) c = c (iv k (k.wrap (a - b))) := by
 cases a <;> cases b <;> simp only [iv]
 ·rename_i m n
  rw [xBin_nn]
  show (Bool.rec (motive := fun _ => A) (wrapV k (Int.sub (Int.ofNat m) (Int.ofNat n)) c) (natR k (Nat.sub m n) c) (Nat.ble n m) : A) = _
  cases h : Nat.ble n m with
  | true =>
   have hle : n ≤ m := Nat.le_of_ble_eq_true h
   show natR k _ c = _
   rw [natR_eq]
   have : Int.ofNat (Nat.sub m n) = Int.ofNat m - Int.ofNat n := by
    show ((m - n : Nat) : Int) = (m : Int) - (n : Int)
    omega
   rw [this]; rfl
  | false => exact wrapV_eq k _ c
 ·rw [xBin_np]; exact wrapV_eq k _ c
 ·rw [xBin_pn]; exact wrapV_eq k _ c
 ·rw [xBin_pp]; exact wrapV_eq k _ c
end
theorem wrap64 {z : Int} (h : -9223372036854775808 ≤ z) (h2 : z < 9223372036854775808) : IntKind.i64.wrap z = z := by
 rw [IntKind.wrap_i64]
 omega
@[simp] theorem xUn_not (b : Bool) (c : V → A) : xUn .not (.bool b) c = c (.bool (!b)) := by
  show fB (notB b) c = _
  rw [fB_eq, notB_eq]
end Go.Ev

namespace Go.Ev
open Go.RowKit
variable {P : Program}
open Classical in
noncomputable def Rq (P : Program) (Q : Nat → List V → S → V → S → Prop) (QC : FI → Code → T → S → A → Prop) : R :=
  ⟨fun fi c tm s => if h : ∃ a : A, CodeX P fi c tm s a ∧ QC fi c tm s a then h.choose else .bad 0,
   fun f args s => if h : ∃ p : V × S, CallX P f args s p.1 p.2 ∧ Q f args s p.1 p.2 then .ret h.choose.1 h.choose.2 else .bad 0⟩
theorem Rq_ok (pc : PC) (Q : Nat → List V → S → V → S → Prop) (QC : FI → Code → T → S → A → Prop) : RS P pc (Rq P Q QC) := by
 refine ⟨fun fi c tm s hnb => ?_, fun f args s hnb => ?_⟩
 ·unfold Rq at hnb ⊢
  simp only at hnb ⊢
  split at hnb
  ·rename_i h
   rw [dif_pos h]
   exact h.choose_spec.1
  ·exact absurd trivial hnb
 ·unfold Rq at hnb ⊢
  simp only at hnb ⊢
  split at hnb
  ·rename_i h
   rw [dif_pos h]
   exact h.choose_spec.1
  ·exact absurd trivial hnb
open Classical in
theorem Rq_call {Q : Nat → List V → S → V → S → Prop} {QC : FI → Code → T → S → A → Prop} {f : Nat} {args : List V} {s : S} (h : ∃ v s', CallX P f args s v s' ∧ Q f args s v s') :
  ∃ v s', (Rq P Q QC).call f args s = .ret v s' ∧ Q f args s v s' := by
 have h' : ∃ p : V × S, CallX P f args s p.1 p.2 ∧ Q f args s p.1 p.2 := by
  obtain ⟨v, s', h⟩ := h
  exact ⟨(v, s'), h⟩
 refine ⟨h'.choose.1, h'.choose.2, ?_, h'.choose_spec.2⟩
 show (if h : ∃ p : V × S, CallX P f args s p.1 p.2 ∧ Q f args s p.1 p.2 then F.ret h.choose.1 h.choose.2 else .bad 0) = _
 rw [dif_pos h']
open Classical in
theorem Rq_code {Q : Nat → List V → S → V → S → Prop} {QC : FI → Code → T → S → A → Prop} {fi : FI} {c : Code} {tm : T} {s : S} (h : ∃ a, CodeX P fi c tm s a ∧ QC fi c tm s a) :
  ∃ a, (Rq P Q QC).code fi c tm s = a ∧ QC fi c tm s a := by
 refine ⟨h.choose, ?_, h.choose_spec.2⟩
 show (if h : ∃ a, CodeX P fi c tm s a ∧ QC fi c tm s a then h.choose else .bad 0) = _
 rw [dif_pos h]
theorem fn_call {pc : PC} (hp : PcOk P pc) (hh : pc.hooks = []) {r : R} (hr : RS P pc r) {f : Nat} {args : List V} {s s' : S} {v : V} (h : (fnC pc f).run r args s = .ret v s') : CallX P f args s v s' := by
 have := fnC_ok hp hr (by rw [hh]; intro h hx; cases hx) (f := f) (args := args) (s := s) (by rw [h]; exact fun h => h)
 rw [h] at this
 exact this
theorem loop_code {pc : PC} (hp : PcOk P pc) (hh : pc.hooks = []) {r : R} (hr : RS P pc r) {fi : FI} {c : Code} {tm : T} {s : S} {a : A} (h : (comp pc fi c).run r tm s = a) (hnb : ¬ a.isBad) : CodeX P fi c tm s a := by
 have := comp_ok hp hr (by rw [hh]; intro h hx; cases hx) c tm s (by rw [h]; exact hnb)
 rw [h] at this
 exact this
theorem loop_run {pc : PC} (hp : PcOk P pc) (hh : pc.hooks = []) (Q : Nat → List V → S → V → S → Prop) (QC : FI → Code → T → S → A → Prop) {fi : FI} {c : Code} (Pre : T → S → Prop) (μ : T → S → Nat)
  (body : ∀ tm s, Pre tm s → (∀ tm' s', μ tm' s' < μ tm s → Pre tm' s' → QC fi c tm' s' ((Rq P Q QC).code fi c tm' s')) → ¬ ((comp pc fi c).run (Rq P Q QC) tm s).isBad ∧ QC fi c tm s ((comp pc fi c).run (Rq P Q QC) tm s)) :
  ∀ tm s, Pre tm s → ¬ ((comp pc fi c).run (Rq P Q QC) tm s).isBad ∧ QC fi c tm s ((comp pc fi c).run (Rq P Q QC) tm s) := by
 have key : ∀ n tm s, μ tm s = n → Pre tm s → ¬ ((comp pc fi c).run (Rq P Q QC) tm s).isBad ∧ QC fi c tm s ((comp pc fi c).run (Rq P Q QC) tm s) := by
  intro n
  induction n using Nat.strongRecOn with
  | ind n ih =>
   intro tm s e h
   refine body tm s h fun tm' s' hm hp' => ?_
   obtain ⟨h1, h2⟩ := ih (μ tm' s') (by omega) tm' s' rfl hp'
   obtain ⟨a, h3, h4⟩ := Rq_code (P := P) (Q := Q) (QC := QC) (fi := fi) (c := c) (tm := tm') (s := s') ⟨_, loop_code hp hh (Rq_ok pc Q QC) rfl h1, h2⟩
   rw [h3]; exact h4
 exact fun tm s h => key _ tm s rfl h
theorem rdOk_or {n mn v e : Nat} {gr : Bool} : rdOk n gr mn v e = true ↔ (gr = true ∧ mn ≤ v ∧ v ≤ n ∧ e ≤ v) ∨ (gr = false ∧ e ≤ n) := by
 cases gr with
 | false =>
  show Nat.ble e n = true ↔ _
  simp
 | true =>
  show (Bool.rec (motive := fun _ => Bool) false (Bool.rec (motive := fun _ => Bool) false (Nat.ble e v) (Nat.ble v n)) (Nat.ble mn v) : Bool) = true ↔ _
  cases h1 : Nat.ble mn v with
  | false => simp; intro h; rw [Nat.ble_eq_true_of_le h] at h1; cases h1
  | true =>
   cases h2 : Nat.ble v n with
   | false => simp; intro _ h; rw [Nat.ble_eq_true_of_le h] at h2; cases h2
   | true =>
    have h1 := Nat.le_of_ble_eq_true h1
    have h2 := Nat.le_of_ble_eq_true h2
    simp [h1, h2]
theorem rdOk_le {n mn v e e' : Nat} {gr : Bool} (h : rdOk n gr mn v e = true) (g : e' ≤ e) : rdOk n gr mn v e' = true := by
 rw [rdOk_or] at h ⊢
 rcases h with ⟨h1, h2, h3, h4⟩ | ⟨h1, h2⟩
 ·exact .inl ⟨h1, h2, h3, by omega⟩
 ·exact .inr ⟨h1, by omega⟩
theorem rdOk_n {n mn v e : Nat} {gr : Bool} (h : rdOk n gr mn v e = true) : e ≤ n := by
 rw [rdOk_or] at h
 rcases h with ⟨h1, h2, h3, h4⟩ | ⟨h1, h2⟩ <;> omega
def Pt (s : S) (p : V) (m : Nat) (f : Nat → V) : Prop := ∃ a w o l n el gr mn f1 f2, p = .ptr a w o ∧ Tr.get B.none a s.h = .row l n el gr mn f1 f2 ∧ l.length = n ∧ rdOk n gr mn w (o + m) = true ∧ ∀ j, j < m → l.getD (o + j) .bad = f j
def lenV (v : V) : Nat := match v with | .sl _ _ _ l _ => l | .so _ _ _ l _ => l | _ => 0
def cellsB (b : B) : List V := match b with | .row l _ _ _ _ _ _ => l | _ => []
def cellV (s : S) (v : V) (j : Nat) : V := match v with | .sl a _ o _ _ => (cellsB (Tr.get B.none a s.h)).getD (o + j) .bad | .so a _ o _ _ => (cellsB (Tr.get B.none a s.h)).getD (o + j) .bad | _ => .bad
def Sl (s : S) (sz : Nat) (v : V) : Prop := (v = .nil 1 ∨ v = .ref 1 .h) ∨ ∃ a w o len, ((∃ cap, v = .sl a w o len cap ∧ len ≤ cap) ∨ ∃ e, v = .so a w o len e) ∧ a.toNat < s.nx.toNat ∧ ∃ l n el gr mn f1 f2, Tr.get B.none a s.h = .row l n el gr mn f1 f2 ∧ l.length = n ∧ rdOk n gr mn w (o + len * sz) = true
def Fx (v : V) : Prop := match v with | .so _ _ _ _ _ => False | _ => True
theorem knownC_eq {x : V} (h : x ≠ .bad) (c : V → A) : knownC x c = c x := by
 cases x with
 | bad => exact absurd rfl h
 | _ => rfl
theorem takeK_eq (n : Nat) : ∀ (l : List V) (c : List V → A), (∀ x ∈ l.take n, x ≠ .bad) → takeK n l c = c (l.take n) := by
 induction n with
 | zero => intro l c _; show c [] = _; simp
 | succ n ih =>
  intro l c h
  cases l with
  | nil => rfl
  | cons x t =>
   have hx : x ≠ .bad := h x (by simp)
   have ht := ih t (fun r => c (x :: r)) (fun y hy => h y (by simp [hy]))
   cases x with
   | bad => exact absurd rfl hx
   | _ => exact ht
theorem iv_ne (k : IntKind) (z : Int) : iv k z ≠ .bad := by cases z <;> exact fun h => by cases h
theorem Pt.load1 {s : S} {p : V} {m : Nat} {f : Nat → V} (h : Pt s p m f) (hm : 0 < m) (hk : f 0 ≠ .bad) (k : V → S → A) : xLoad false 1 p s k = k (f 0) s := by
 obtain ⟨a, w, o, l, n, el, gr, mn, f1, f2, rfl, h1, hl, h2, h3⟩ := h
 show readCell s a w o (fun x => k x s) = _
 unfold readCell
 rw [hget_eq, h1]
 show (Bool.rec (motive := fun _ => A) _ _ (rdOk n gr mn w (Nat.succ o)) : A) = _
 rw [rdOk_le h2 (show Nat.succ o ≤ o + m by omega)]
 show nthV o l _ = _
 rw [nthV_eq]
 have := h3 0 hm
 rw [Nat.add_zero] at this
 rw [this, knownC_eq hk]
theorem cells_take {l : List V} {o sz : Nat} {f : Nat → V} (hn : o + sz ≤ l.length) (h3 : ∀ j, j < sz → l.getD (o + j) .bad = f j) : (l.drop o).take sz = (List.range sz).map f := by
 apply List.ext_getElem?
 intro i
 by_cases hi : i < sz
 ·rw [List.getElem?_take_of_lt hi, List.getElem?_drop]
  have := h3 i (by omega)
  rw [List.getD_eq_getElem?_getD] at this
  rw [List.getElem?_eq_getElem (by omega)] at this ⊢
  simp [hi] at this ⊢
  exact this
 ·rw [List.getElem?_eq_none (by simp; omega), List.getElem?_eq_none (by simp; omega)]
theorem Pt.loadN {s : S} {p : V} {m : Nat} {f : Nat → V} (h : Pt s p m f) (sz : Nat) (hm : sz ≤ m) (hk : ∀ j, j < sz → f j ≠ .bad) (k : V → S → A) : xLoad true sz p s k = k (.ls 0 ((List.range sz).map f)) s := by
 obtain ⟨a, w, o, l, n, el, gr, mn, f1, f2, rfl, h1, hl, h2, h3⟩ := h
 have hn := rdOk_n h2
 show readCells s a w o sz (fun x => k (.ls 0 x) s) = _
 unfold readCells
 rw [hget_eq, h1]
 show (Bool.rec (motive := fun _ => A) _ _ (rdOk n gr mn w (Nat.add o sz)) : A) = _
 rw [rdOk_le h2 (show Nat.add o sz ≤ o + m by show o + sz ≤ o + m; omega)]
 show dropL o l _ = _
 have e := cells_take (l := l) (o := o) (sz := sz) (f := f) (by omega) (fun j hj => h3 j (by omega))
 rw [dropL_eq, takeK_eq _ _ _ (by rw [e]; intro x hx; simp at hx; obtain ⟨j, hj, rfl⟩ := hx; exact hk j hj), e]
theorem Pt.field {s : S} {p : V} {m : Nat} {f : Nat → V} (h : Pt s p m f) (off : Nat) (ho : off ≤ m) : ∃ p', (∀ c, xFieldAddr off p c = c p') ∧ Pt s p' (m - off) (fun j => f (off + j)) := by
 obtain ⟨a, w, o, l, n, el, gr, mn, f1, f2, rfl, h1, hl, h2, h3⟩ := h
 refine ⟨.ptr a w (o + off), fun c => ?_, a, w, o + off, l, n, el, gr, mn, f1, f2, rfl, h1, hl, rdOk_le h2 (by omega), fun j hj => ?_⟩
 ·show fN (Nat.add o off) (fun o => c (V.ptr a w o)) = _
  rw [fN_eq]; rfl
 ·rw [Nat.add_assoc]; exact h3 (off + j) (by omega)
theorem Sl.len {s : S} {sz : Nat} {v : V} (h : Sl s sz v) (c : V → A) : xLenS v c = c (iv .i64 (lenV v)) := by
 rcases h with (rfl | rfl) | ⟨a, w, o, len, ⟨cap, rfl, _⟩ | ⟨e, rfl⟩, _⟩ <;> rfl
theorem Sl.idx {s : S} {sz : Nat} {v : V} (h : Sl s sz v) {i : Int} (h0 : 0 ≤ i) (hi : i < lenV v) : ∃ p, (∀ k c, xIdxAddrS sz v (iv k i) c = c p) ∧ Pt s p sz (fun j => cellV s v (i.toNat * sz + j)) := by
 obtain ⟨i, rfl⟩ := Int.eq_ofNat_of_zero_le h0
 rcases h with (rfl | rfl) | ⟨a, w, o, len, hv, _, l, n, el, gr, mn, f1, f2, h1, hl, h2⟩
 ·exact absurd hi (by simp [lenV])
 ·exact absurd hi (by simp [lenV])
 ·have hlv : lenV v = len := by rcases hv with ⟨cap, rfl, _⟩ | ⟨e, rfl⟩ <;> rfl
  have hi' : i < len := by rw [hlv] at hi; omega
  have hle : (i + 1) * sz ≤ len * sz := Nat.mul_le_mul_right _ hi'
  rw [Nat.add_mul] at hle
  refine ⟨.ptr a w (o + i * sz), fun k c => ?_, a, w, o + i * sz, l, n, el, gr, mn, f1, f2, rfl, h1, hl, rdOk_le h2 (by omega), fun j hj => ?_⟩
  ·rcases hv with ⟨cap, rfl, _⟩ | ⟨e, rfl⟩
   all_goals
    show (Bool.rec (motive := fun _ => A) _ _ (Nat.blt i len) : A) = _
    rw [show Nat.blt i len = true by rw [Nat.blt_eq]; exact hi']
    show fN (Nat.add o (Nat.mul i sz)) (fun o => c (.ptr a w o)) = _
    rw [fN_eq]; rfl
  ·rw [Nat.add_assoc]
   rcases hv with ⟨cap, rfl, _⟩ | ⟨e, rfl⟩ <;> simp [cellV, h1, cellsB]
structure Ext (s s' : S) : Prop where
 nx : s.nx.toNat ≤ s'.nx.toNat
 get : ∀ a, a.toNat < s.nx.toNat → Tr.get B.none a s'.h = Tr.get B.none a s.h
theorem Ext.refl (s : S) : Ext s s := ⟨Nat.le_refl _, fun _ _ => rfl⟩
theorem Ext.trans {a b c : S} (h : Ext a b) (k : Ext b c) : Ext a c := ⟨Nat.le_trans h.nx k.nx, fun x hx => (k.get x (Nat.lt_of_lt_of_le hx h.nx)).trans (h.get x hx)⟩
theorem Sl.ext {s s' : S} {sz : Nat} {v : V} (h : Sl s sz v) (e : Ext s s') : Sl s' sz v ∧ ∀ j, cellV s' v j = cellV s v j := by
 rcases h with (rfl | rfl) | ⟨a, w, o, len, hv, hlt, l, n, el, gr, mn, f1, f2, h1, h2⟩
 ·exact ⟨.inl (.inl rfl), fun j => rfl⟩
 ·exact ⟨.inl (.inr rfl), fun j => rfl⟩
 ·refine ⟨.inr ⟨a, w, o, len, hv, Nat.lt_of_lt_of_le hlt e.nx, l, n, el, gr, mn, f1, f2, (e.get a hlt).trans h1, h2⟩, fun j => ?_⟩
  rcases hv with ⟨cap, rfl, _⟩ | ⟨e0, rfl⟩ <;> simp [cellV, e.get a hlt]
def addB (s : S) (b : B) : S := ⟨Tr.set B.none b s.nx s.h, s.nx.succ⟩
theorem ext_addB (s : S) (b : B) : Ext s (addB s b) := ⟨by show s.nx.toNat ≤ s.nx.succ.toNat; rw [K.toNat_succ]; omega, fun a ha => by
 show Tr.get B.none a (Tr.set B.none b s.nx s.h) = _
 rw [get_set, if_neg (fun e => by rw [e] at ha; omega)]⟩
theorem addB_get (s : S) (b : B) : Tr.get B.none s.nx (addB s b).h = b := by
 show Tr.get B.none s.nx (Tr.set B.none b s.nx s.h) = _
 rw [get_set, if_pos rfl]
theorem newRow_add (s : S) (el : Nat) (l : List V) (gr : Bool) (c : K → Nat → S → A) : Go.Ev.newRow s el l gr c = c s.nx l.length (addB s (.row l l.length el gr 0 0 0)) := by
 unfold Go.Ev.newRow
 rw [lenL_eq, hnew_eq]; rfl
theorem cellsC_iv (k : IntKind) (z : Int) (c : List V → A) : cellsC 1 (iv k z) c = c [iv k z] := by cases z <;> rfl
theorem callV_fn (r : R) (g : Nat) (first cap args : List V) (tm : T) (s : S) (k : V → S → A) : callV r (.fn (.func g) first cap) args tm s k = foldF (r.call g (first ++ (args ++ cap)) s) k := by
 show appL args cap (fun l => appL first l fun l => doCall r g l s k) = _
 rw [appL_eq, appL_eq]; rfl
theorem iv_inj {k : IntKind} {a b : Int} (h : iv k a = iv k b) : a = b := by
 have := congrArg toI h
 rwa [toI_iv, toI_iv] at this
end Go.Ev

namespace Go.Ev
open Go.RowKit
variable {P : Program}
def kOf : Nat → K
 | 0 => .h
 | n + 1 => (kOf n).succ
theorem kOf_toNat : ∀ n, (kOf n).toNat = n + 1
 | 0 => rfl
 | n + 1 => by rw [kOf, K.toNat_succ, kOf_toNat n]
theorem kOf_inj {a b : Nat} (h : kOf a = kOf b) : a = b := by
 have := congrArg K.toNat h
 rw [kOf_toNat, kOf_toNat] at this
 omega
theorem kOf_surj (k : K) : ∃ n, k = kOf n := by
 refine ⟨k.toNat - 1, K.toNat_inj ?_⟩
 have := k.toNat_pos
 rw [kOf_toNat]; omega
def absC (N : Nat) : Value → V
 | .bool b => .bool b
 | .int k n => iv k n
 | .string s => .str (bytesL s)
 | .pointer none => .nil 0
 | .pointer (some ⟨b, o, none⟩) => if b < N then .ptr (kOf b) 0 o else .bad
 | .slice none 0 0 => .nil 1
 | .slice (some _) 0 0 => .ref 1 .h
 | .slice (some ⟨b, o, none⟩) len cap => if b < N ∧ len ≤ cap then .sl (kOf b) 0 o len cap else .bad
 | .map none => .nil 2
 | .nilFunc => .nil 3
 | .nilIface => .nil 4
 | _ => .bad
def absV (N : Nat) : Value → V
 | .agg ⟨cs⟩ => if cs.all (·.oneCell') then .ls 0 (cs.map (absC N)) else .bad
 | v => absC N v
def absB (N : Nat) : Option Obj → B
 | some (.cells c el _) => .row (c.toList.map (absC N)) c.size el false 0 0 c.size
 | _ => .none
def absT (w : World) : Nat → Tr B
 | 0 => .lf
 | n + 1 => Tr.set B.none (absB w.heap.size w.heap[n]?) (kOf n) (absT w n)
def absS (w : World) : S := ⟨absT w w.heap.size, kOf w.heap.size⟩
theorem absT_get (w : World) : ∀ n b, Tr.get B.none (kOf b) (absT w n) = if b < n then absB w.heap.size w.heap[b]? else .none
 | 0, b => by rw [absT, get_lf, if_neg (by omega)]
 | n + 1, b => by
  rw [absT, get_set, absT_get w n b]
  by_cases h : b = n
  ·subst h; rw [if_pos rfl, if_pos (by omega)]
  ·rw [if_neg (fun e => h (kOf_inj e))]
   by_cases g : b < n
   ·rw [if_pos g, if_pos (by omega)]
   ·rw [if_neg g, if_neg (by omega)]
theorem absS_get (w : World) (b : Nat) : Tr.get B.none (kOf b) (absS w).h = if b < w.heap.size then absB w.heap.size w.heap[b]? else .none := absT_get w _ b
def absN (P : Program) (w : World) : Val :=
  { blk := fun a v => if v = 0 ∧ a.toNat ≤ w.heap.size then some (a.toNat - 1, 0) else none, cap := fun _ _ => 0,
    sz := fun a => match w.heap[a.toNat - 1]? with | some (.cells _ el _) => P.cellsOf el | _ => 0 }
theorem absN_blk {w : World} {a : K} {v : Nat} {p : Nat × Nat} (h : (absN P w).blk a v = some p) : v = 0 ∧ p.2 = 0 ∧ p.1 < w.heap.size ∧ a = kOf p.1 := by
 unfold absN at h
 simp only at h
 split at h
 ·rename_i g
  cases h
  have := a.toNat_pos
  refine ⟨g.1, rfl, by show a.toNat - 1 < _; omega, K.toNat_inj ?_⟩
  rw [kOf_toNat]; show a.toNat = a.toNat - 1 + 1; omega
 ·cases h
theorem absN_kOf {w : World} {b : Nat} (h : b < w.heap.size) : (absN P w).blk (kOf b) 0 = some (b, 0) := by
 unfold absN
 simp only [kOf_toNat]
 rw [if_pos ⟨trivial, by omega⟩]; rfl
theorem absC_one (N : Nat) (x : Value) (h : absC N x ≠ .bad) : x.oneCell' = true := by
 cases x <;> first | rfl | exact absurd rfl h
theorem absC_vr (w : World) (x : Value) : VR (absN P w) (absC w.heap.size x) x := by
 unfold absC
 split <;> first
  | trivial
  | rfl
  | (exact VR_iv _ _ _)
  | (exact ⟨_, rfl, rfl⟩)
  | (exact .inl ⟨_, rfl⟩)
  | skip
 ·split
  ·rename_i h; exact ⟨_, 0, absN_kOf h, by simp⟩
  ·trivial
 ·split
  ·rename_i h; exact ⟨_, 0, absN_kOf h.1, by simp, h.2⟩
  ·trivial
theorem absCs_vr (w : World) : ∀ l : List Value, VRs (absN P w) (l.map (absC w.heap.size)) l
 | [] => rfl
 | x :: l => ⟨x, l, rfl, absC_vr w x, absCs_vr w l⟩
theorem absV_vr (w : World) (x : Value) : VR (absN P w) (absV w.heap.size x) x := by
 unfold absV
 split
 ·rename_i cs
  split
  ·rename_i h
   exact ⟨cs, absCs_vr w cs, rfl, by simpa using h⟩
  ·trivial
 ·exact absC_vr w x
theorem abs_ok {G : Nat} (w : World) (hG : G ≤ w.heap.size) (h24 : G < 2 ^ 24) : St P w.heap.size w (absN P w) (absS w) w ∧ Glob (absN P w) G := by
 refine ⟨⟨Below.refl _ _, Nat.le_refl _, fun a => ?_, fun a ha => ⟨fun v => ?_, ?_⟩, fun a v b δ a' v' δ' h1 h2 _ _ => ?_, fun a v b δ h hl => ?_⟩, fun g h => ?_⟩
 ·obtain ⟨b, rfl⟩ := kOf_surj a
  rw [absS_get]
  split
  ·rename_i hb
   unfold absB
   split
   ·rename_i c el fz hc
    show RowR P (absN P w) w (kOf b) _ _ _ _ _ _ _
    refine ⟨by simp, fun _ v p hp => ?_, (fun h => by cases h), (fun h => by cases h), fun v v' b' δ δ' g1 g2 => ?_, fun v b' δ hp => ?_⟩
    ·obtain ⟨k1, k2, _⟩ := absN_blk hp; exact ⟨k1, k2⟩
    ·obtain ⟨_, k2, _⟩ := absN_blk g1; obtain ⟨_, k3, _⟩ := absN_blk g2
     simp at k2 k3; omega
    ·obtain ⟨k1, k2, k3, k4⟩ := absN_blk hp
     have e := kOf_inj k4
     simp at e k2
     subst e k2
     refine ⟨c, fz, hc, ?_, .inl ⟨rfl, rfl, Nat.le_refl _⟩, (fun h => by cases h), fun _ i x hx _ => ?_⟩
     ·show (match w.heap[(kOf b).toNat - 1]? with | some (.cells _ el _) => P.cellsOf el | _ => 0) = _
      rw [kOf_toNat, Nat.add_sub_cancel, hc]
     ·rw [List.getElem?_map, Option.map_eq_some_iff] at hx
      obtain ⟨y, hy, rfl⟩ := hx
      exact ⟨y, by simpa using hy, absC_one _ y, absC_vr w y⟩
   ·trivial
  ·trivial
 ·unfold absN
  have : (absS w).nx.toNat = w.heap.size + 1 := kOf_toNat _
  simp only
  rw [if_neg (by omega)]
 ·obtain ⟨b, rfl⟩ := kOf_surj a
  have : (absS w).nx.toNat = w.heap.size + 1 := kOf_toNat _
  rw [kOf_toNat] at ha
  rw [absS_get, if_neg (by omega)]
 ·obtain ⟨_, _, _, k4⟩ := absN_blk h1
  obtain ⟨_, _, _, k5⟩ := absN_blk h2
  rw [k4, k5]
 ·obtain ⟨b', rfl⟩ := kOf_surj a
  right
  rw [absS_get] at hl ⊢
  split at hl
  ·rename_i hb
   rw [if_pos hb]
   unfold absB at hl ⊢
   split at hl
   ·exact ⟨rfl, rfl, Nat.le_refl _⟩
   ·exact hl.elim
  ·exact hl.elim
 ·have e : keyF 24 (g + 1) = kOf g := K.toNat_inj (by rw [keyF_small 24 (g + 1) (by omega) (by omega), kOf_toNat])
  rw [e]; exact absN_kOf (by omega)
end Go.Ev

namespace Go.Ev
open Go.RowKit
variable {P : Program}
theorem St.later {n0 : Nat} {w0 w w' : World} {ν : Val} {s : S} (hst : St P n0 w0 ν s w) (hb : Below w.heap.size w w') : St P n0 w0 ν s w' :=
 ⟨hst.below.trans (hb.mono (Nat.le_trans hst.n0le hst.below.size)), hst.n0le, fun a => (hst.rows a).frame fun _ _ _ h hl => hb.block _ ((hst.rows a).there hl h), hst.fresh, hst.sep, hst.own⟩
theorem CallX.closed {f G : Nat} {b : Bool} {s1 : S} (hG : P.globals.size = G) (hg : globB G = true) (hX : CallX P f [] (start G) (.bool b) s1) (s : S) : CallX P f [] s (.bool b) s := by
 intro n0 w0 ν w cargs hst _ hv
 have hc : cargs = [] := hv
 subst hc
 obtain ⟨h1, h2⟩ := start_ok (P := P) hg w
 obtain ⟨e, k⟩ := hX w.heap.size w (val0 G) w [] h1 (by rw [hG]; exact h2) rfl
 refine ⟨e, fun kind cs hk => ?_⟩
 obtain ⟨ν', y, w', fr, g1, g2, g3⟩ := k kind cs hk
 have hy : y = .bool b := g2
 exact ⟨ν, y, w', fr, ⟨ν.le_refl, hst.later g1.st.below, Nat.le_refl _, fun _ h _ => ⟨h, .inl rfl⟩⟩, hy, g3⟩
theorem calls_open {f G : Nat} {args : List Value} {w : World} {b : Bool} {s' : S} (hG : P.globals.size = G) (hw : G ≤ w.heap.size) (h24 : G < 2 ^ 24)
  (hX : CallX P f (args.map (absV w.heap.size)) (absS w) (.bool b) s') : Calls P f ⟨args⟩ w fun e w' => e = .returned (.bool b) ∧ Below w.heap.size w w' := by
 obtain ⟨h1, h2⟩ := abs_ok (P := P) w hw h24
 have hv : ∀ l : List Value, VRs (absN P w) (l.map (absV w.heap.size)) l := by
  intro l
  induction l with
  | nil => rfl
  | cons x l ih => exact ⟨x, l, rfl, absV_vr w x, ih⟩
 obtain ⟨_, hc⟩ := hX w.heap.size w (absN P w) w args h1 (by rw [hG]; exact h2) (hv args)
 intro cs
 obtain ⟨ν', y, w', fr, g1, g2, g3, g4, g5, g6, g7, fn, g8, g9⟩ := hc .normal cs (.inl rfl)
 have hy : y = .bool b := g2
 subst hy
 exact ⟨.returned (.bool b), w', fr, ⟨rfl, g1.st.below⟩, g3, g7, g5, g6, g4, fn, by rw [g7]; exact g8, g9⟩
theorem trueB_callX {pc : PC} (hp : PcOk P pc) (hh : ∀ h ∈ pc.hooks, HookOk P h) {n f : Nat} {s : S} (h : trueB pc n f s = true) : ∃ s1, CallX P f [] s (.bool true) s1 := by
 unfold trueB at h
 cases hc : (run pc n).call f [] s with
 | ret v s1 =>
  rw [hc] at h
  cases v with
  | bool b => cases b with
   | true => exact ⟨s1, (run_ok hp hh n).call _ _ _ _ _ hc⟩
   | false => cases h
  | _ => cases h
 | _ => rw [hc] at h; cases h
end Go.Ev

namespace Go.Ev
open Go.RowKit
variable {P : Program}
structure Ct where
 pre : List V → S → Prop
 post : List V → S → V → S → Prop
structure Lt where
 pre : T → S → Prop
 post : T → S → A → Prop
def Holds (P : Program) (K : Nat → Ct) (f : Nat) : Prop := ∀ a s, (K f).pre a s → ∃ v s', CallX P f a s v s' ∧ (K f).post a s v s'
noncomputable def Rk (P : Program) (K : Nat → Ct) (L : Nat → Lt) : R :=
 Rq P (fun f a s v s' => (K f).pre a s → (K f).post a s v s') (fun _ c tm s a => (L (sizeC c)).pre tm s → (L (sizeC c)).post tm s a)
theorem Rk_ok (pc : PC) (K : Nat → Ct) (L : Nat → Lt) : RS P pc (Rk P K L) := Rq_ok pc _ _
theorem Rk_call {K : Nat → Ct} {L : Nat → Lt} {f : Nat} {a : List V} {s : S} (h : Holds P K f) (hp : (K f).pre a s) : ∃ v s', (Rk P K L).call f a s = .ret v s' ∧ (K f).post a s v s' := by
 obtain ⟨v, s', h1, h2⟩ := h a s hp
 obtain ⟨v, s', h3, h4⟩ := Rq_call (P := P) (Q := fun f a s v s' => (K f).pre a s → (K f).post a s v s') (QC := fun _ c tm s a => (L (sizeC c)).pre tm s → (L (sizeC c)).post tm s a) ⟨v, s', h1, fun _ => h2⟩
 exact ⟨v, s', h3, h4 hp⟩
def Kept (K : Nat → Ct) (r : R) (f : Nat) : Prop := ∀ a s, (K f).pre a s → ∃ v s', r.call f a s = .ret v s' ∧ (K f).post a s v s'
theorem Rk_kept {K : Nat → Ct} {L : Nat → Lt} {f : Nat} (h : Holds P K f) : Kept K (Rk P K L) f := fun _ _ hp => Rk_call h hp
theorem loop_k {pc : PC} (hp : PcOk P pc) (hh : pc.hooks = []) {K : Nat → Ct} {L : Nat → Lt} {fi : FI} {c : Code} {n : Nat} (hn : sizeC c = n) (μ : T → S → Nat) (hnb : ∀ tm s a, (L n).pre tm s → (L n).post tm s a → ¬ a.isBad)
  (body : ∀ tm s, (L n).pre tm s → (∀ tm' s', μ tm' s' < μ tm s → (L n).pre tm' s' → (L n).post tm' s' ((Rk P K L).code fi c tm' s')) → (L n).post tm s ((comp pc fi c).run (Rk P K L) tm s)) :
  ∀ tm s, (L n).pre tm s → (L n).post tm s ((comp pc fi c).run (Rk P K L) tm s) := by
 intro tm s h
 have := (loop_run (P := P) hp hh (fun f a s v s' => (K f).pre a s → (K f).post a s v s') (fun _ c tm s a => (L (sizeC c)).pre tm s → (L (sizeC c)).post tm s a) (fi := fi) (c := c) (L n).pre μ (fun tm s h IH => by
  have := body tm s h fun tm' s' h1 h2 => by
   have := IH tm' s' h1 h2
   rw [hn] at this
   exact this h2
  exact ⟨hnb _ _ _ h this, fun _ => by rw [hn]; exact this⟩) tm s h).2
 rw [hn] at this
 exact this h
def LP (id out : Nat) (rv : V) (good : Prop) (E : T → S → Prop) (a : A) : Prop :=
 (good ∧ ∃ tm' s', a = .ext id tm' s' ∧ gp 240 tm' = .bad ∧ E tm' s') ∨ (¬ good ∧ ∃ tm' s', a = .ret tm' s' ∧ gp 240 tm' = .bad ∧ gp out tm' = rv ∧ E tm' s')
theorem LP.nb {id out : Nat} {rv : V} {good : Prop} {E : T → S → Prop} {a : A} (h : LP id out rv good E a) : ¬ a.isBad := by
 rcases h with ⟨_, tm, s, rfl, _⟩ | ⟨_, tm, s, rfl, _⟩ <;> exact fun h => h
theorem LP.iff {id out : Nat} {rv : V} {g1 g2 : Prop} {E : T → S → Prop} {a : A} (h : LP id out rv g1 E a) (e : g1 ↔ g2) : LP id out rv g2 E a := by
 rcases h with ⟨h1, h2⟩ | ⟨h1, h2⟩
 ·exact .inl ⟨e.1 h1, h2⟩
 ·exact .inr ⟨fun h => h1 (e.2 h), h2⟩
theorem mu_lt {n i : Nat} {a b : V} (ha : a = iv .i64 (i : Int)) (hb : b = iv .i64 ((i : Int) + 1)) (h : i < n) : n - (toI b).toNat < n - (toI a).toNat := by
 rw [ha, hb, toI_iv, toI_iv]; omega
theorem mu_lt2 {n i : Nat} {a b a' b' : V} (h1 : a = iv .i64 (n : Int)) (h2 : b = iv .i64 (i : Int)) (h3 : a' = iv .i64 (n : Int)) (h4 : b' = iv .i64 ((i : Int) + 1)) (h : i < n) : (toI a').toNat - (toI b').toNat < (toI a).toNat - (toI b).toNat := by
 rw [h1, h2, h3, h4, toI_iv, toI_iv, toI_iv]; omega
def Ints (s : S) (v : V) : Prop := Sl s 1 v ∧ lenV v ≤ 9223372036854775807 ∧ ∀ j, j < lenV v → cellV s v j = iv .i64 (toI (cellV s v j))
noncomputable def intV (s : S) (v : V) (j : Nat) : Int := toI (cellV s v j)
noncomputable def word (s : S) (v : V) : List Int := (List.range (lenV v)).map (intV s v)
@[simp] theorem word_len (s : S) (v : V) : (word s v).length = lenV v := by simp [word]
theorem word_get {s : S} {v : V} {i : Nat} (h : i < lenV v) : (word s v)[i]? = some (intV s v i) := by simp [word, h]
theorem word_eq {s t : S} {v u : V} : word s v = word t u ↔ lenV v = lenV u ∧ ∀ j, j < lenV v → intV s v j = intV t u j := by
 constructor
 ·intro h
  have hl : lenV v = lenV u := by rw [← word_len s v, h, word_len]
  refine ⟨hl, fun j hj => ?_⟩
  have := word_get (s := s) hj
  rw [h, word_get (hl ▸ hj)] at this
  exact (Option.some.inj this).symm
 ·rintro ⟨h1, h2⟩
  apply List.ext_getElem?
  intro i
  by_cases h : i < lenV v
  ·rw [word_get h, word_get (h1 ▸ h), h2 i h]
  ·rw [List.getElem?_eq_none (by simp; omega), List.getElem?_eq_none (by simp; omega)]
theorem word_mem {s : S} {v : V} {x : Int} : x ∈ word s v ↔ ∃ j, j < lenV v ∧ intV s v j = x := by simp [word]
theorem Ints.at_ {s : S} {v : V} (h : Ints s v) {i : Nat} (hi : i < lenV v) : ∃ p, (∀ k c, xIdxAddrS 1 v (iv k i) c = c p) ∧ ∀ k : V → S → A, xLoad false 1 p s k = k (iv .i64 (intV s v i)) s := by
 obtain ⟨p, hp, hP⟩ := h.1.idx (i := i) (by omega) (by omega)
 refine ⟨p, hp, fun k => ?_⟩
 have e : cellV s v ((i : Int).toNat * 1 + 0) = iv .i64 (intV s v i) := by
  simp only [Int.toNat_natCast, Nat.mul_one, Nat.add_zero]
  rw [h.2.2 i hi]; rfl
 rw [hP.load1 Nat.zero_lt_one (by rw [e]; exact iv_ne _ _), e]
theorem Ints.ext {s s' : S} {v : V} (h : Ints s v) (e : Ext s s') : Ints s' v ∧ ∀ j, intV s' v j = intV s v j := by
 obtain ⟨h1, h2⟩ := h.1.ext e
 refine ⟨⟨h1, h.2.1, fun j hj => ?_⟩, fun j => ?_⟩
 ·rw [h2]; exact h.2.2 j hj
 ·unfold intV; rw [h2]
theorem Ints.word {s s' : S} {v : V} (h : Ints s v) (e : Ext s s') : word s' v = word s v := by
 unfold Go.Ev.word
 exact List.map_congr_left fun j _ => (h.ext e).2 j
def Tab (s : S) (v : V) : Prop := Sl s 2 v ∧ (lenV v ≤ 9223372036854775807 ∧ Fx v) ∧ ∀ i, i < lenV v → Ints s (cellV s v (i * 2)) ∧ Ints s (cellV s v (i * 2 + 1))
noncomputable def fromV (s : S) (v : V) (i : Nat) : List Int := word s (cellV s v (i * 2))
noncomputable def toV (s : S) (v : V) (i : Nat) : List Int := word s (cellV s v (i * 2 + 1))
theorem Tab.ext {s s' : S} {v : V} (h : Tab s v) (e : Ext s s') : Tab s' v ∧ (∀ j, cellV s' v j = cellV s v j) ∧ (∀ i, i < lenV v → fromV s' v i = fromV s v i) ∧ ∀ i, i < lenV v → toV s' v i = toV s v i := by
 obtain ⟨h1, h2⟩ := h.1.ext e
 refine ⟨⟨h1, h.2.1, fun j hj => ?_⟩, h2, fun i hi => ?_, fun i hi => ?_⟩
 ·rw [h2, h2]; exact ⟨((h.2.2 j hj).1.ext e).1, ((h.2.2 j hj).2.ext e).1⟩
 ·unfold fromV; rw [h2]; exact (h.2.2 i hi).1.word e
 ·unfold toV; rw [h2]; exact (h.2.2 i hi).2.word e
theorem Ints.ne {s : S} {v : V} (h : Ints s v) : v ≠ .bad := by
 rcases h.1 with (rfl | rfl) | ⟨_, _, _, _, ⟨_, rfl, _⟩ | ⟨_, rfl⟩, _⟩ <;> exact fun h => by cases h
theorem Tab.at_ {s : S} {v : V} (h : Tab s v) {i : Nat} (hi : i < lenV v) : ∃ p, (∀ k c, xIdxAddrS 2 v (iv k i) c = c p) ∧ Pt s p 2 (fun j => cellV s v (i * 2 + j)) := by
 obtain ⟨p, hp, hP⟩ := h.1.idx (i := i) (by omega) (by omega)
 exact ⟨p, hp, hP⟩
theorem Tab.fields {s : S} {v : V} (h : Tab s v) {i : Nat} (hi : i < lenV v) : ∃ p q0 q1, (∀ k c, xIdxAddrS 2 v (iv k i) c = c p) ∧ (∀ c, xFieldAddr 0 p c = c q0) ∧ (∀ c, xFieldAddr 1 p c = c q1) ∧
  (∀ k : V → S → A, xLoad false 1 q0 s k = k (cellV s v (i * 2)) s) ∧ (∀ k : V → S → A, xLoad false 1 q1 s k = k (cellV s v (i * 2 + 1)) s) ∧ (∀ k : V → S → A, xLoad true 2 p s k = k (.ls 0 [cellV s v (i * 2), cellV s v (i * 2 + 1)]) s) := by
 obtain ⟨p, hp, hP⟩ := h.at_ hi
 obtain ⟨q0, e0, P0⟩ := hP.field 0 (by omega)
 obtain ⟨q1, e1, P1⟩ := hP.field 1 (by omega)
 refine ⟨p, q0, q1, hp, e0, e1, fun k => ?_, fun k => ?_, fun k => ?_⟩
 ·exact P0.load1 (by omega) (h.2.2 i hi).1.ne k
 ·exact P1.load1 (by omega) (h.2.2 i hi).2.ne k
 ·refine hP.loadN 2 (by omega) (fun j hj => ?_) k
  match j, hj with
  | 0, _ => exact (h.2.2 i hi).1.ne
  | 1, _ => exact (h.2.2 i hi).2.ne
theorem set_set {α : Type} (d x y : α) (k : K) : ∀ t : Tr α, Tr.set d y k (Tr.set d x k t) = Tr.set d y k t := by
 induction k with
 | h => intro t; cases t <;> rfl
 | o p ih => intro t; cases t <;> simp [Tr.set, ih]
 | i p ih => intro t; cases t <;> simp [Tr.set, ih]
theorem store_new (s : S) (el n : Nat) (l0 l : List V) (h0 : l0.length = n) (hl : l.length = n) (k : V → S → A) : xStore n (.ptr s.nx 0 0) (.ls 0 l) (addB s (.row l0 n el false 0 0 0)) k = k undef (addB s (.row l n el false 0 0 0)) := by
 show cellsC n (.ls 0 l) (fun l => writeCells _ s.nx 0 0 n l (fun s => k undef s)) = _
 show lenL l (fun m => Bool.rec (motive := fun _ => A) _ _ (Nat.beq m n)) = _
 rw [lenL_eq, show Nat.beq l.length n = true by rw [hl]; exact Nat.beq_refl n]
 show writeCells _ s.nx 0 0 n l (fun s => k undef s) = _
 unfold writeCells
 rw [hget_eq, addB_get]
 show (Bool.rec (motive := fun _ => A) _ _ (wrOk n false 0 0 (Nat.add 0 n) 0 0) : A) = _
 rw [show wrOk n false 0 0 (Nat.add 0 n) 0 0 = true by
  show (Bool.rec (motive := fun _ => Bool) _ _ (Nat.ble (Nat.add 0 n) n) : Bool) = _
  rw [show Nat.ble (Nat.add 0 n) n = true from Nat.ble_eq_true_of_le (by show 0 + n ≤ n; omega)]; rfl]
 show updL l 0 l0 _ = _
 rw [updL_eq, hset_eq]
 have e : upd l 0 l0 = l := by
  subst h0
  clear k
  induction l generalizing l0 with
  | nil => cases l0 with
   | nil => rfl
   | cons => cases hl
  | cons x l ih => cases l0 with
   | nil => cases hl
   | cons y l0 => exact congrArg (x :: ·) (ih l0 (by simpa using hl))
 rw [e]
 show k undef ⟨Tr.set B.none _ s.nx (Tr.set B.none _ s.nx s.h), s.nx.succ⟩ = _
 rw [set_set]; rfl
theorem new_pt (s : S) (el n : Nat) (l : List V) (hl : l.length = n) : Pt (addB s (.row l n el false 0 0 0)) (.ptr s.nx 0 0) n (fun j => l.getD j .bad) :=
 ⟨s.nx, 0, 0, l, n, el, false, 0, 0, 0, rfl, addB_get _ _, hl, rdOk_or.2 (.inr ⟨rfl, by omega⟩), fun j _ => by rw [Nat.zero_add]⟩
theorem Pt.ext {s s' : S} {p : V} {m : Nat} {f : Nat → V} (h : Pt s p m f) (e : Ext s s') (hlt : ∀ a v o, p = .ptr a v o → a.toNat < s.nx.toNat) : Pt s' p m f := by
 obtain ⟨a, w, o, l, n, el, gr, mn, f1, f2, rfl, h1, h2, h3, h4⟩ := h
 exact ⟨a, w, o, l, n, el, gr, mn, f1, f2, rfl, (e.get a (hlt _ _ _ rfl)).trans h1, h2, h3, h4⟩
def bnd (x : Option V) (d n : Nat) : Prop := (x = none ∧ n = d) ∨ ∃ k, x = some (iv k n)
theorem bnd.run {x : Option V} {d n : Nat} (h : bnd x d n) (c : Nat → A) : boundN x d c = c n := by
 rcases h with ⟨rfl, rfl⟩ | ⟨k, rfl⟩ <;> rfl
theorem Sl.slice {s : S} {sz : Nat} {v : V} (h : Sl s sz v) (hf : Fx v) {lo hi : Option V} {a b : Nat} (h1 : bnd lo 0 a) (h2 : bnd hi (lenV v) b) (hab : a ≤ b) (hb : b ≤ lenV v) :
  ∃ u, (∀ el c, xSlice el sz v lo hi none s c = c u) ∧ Sl s sz u ∧ lenV u = b - a ∧ (∀ j, j < (b - a) * sz → cellV s u j = cellV s v (a * sz + j)) ∧ Fx u := by
 rcases h with (rfl | rfl) | ⟨k, w, o, len, ⟨cap, rfl, g4⟩ | ⟨e, rfl⟩, hlt, l, n, el, gr, mn, f1, f2, g1, g2, g3⟩
 ·have hb0 : b = 0 := by simpa [lenV] using hb
  subst hb0
  have ha0 : a = 0 := by omega
  subst ha0
  refine ⟨.nil 1, fun el c => ?_, .inl (.inl rfl), rfl, fun j hj => by omega, trivial⟩
  show boundN lo 0 (fun a => boundN hi 0 fun b => boundN none 0 fun m => (Bool.rec (motive := fun _ => A) (.bad 62) (c (.nil 1)) (andB (Nat.beq 1 1) (andB (Nat.beq a 0) (andB (Nat.beq b 0) (Nat.beq m 0)))) : A)) = _
  rw [h1.run]
  rw [bnd.run (d := 0) h2]; rfl
 ·have hb0 : b = 0 := by simpa [lenV] using hb
  subst hb0
  have ha0 : a = 0 := by omega
  subst ha0
  refine ⟨.ref 1 .h, fun el c => ?_, .inl (.inr rfl), rfl, fun j hj => by omega, trivial⟩
  show boundN lo 0 (fun l => boundN hi 0 fun h => (Bool.rec (motive := fun _ => A) (.bad 67) (c (.ref 1 .h)) (andB (Nat.beq 1 1) (andB (Nat.beq l 0) (Nat.beq h 0))) : A)) = _
  rw [h1.run]
  rw [bnd.run (d := 0) h2]; rfl
 ·have hb' : b ≤ len := hb
  refine ⟨.sl k w (Bool.rec (Nat.add o (Nat.mul a sz)) o (Nat.beq cap a)) (b - a) (cap - a), fun el c => ?_, .inr ⟨k, w, _, b - a, .inl ⟨cap - a, rfl, by omega⟩, hlt, l, n, el, gr, mn, f1, f2, g1, g2, rdOk_le g3 ?_⟩, rfl, fun j hj => ?_, trivial⟩
  ·show xSliceK sz k w o len cap lo hi none c = _
   unfold xSliceK
   rw [h1.run, bnd.run (d := len) h2]
   show (Bool.rec (motive := fun _ => A) _ _ (andB (Nat.ble a b) (andB (Nat.ble b cap) (Nat.ble cap cap))) : A) = _
   rw [show Nat.ble a b = true from Nat.ble_eq_true_of_le hab, show Nat.ble b cap = true from Nat.ble_eq_true_of_le (by omega), show Nat.ble cap cap = true from Nat.ble_eq_true_of_le (Nat.le_refl _)]
   show fN (Nat.sub b a) (fun len' => fN (Nat.sub cap a) fun cap' => fN (Bool.rec (Nat.add o (Nat.mul a sz)) o (Nat.beq cap a)) fun o' => c (.sl k w o' len' cap')) = _
   rw [fN_eq, fN_eq, fN_eq]; rfl
  ·have : (b - a) * sz + a * sz ≤ len * sz := by rw [← Nat.add_mul]; exact Nat.mul_le_mul_right _ (by omega)
   cases hc : Nat.beq cap a with
   | true => show o + (b - a) * sz ≤ o + len * sz; omega
   | false => show o + a * sz + (b - a) * sz ≤ o + len * sz; omega
  ·cases hc : Nat.beq cap a with
   | true =>
    have := Nat.eq_of_beq_eq_true hc
    have : b - a = 0 := by omega
    rw [this] at hj; omega
   | false =>
    show (cellsB (Tr.get B.none k s.h)).getD (o + a * sz + j) .bad = (cellsB (Tr.get B.none k s.h)).getD (o + (a * sz + j)) .bad
    rw [Nat.add_assoc]
 ·exact hf.elim
end Go.Ev

namespace Go.Ev
open Go.RowKit
variable {P : Program}
theorem absS_row {W : World} {b : Nat} {c : Array Value} {el : TypeId} {fz : Nat × Nat} (h : W.heap[b]? = some (.cells c el fz)) : b < W.heap.size ∧ Tr.get B.none (kOf b) (absS W).h = .row (c.toList.map (absC W.heap.size)) c.size el false 0 0 c.size := by
 have hb : b < W.heap.size := by
  rcases Nat.lt_or_ge b W.heap.size with g | g
  ·exact g
  ·rw [Array.getElem?_eq_none g] at h; cases h
 refine ⟨hb, ?_⟩
 rw [absS_get, if_pos hb, h]; rfl
theorem kOf_lt {W : World} {b : Nat} (h : b < W.heap.size) : (kOf b).toNat < (absS W).nx.toNat := by
 show (kOf b).toNat < (kOf W.heap.size).toNat
 rw [kOf_toNat, kOf_toNat]; omega
theorem addr_add (b o j : Nat) : (⟨b, o, none⟩ : Addr).add j = ⟨b, o + j, none⟩ := by
 unfold Addr.add
 split
 ·rename_i h; subst h; rfl
 ·rfl
theorem sl_abs {W : World} {a : Addr} {len cap sz : Nat} {V : Nat → Value} (hl : len ≤ cap) (h : ∀ j, j < cap * sz → W.cell? (a.add j) = some (V j)) (hsz : 0 < sz) :
  (Sl (absS W) sz (absC W.heap.size (.slice (some a) len cap)) ∧ Fx (absC W.heap.size (.slice (some a) len cap))) ∧ lenV (absC W.heap.size (.slice (some a) len cap)) = len ∧ ∀ j, j < len * sz → cellV (absS W) (absC W.heap.size (.slice (some a) len cap)) j = absC W.heap.size (V j) := by
 by_cases hc : cap = 0
 ·subst hc
  obtain rfl : len = 0 := by omega
  exact ⟨⟨.inl (.inr rfl), trivial⟩, rfl, fun j hj => by omega⟩
 ·have hcs : 0 < cap * sz := Nat.mul_pos (by omega) hsz
  obtain ⟨b, off, spot⟩ := a
  have h0 := h 0 hcs
  have hcells : ∃ c el fz, W.heap[b]? = some (.cells c el fz) ∧ spot = none := by
   have e : ((⟨b, off, spot⟩ : Addr).add 0).block = b := rfl
   unfold World.cell? at h0
   rw [e] at h0
   split at h0
   ·rename_i c el fz hc
    refine ⟨c, el, fz, hc, ?_⟩
    split at h0
    ·cases h0
    ·rename_i hs
     cases spot with
     | none => rfl
     | some x => exact absurd rfl hs
   ·cases h0
  obtain ⟨c, el, fz, hb, rfl⟩ := hcells
  have hat : ∀ j, j < cap * sz → c[off + j]? = some (V j) := fun j hj => by
   have := h j hj
   rw [addr_add] at this
   unfold World.cell? at this
   simp only [hb] at this
   simpa using this
  obtain ⟨hlt, hrow⟩ := absS_row hb
  have habs : absC W.heap.size (.slice (some ⟨b, off, none⟩) len cap) = .sl (kOf b) 0 off len cap := by
   obtain ⟨n, rfl⟩ : ∃ n, cap = n + 1 := ⟨cap - 1, by omega⟩
   cases len <;> exact if_pos ⟨hlt, hl⟩
  have hfit : off + cap * sz ≤ c.size := by
   have := hat (cap * sz - 1) (by omega)
   have := (Array.getElem?_eq_some_iff.1 this).1
   omega
  have hle : len * sz ≤ cap * sz := Nat.mul_le_mul_right _ hl
  rw [habs]
  refine ⟨⟨.inr ⟨kOf b, 0, off, len, .inl ⟨cap, rfl, hl⟩, kOf_lt hlt, _, _, _, _, _, _, _, hrow, by simp, rdOk_or.2 (.inr ⟨rfl, by omega⟩)⟩, trivial⟩, rfl, fun j hj => ?_⟩
  have := hat j (by omega)
  simp only [cellV, hrow, cellsB]
  rw [List.getD_eq_getElem?_getD, List.getElem?_map, Array.getElem?_toList, this]; rfl
variable {H : Type} {enc : TypeId × Value → H}
theorem ints_abs {W : World} {t e : TypeId} {fuel : Nat} {x : Value} {y : DataW H × List MemPlace} {held : Bool} (ht : P.underlying t = some (.slice e)) (he : P.underlying e = some (.int .i64)) (hc : P.cellsOf e = 1)
  (h : DataW.trod enc P W 0 (fun _ => true) held fuel t [x] = some y) : (Ints (absS W) (absC W.heap.size x) ∧ Fx (absC W.heap.size x)) ∧ ∃ u l c, x = .slice u l c := by
 rcases Go.ChangeShapes.open_ints ht he hc h with ⟨e1, _⟩ | ⟨a, len, cap, zs, e1, _, hl, hm, hz, _, hcell, _⟩
 ·cases e1
  exact ⟨⟨⟨.inl (.inl rfl), by show (0 : Nat) ≤ _; omega, fun j hj => by cases hj⟩, trivial⟩, _, _, _, rfl⟩
 ·cases e1
  simp only [if_true] at hz
  obtain ⟨h1, h2, h3⟩ := sl_abs (W := W) (a := a) (sz := 1) (V := fun j => .int .i64 (zs.getD j 0)) hl (fun j hj => hcell j (by omega)) (by omega)
  refine ⟨⟨⟨h1.1, by rw [h2]; have : maxLen = 9223372036854775807 := rfl; omega, fun j hj => ?_⟩, h1.2⟩, _, _, _, rfl⟩
  rw [h2] at hj
  rw [h3 j (by omega)]
  show iv .i64 _ = iv .i64 (toI (iv .i64 _))
  rw [toI_iv]
theorem tab_abs {W : World} {t e f e' : TypeId} {f0 f1 : Field} {fuel : Nat} {x : Value} {y : DataW H × List MemPlace} {held : Bool} (ht : P.underlying t = some (.slice e)) (he : P.underlying e = some (.struct #[f0, f1]))
  (ce : P.cellsOf e = 2) (o0 : f0.offset = 0) (o1 : f1.offset = 1) (t0 : f0.type = f) (t1 : f1.type = f) (cf : P.cellsOf f = 1) (hf : P.underlying f = some (.slice e')) (he' : P.underlying e' = some (.int .i64)) (hc' : P.cellsOf e' = 1)
  (h : DataW.trod enc P W 0 (fun _ => true) held fuel t [x] = some y) : Tab (absS W) (absC W.heap.size x) ∧ ∃ u l c, x = .slice u l c := by
 subst t0
 rcases Go.Deep.open_slice_pairs ht he ce o0 o1 cf (by rw [t1]; exact cf) h with ⟨e1, _⟩ | ⟨a, len, cap, m, n, V0, V1, D0, D1, P0, P1, e1, _, hl, hm, hmm, _, hx⟩
 ·cases e1
  exact ⟨⟨.inl (.inl rfl), ⟨by show (0 : Nat) ≤ _; omega, trivial⟩, fun j hj => by cases hj⟩, _, _, _, rfl⟩
 ·cases e1
  simp only [if_true] at hmm
  subst hmm
  obtain ⟨h1, h2, h3⟩ := sl_abs (W := W) (a := a) (sz := 2) (V := fun j => if j % 2 = 0 then V0 (j / 2) else V1 (j / 2)) hl (fun j hj => by
   obtain ⟨g1, g2, _⟩ := hx (j / 2) (by omega)
   by_cases g : j % 2 = 0
   ·rw [if_pos g, ← g1]; congr 2; omega
   ·rw [if_neg g, ← g2]; congr 2; omega) (by omega)
  refine ⟨⟨h1.1, ⟨by rw [h2]; have : maxLen = 9223372036854775807 := rfl; omega, h1.2⟩, fun j hj => ?_⟩, _, _, _, rfl⟩
  rw [h2] at hj
  obtain ⟨_, _, g3, g4⟩ := hx j (by omega)
  rw [h3 _ (by omega), h3 _ (by omega)]
  simp only [Nat.mul_mod_left, if_true, Nat.mul_div_cancel j (show 0 < 2 by omega), show (j * 2 + 1) % 2 = 1 by omega, show (j * 2 + 1) / 2 = j by omega, Nat.one_ne_zero, if_false]
  exact ⟨(ints_abs hf he' hc' g3).1.1, (ints_abs (by rw [t1]; exact hf) he' hc' g4).1.1⟩
theorem absV_slice {N : Nat} {u : Option Addr} {l c : Nat} : absV N (.slice u l c) = absC N (.slice u l c) := rfl
theorem slice_of_ok {W : World} {r : Reach} {base : Nat} {t e : TypeId} {x : Value} (ht : P.underlying t = some (.slice e)) (h : Value.okWide P W r base t x) : ∃ u l c, x = .slice u l c := by
 unfold Value.okWide at h
 rw [ht] at h
 simp only at h
 unfold Cell.okWide at h
 rw [ht] at h
 simp only at h
 unfold Cell.ok at h
 rw [ht] at h
 cases x <;> first | exact ⟨_, _, _, rfl⟩ | exact h.elim
theorem heap_ge {W : World} (hsh : W.ShapedOpen P) (h0 : Nat.blt P.globals.size (begin P (fun _ _ => 0) default).world.heap.size = true) : P.globals.size ≤ W.heap.size := by
 have h0 : P.globals.size < (begin P (fun _ _ => 0) default).world.heap.size := by simpa [Nat.blt_eq] using h0
 obtain ⟨o, o₀, h1, _⟩ := hsh.2 _ (Nat.le_refl _) h0
 rcases Nat.lt_or_ge P.globals.size W.heap.size with g | g
 ·omega
 ·rw [Array.getElem?_eq_none g] at h1; cases h1
end Go.Ev

namespace Go.Ev
open Go.RowKit
variable {P : Program}
def setB (s : S) (a : K) (b : B) : S := ⟨Tr.set B.none b a s.h, s.nx⟩
theorem setB_get (s : S) (a c : K) (b : B) : Tr.get B.none c (setB s a b).h = if c = a then b else Tr.get B.none c s.h := get_set _ _ _ _ _
@[simp] theorem setB_nx (s : S) (a : K) (b : B) : (setB s a b).nx = s.nx := rfl
noncomputable def mapI : List ME → Int → Option V
 | [], _ => none
 | e :: l, z => if toI e.key = z then some e.val else mapI l z
def keysI (es : List ME) : Prop := ∀ e ∈ es, e.key = iv .i64 (toI e.key)
theorem eqV_ii (cst : Bool) (a b : Int) : eqV ⟨7, []⟩ cst (iv .i64 a) (iv .i64 b) = some (decide (a = b)) := by
 cases a <;> cases b <;> simp only [iv]
 ·rename_i m n
  show some (Nat.beq m n) = _
  congr 1
  rw [Bool.eq_iff_iff, Nat.beq_eq]; simp; omega
 ·show some false = _
  congr 1
 ·show some false = _
  congr 1
 ·rename_i m n
  show some (Nat.beq m n) = _
  congr 1
  rw [Bool.eq_iff_iff, Nat.beq_eq]; simp
theorem findE_i (z : Int) : ∀ (es : List ME) (c : Option V → A), keysI es → findE ⟨7, []⟩ (iv .i64 z) es c = c (mapI es z)
 | [], c, _ => rfl
 | e :: l, c, h => by
  show (match eqV ⟨7, []⟩ false (iv .i64 z) e.key with | some true => c (some e.val) | some false => findE ⟨7, []⟩ (iv .i64 z) l c | none => .bad 80) = _
  rw [h e (by simp), eqV_ii]
  by_cases g : z = toI e.key
  ·rw [decide_eq_true g]; simp [mapI, g]
  ·rw [decide_eq_false g]; show findE _ _ l c = _
   rw [findE_i z l c (fun x hx => h x (by simp [hx]))]
   simp only [mapI]; rw [if_neg (fun h => g h.symm)]
theorem lookup_i {s : S} {a : K} {es : List ME} {ck : Nat} (hg : Tr.get B.none a s.h = .map es ck) (hk : keysI es) (zero : V) (z : Int) (c : V → A) :
  xLookup ⟨7, []⟩ zero false (.ref 0 a) (iv .i64 z) s c = c ((mapI es z).getD zero) := by
 show hget s a _ = _
 rw [hget_eq, hg]
 show findE ⟨7, []⟩ (iv .i64 z) es (fun r => found zero false r c) = _
 rw [findE_i z es _ hk]
 cases mapI es z <;> rfl
theorem updE_i (z : Int) (val : V) (ck : Nat) : ∀ (es : List ME), keysI es → ∃ b es', (∀ c : Bool → List ME → A, updE ⟨7, []⟩ (iv .i64 z) val ck es c = c b es') ∧ keysI es' ∧ ∀ y, mapI es' y = if y = z then some val else mapI es y
 | [], _ => ⟨true, [⟨iv .i64 z, val, ck⟩], fun _ => rfl, fun e he => by simp at he; subst he; rw [toI_iv], fun y => by
   simp only [mapI]; rw [toI_iv]; by_cases g : y = z
   ·rw [if_pos g, if_pos g.symm]
   ·rw [if_neg g, if_neg (fun h => g h.symm)]⟩
 | e :: l, h => by
  obtain ⟨b, es', h1, h2, h3⟩ := updE_i z val ck l (fun x hx => h x (by simp [hx]))
  have hu : ∀ c : Bool → List ME → A, updE ⟨7, []⟩ (iv .i64 z) val ck (e :: l) c = (match eqV ⟨7, []⟩ false (iv .i64 z) e.key with | some true => c false (⟨iv .i64 z, val, e.born⟩ :: l) | some false => updE ⟨7, []⟩ (iv .i64 z) val ck l (fun b l => c b (e :: l)) | none => .bad 81) := fun _ => rfl
  by_cases g : z = toI e.key
  ·refine ⟨false, ⟨iv .i64 z, val, e.born⟩ :: l, fun c => by rw [hu, h e (by simp), eqV_ii, decide_eq_true g], ?_, fun y => ?_⟩
   ·intro x hx
    simp at hx
    rcases hx with rfl | hx
    ·show iv .i64 z = iv .i64 (toI (iv .i64 z)); rw [toI_iv]
    ·exact h x (by simp [hx])
   ·simp only [mapI]; rw [toI_iv, ← g]
    by_cases g' : z = y
    ·rw [if_pos g', if_pos g'.symm]
    ·rw [if_neg g', if_neg (fun h => g' h.symm), if_neg g']
  ·refine ⟨b, e :: es', fun c => by rw [hu, h e (by simp), eqV_ii, decide_eq_false g]; exact h1 _, ?_, fun y => ?_⟩
   ·intro x hx
    simp at hx
    rcases hx with rfl | hx
    ·exact h _ (by simp)
    ·exact h2 x hx
   ·simp only [mapI, h3]
    by_cases g' : toI e.key = y
    ·rw [if_pos g', if_pos g', if_neg (fun h => g (h.symm.trans g'.symm))]
    ·rw [if_neg g', if_neg g']
theorem mapUpd_i {s : S} {a : K} {es : List ME} {ck : Nat} (hg : Tr.get B.none a s.h = .map es ck) (hk : keysI es) (z : Int) (val : V) :
  ∃ es' ck', (∀ k : V → S → A, xMapUpd ⟨7, []⟩ (.ref 0 a) (iv .i64 z) val s k = k undef (setB s a (.map es' ck'))) ∧ keysI es' ∧ ∀ y, mapI es' y = if y = z then some val else mapI es y := by
 obtain ⟨b, es', h1, h2, h3⟩ := updE_i z val ck es hk
 refine ⟨es', Bool.rec (motive := fun _ => Nat) ck (Nat.succ ck) b, fun k => ?_, h2, h3⟩
 show hget s a _ = _
 rw [hget_eq, hg]
 show updE ⟨7, []⟩ (iv .i64 z) val ck es _ = _
 rw [h1, fN_eq, hset_eq]; rfl
theorem store_at {s : S} {a : K} {l : List V} {n el : Nat} (hg : Tr.get B.none a s.h = .row l n el false 0 0 0) (o : Nat) (x : V) (hx : ∀ c : List V → A, cellsC 1 x c = c [x]) (ho : o < n) (k : V → S → A) :
  xStore 1 (.ptr a 0 o) x s k = k undef (setB s a (.row (upd [x] o l) n el false 0 0 0)) := by
 show cellsC 1 x (fun l => writeCells s a 0 o 1 l (fun s => k undef s)) = _
 rw [hx]
 unfold writeCells
 rw [hget_eq, hg]
 show (Bool.rec (motive := fun _ => A) _ _ (wrOk n false 0 o (Nat.add o 1) 0 0) : A) = _
 rw [show wrOk n false 0 o (Nat.add o 1) 0 0 = true by
  show (Bool.rec (motive := fun _ => Bool) _ _ (Nat.ble (Nat.add o 1) n) : Bool) = _
  rw [show Nat.ble (Nat.add o 1) n = true from Nat.ble_eq_true_of_le (by show o + 1 ≤ n; omega)]; rfl]
 show updL [x] o l _ = _
 rw [updL_eq, hset_eq]; rfl
theorem load_at {s : S} {a : K} {l : List V} {n el : Nat} (hg : Tr.get B.none a s.h = .row l n el false 0 0 0) (o : Nat) (hn : l.length = n) (ho : o < n) (hx : l.getD o .bad ≠ .bad) (k : V → S → A) : xLoad false 1 (.ptr a 0 o) s k = k (l.getD o .bad) s := by
 have : Pt s (.ptr a 0 o) 1 (fun j => l.getD (o + j) .bad) := ⟨a, 0, o, l, n, el, false, 0, 0, 0, rfl, hg, hn, rdOk_or.2 (.inr ⟨rfl, by omega⟩), fun j _ => rfl⟩
 exact this.load1 (by omega) hx k
def Gr (b s : S) (v : V) : Prop := (v = .nil 1 ∨ ∃ a, v = .sl a 0 0 0 0 ∧ a.toNat < s.nx.toNat ∧ Tr.get B.none a s.h = .row [] 0 3 false 0 0 0) ∨ ∃ a n l, v = .so a n 0 n 0 ∧ b.nx.toNat ≤ a.toNat ∧ a.toNat < s.nx.toNat ∧ (∃ mn, mn ≤ n ∧ Tr.get B.none a s.h = .row l n 3 true mn 0 0) ∧ l.length = n ∧ ∀ x ∈ l, x = iv .i64 (toI x)
theorem Gr.sl {b s : S} {v : V} (h : Gr b s v) : Sl s 1 v := by
 rcases h with (rfl | ⟨a, rfl, h1, h2⟩) | ⟨a, n, l, rfl, h1, h2, ⟨mn, h3, h4⟩, h5, h6⟩
 ·exact .inl (.inl rfl)
 ·exact .inr ⟨a, 0, 0, 0, .inl ⟨0, rfl, Nat.le_refl _⟩, h1, _, _, _, _, _, _, _, h2, rfl, rdOk_or.2 (.inr ⟨rfl, Nat.le_refl _⟩)⟩
 ·exact .inr ⟨a, n, 0, n, .inr ⟨0, rfl⟩, h2, l, n, 3, true, mn, 0, 0, h4, h5, rdOk_or.2 (.inl ⟨rfl, h3, by omega, by omega⟩)⟩
theorem Gr.ints {b s : S} {v : V} (h : Gr b s v) (hl : lenV v ≤ 9223372036854775807) : Ints s v := by
 refine ⟨h.sl, hl, fun j hj => ?_⟩
 rcases h with (rfl | ⟨a, rfl, h1, h2⟩) | ⟨a, n, l, rfl, h1, h2, ⟨mn, h3, h4⟩, h5, h6⟩
 ·cases hj
 ·cases hj
 ·have hj' : j < l.length := by rw [h5]; exact hj
  simp only [cellV, h4, cellsB, Nat.zero_add]
  rw [List.getD_eq_getElem?_getD, List.getElem?_eq_getElem hj']
  exact h6 _ (List.getElem_mem hj')
theorem Gr.ext {b s s' : S} {v : V} (h : Gr b s v) (e : Ext s s') : Gr b s' v := by
 rcases h with (rfl | ⟨a, rfl, h1, h2⟩) | ⟨a, n, l, rfl, h1, h2, ⟨mn, h3, h4⟩, h5, h6⟩
 ·exact .inl (.inl rfl)
 ·exact .inl (.inr ⟨a, rfl, Nat.lt_of_lt_of_le h1 e.nx, (e.get a h1).trans h2⟩)
 ·exact .inr ⟨a, n, l, rfl, h1, Nat.lt_of_lt_of_le h2 e.nx, ⟨mn, h3, (e.get a h2).trans h4⟩, h5, h6⟩
theorem Gr.wordE {s : S} {a : K} {n mn : Nat} {l : List V} (h4 : Tr.get B.none a s.h = .row l n 3 true mn 0 0) (h5 : l.length = n) : word s (.so a n 0 n 0) = l.map toI := by
 apply List.ext_getElem?
 intro i
 by_cases hi : i < n
 ·rw [word_get (by exact hi)]
  rw [List.getElem?_map, List.getElem?_eq_getElem (by omega)]
  simp [intV, cellV, h4, cellsB, List.getD_eq_getElem?_getD, List.getElem?_eq_getElem (show i < l.length by omega)]
 ·rw [List.getElem?_eq_none (by simp [lenV]; omega), List.getElem?_eq_none (by simp; omega)]
theorem src_ints {s : S} {y : V} (h : Ints s y) (c : Nat → List V → A) : srcCells 1 y s c = c (lenV y) ((word s y).map (iv .i64)) := by
 have hw : (word s y).map (iv .i64) = (List.range (lenV y)).map (cellV s y) := by
  unfold word
  rw [List.map_map]
  apply List.map_congr_left
  intro j hj
  have := h.2.2 j (by simpa using hj)
  show iv .i64 (toI (cellV s y j)) = _
  exact this.symm
 have hne : ∀ j, j < lenV y → cellV s y j ≠ .bad := fun j hj => by rw [h.2.2 j hj]; exact iv_ne _ _
 rw [hw]
 have run : ∀ (a : K) (w o len : Nat) (l : List V) (n el : Nat) (gr : Bool) (mn f1 f2 : Nat), Tr.get B.none a s.h = .row l n el gr mn f1 f2 → l.length = n → rdOk n gr mn w (o + len * 1) = true → (∀ j, cellV s y j = l.getD (o + j) .bad) → lenV y = len →
   readCells s a w o (Nat.mul len 1) (fun l => c len l) = c len ((List.range len).map (cellV s y)) := by
  intro a w o len l n el gr mn f1 f2 g1 g2 g3 g4 g5
  subst g5
  have hn := rdOk_n g3
  unfold readCells
  rw [hget_eq, g1]
  show (Bool.rec (motive := fun _ => A) _ _ (rdOk n gr mn w (Nat.add o (Nat.mul (lenV y) 1))) : A) = _
  rw [show rdOk n gr mn w (Nat.add o (Nat.mul (lenV y) 1)) = true from g3]
  show dropL o l _ = _
  have e := cells_take (l := l) (o := o) (sz := lenV y) (f := cellV s y) (by omega) (fun j _ => (g4 j).symm)
  rw [dropL_eq]
  show takeK (lenV y * 1) _ _ = _
  rw [Nat.mul_one, takeK_eq _ _ _ (by rw [e]; intro x hx; simp at hx; obtain ⟨j, hj, rfl⟩ := hx; exact hne j hj), e]
 rcases h.1 with (rfl | rfl) | ⟨a, w, o, len, ⟨cap, rfl, _⟩ | ⟨e, rfl⟩, _, l, n, el, gr, mn, f1, f2, g1, g2, g3⟩
 ·rfl
 ·rfl
 ·exact run a w o len l n el gr mn f1 f2 g1 g2 g3 (fun j => by simp [cellV, g1, cellsB]) rfl
 ·exact run a w o len l n el gr mn f1 f2 g1 g2 g3 (fun j => by simp [cellV, g1, cellsB]) rfl
theorem growNew_eq (s : S) (l : List V) (need : Nat) (hn : need ≤ 1048576) (hl : l.length = need) (k : V → S → A) : growNew s 3 l need k = k (.so s.nx need 0 need 0) (addB s (.row l need 3 true 0 0 0)) := by
 show (Bool.rec (motive := fun _ => A) _ _ (Nat.ble need 1048576) : A) = _
 rw [Nat.ble_eq_true_of_le hn]
 show Go.Ev.newRow s 3 l true (fun a n s => k (.so a n 0 need 0) s) = _
 rw [newRow_add, hl]
theorem Gr.append {b s : S} {v : V} (h : Gr b s v) (hb : Ext b s) (new : List Int) (hlim : lenV v + new.length ≤ 1048576) :
  ∃ v' s', (∀ k : V → S → A, appendN 3 1 v new.length (new.map (iv .i64)) s k = k v' s') ∧ Ext b s' ∧ Gr b s' v' ∧ word s' v' = word s v ++ new ∧ s.nx.toNat ≤ s'.nx.toNat := by
 by_cases h0 : new = []
 ·subst h0
  refine ⟨v, s, fun k => ?_, hb, h, by simp, Nat.le_refl _⟩
  rcases h with (rfl | ⟨a, rfl, _⟩) | ⟨a, n, l, rfl, _⟩ <;> rfl
 ·have hpos : 0 < new.length := Nat.pos_of_ne_zero (fun h => h0 (List.length_eq_zero_iff.1 h))
  have hne : Nat.beq new.length 0 = false := by
   cases e : Nat.beq new.length 0 with
   | true => have := Nat.eq_of_beq_eq_true e; omega
   | false => rfl
  have hiv : ∀ x ∈ new.map (iv .i64), x = iv .i64 (toI x) := fun x hx => by
   obtain ⟨z, _, rfl⟩ := List.mem_map.1 hx
   rw [toI_iv]
  have htoI : (new.map (iv .i64)).map toI = new := by
   rw [List.map_map]
   conv => rhs; rw [← List.map_id new]
   exact List.map_congr_left fun z _ => toI_iv _ _
  rcases h with (rfl | ⟨a, rfl, h1, h2⟩) | ⟨a, n, l, rfl, h1, h2, ⟨mn, h3, h4⟩, h5, h6⟩
  ·refine ⟨.so s.nx new.length 0 new.length 0, addB s (.row (new.map (iv .i64)) new.length 3 true 0 0 0), fun k => ?_, hb.trans (ext_addB _ _), .inr ⟨s.nx, new.length, new.map (iv .i64), rfl, hb.nx, ?_, ⟨0, Nat.zero_le _, addB_get _ _⟩, by simp, hiv⟩, ?_, (ext_addB _ _).nx⟩
   ·show (Bool.rec (motive := fun _ => A) _ _ (Nat.beq new.length 0) : A) = _
    rw [hne]
    show growNew s 3 _ _ k = _
    rw [growNew_eq _ _ _ (by have : lenV (.nil 1) = 0 := rfl; omega) (by simp)]
   ·show s.nx.toNat < s.nx.succ.toNat
    rw [K.toNat_succ]; omega
   ·rw [Gr.wordE (addB_get _ _) (by simp), htoI]; rfl
  ·have hle : new.length ≤ 1048576 := by have : lenV (.sl a 0 0 0 0) = 0 := rfl; omega
   refine ⟨.so s.nx new.length 0 new.length 0, addB s (.row (new.map (iv .i64)) new.length 3 true 0 0 0), fun k => ?_, hb.trans (ext_addB _ _), .inr ⟨s.nx, new.length, new.map (iv .i64), rfl, hb.nx, ?_, ⟨0, Nat.zero_le _, addB_get _ _⟩, by simp, hiv⟩, ?_, (ext_addB _ _).nx⟩
   ·show (Bool.rec (motive := fun _ => A) _ _ (Nat.beq new.length 0) : A) = _
    rw [hne]
    show fN (Nat.add 0 new.length) _ = _
    rw [fN_eq]
    have e0 : Nat.add 0 new.length = new.length := Nat.zero_add _
    show (Bool.rec (motive := fun _ => A) (readCells s a 0 0 0 (fun old => appL old (new.map (iv .i64)) fun l => growNew s 3 l (Nat.add 0 new.length) k)) _ (Nat.ble (Nat.add 0 new.length) 0) : A) = _
    rw [e0, show Nat.ble new.length 0 = false by
     cases e : Nat.ble new.length 0 with
     | true => have := Nat.le_of_ble_eq_true e; omega
     | false => rfl]
    show readCells s a 0 0 0 _ = _
    unfold readCells
    rw [hget_eq, h2]
    show growNew s 3 (new.map (iv .i64)) new.length k = _
    rw [growNew_eq _ _ _ hle (by simp)]
   ·show s.nx.toNat < s.nx.succ.toNat
    rw [K.toNat_succ]; omega
   ·rw [Gr.wordE (addB_get _ _) (by simp), htoI]; rfl
  ·have hl' : lenV (.so a n 0 n 0) = n := rfl
   rw [hl'] at hlim
   have hstate : ∀ k : V → S → A, appendN 3 1 (.so a n 0 n 0) new.length (new.map (iv .i64)) s k = k (.so a (n + new.length) 0 (n + new.length) 0) (setB s a (.row (l ++ new.map (iv .i64)) (n + new.length) 3 true mn 0 0)) := by
    intro k
    show (Bool.rec (motive := fun _ => A) _ _ (Nat.beq new.length 0) : A) = _
    rw [hne]
    show fN (Nat.add n new.length) _ = _
    rw [fN_eq]
    show hget s a _ = _
    rw [hget_eq, h4]
    show fN (Nat.add 0 (Nat.mul n 1)) _ = _
    rw [fN_eq]
    show (Bool.rec (motive := fun _ => A) _ _ (andB (Nat.beq n n) (Nat.ble (Nat.add (Nat.add 0 (Nat.mul n 1)) (Nat.mul new.length 1)) n)) : A) = _
    have e0 : Nat.add 0 (Nat.mul n 1) = n := by show 0 + n * 1 = n; omega
    rw [e0, show Nat.beq n n = true from Nat.beq_refl n, show Nat.ble (Nat.add n (Nat.mul new.length 1)) n = false by
     cases e : Nat.ble (Nat.add n (Nat.mul new.length 1)) n with
     | true => have := Nat.le_of_ble_eq_true e; have e2 : Nat.add n (Nat.mul new.length 1) = n + new.length * 1 := rfl; omega
     | false => rfl]
    show (Bool.rec (motive := fun _ => A) _ _ (Nat.ble (Nat.add n new.length) 1048576) : A) = _
    rw [show Nat.ble (Nat.add n new.length) 1048576 = true from Nat.ble_eq_true_of_le hlim]
    show appL l (new.map (iv .i64)) _ = _
    rw [appL_eq, fN_eq, hset_eq]
    show k (.so a (n + new.length * 1) 0 (n + new.length) 0) ⟨Tr.set B.none (.row _ (n + new.length * 1) 3 true mn 0 0) a s.h, s.nx⟩ = _
    rw [Nat.mul_one]; rfl
   refine ⟨_, _, hstate, ⟨hb.nx, fun x hx => ?_⟩, .inr ⟨a, n + new.length, l ++ new.map (iv .i64), rfl, h1, h2, ⟨mn, by omega, ?_⟩, by simp [h5], ?_⟩, ?_, Nat.le_refl _⟩
   ·rw [setB_get, if_neg (fun e => by rw [e] at hx; omega)]; exact hb.get x hx
   ·rw [setB_get, if_pos rfl]
   ·intro x hx
    rcases List.mem_append.1 hx with hx | hx
    ·exact h6 x hx
    ·exact hiv x hx
   ·rw [Gr.wordE (mn := mn) (by rw [setB_get, if_pos rfl]) (by simp [h5]), Gr.wordE h4 h5, List.map_append, htoI]
theorem Gr.app {b s : S} {v y : V} (h : Gr b s v) (hb : Ext b s) (hy : Ints s y) (hlim : lenV v + lenV y ≤ 1048576) :
  ∃ v' s', (∀ k : V → S → A, xAppend 3 1 v y s k = k v' s') ∧ Ext b s' ∧ Gr b s' v' ∧ word s' v' = word s v ++ word s y ∧ s.nx.toNat ≤ s'.nx.toNat := by
 obtain ⟨v', s', h1, h2⟩ := h.append hb (word s y) (by rw [word_len]; exact hlim)
 refine ⟨v', s', fun k => ?_, h2⟩
 show srcCells 1 y s _ = _
 rw [src_ints hy]
 have := h1 k
 rwa [word_len] at this
theorem Ints.slice {s : S} {v : V} (h : Ints s v) (hf : Fx v) {lo hi : Option V} {a b : Nat} (h1 : bnd lo 0 a) (h2 : bnd hi (lenV v) b) (hab : a ≤ b) (hb : b ≤ lenV v) :
  ∃ u, (∀ el c, xSlice el 1 v lo hi none s c = c u) ∧ Ints s u ∧ Fx u ∧ lenV u = b - a ∧ Go.Ev.word s u = ((Go.Ev.word s v).drop a).take (b - a) := by
 obtain ⟨u, g1, g2, g3, g4, g5⟩ := h.1.slice hf h1 h2 hab hb
 have g4' : ∀ j, j < b - a → cellV s u j = cellV s v (a + j) := fun j hj => by
  have := g4 j (by omega)
  rwa [Nat.mul_one] at this
 refine ⟨u, g1, ⟨g2, by rw [g3]; have := h.2.1; omega, fun j hj => ?_⟩, g5, g3, ?_⟩
 ·rw [g3] at hj
  rw [g4' j hj]
  exact h.2.2 _ (by omega)
 ·apply List.ext_getElem?
  intro i
  by_cases hi : i < b - a
  ·rw [word_get (by rw [g3]; exact hi), List.getElem?_take_of_lt hi, List.getElem?_drop, word_get (by omega)]
   unfold intV; rw [g4' i hi]
  ·rw [List.getElem?_eq_none (by simp [g3]; omega), List.getElem?_eq_none (by simp; omega)]
theorem word_prefix {s : S} {x u : V} : word s u <+: word s x ↔ lenV u ≤ lenV x ∧ ∀ j, j < lenV u → intV s x j = intV s u j := by
 rw [List.prefix_iff_eq_take]
 constructor
 ·intro h
  have hl : lenV u ≤ lenV x := by have := congrArg List.length h; simp at this; omega
  refine ⟨hl, fun j hj => ?_⟩
  have := congrArg (·[j]?) h
  simp only [word_len] at this
  rw [word_get hj, List.getElem?_take_of_lt hj, word_get (by omega)] at this
  exact (Option.some.inj this).symm
 ·rintro ⟨h1, h2⟩
  apply List.ext_getElem?
  intro i
  by_cases hi : i < lenV u
  ·rw [word_get hi, List.getElem?_take_of_lt (by simpa using hi), word_get (by omega), h2 i hi]
  ·rw [List.getElem?_eq_none (by simp; omega), List.getElem?_eq_none (by simp; omega)]
@[simp] theorem xExtract0 (a : V) (l : List V) (c : V → A) : xExtract 0 (.ls 1 (a :: l)) c = c a := rfl
@[simp] theorem xExtract1 (a b : V) (l : List V) (c : V → A) : xExtract 1 (.ls 1 (a :: b :: l)) c = c b := rfl
theorem lenV_word {s : S} {v : V} : lenV v = (word s v).length := (word_len s v).symm
theorem hnew_add (s : S) (b : B) (c : K → S → A) : hnew s b c = c s.nx (addB s b) := hnew_eq s b c
theorem cellsC_ls (n : Nat) (l : List V) (h : l.length = n) (c : List V → A) : cellsC n (.ls 0 l) c = c l := by
 show lenL l (fun m => Bool.rec (motive := fun _ => A) _ _ (Nat.beq m n)) = _
 rw [lenL_eq, h, show Nat.beq n n = true from Nat.beq_refl n]
theorem cellsC_ref (t : Nat) (a : K) (c : List V → A) : cellsC 1 (.ref t a) c = c [.ref t a] := rfl
theorem cellsC_ptr (a : K) (v o : Nat) (c : List V → A) : cellsC 1 (.ptr a v o) c = c [.ptr a v o] := rfl
theorem field_ptr (off : Nat) (a : K) (v o : Nat) (c : V → A) : xFieldAddr off (.ptr a v o) c = c (.ptr a v (o + off)) := by
 show fN (Nat.add o off) (fun o => c (V.ptr a v o)) = _
 rw [fN_eq]; rfl
theorem nilCheck_ptr (a : K) (v o : Nat) (c : V → A) : xNilCheck (.ptr a v o) c = c (.ptr a v o) := rfl
theorem eql_ptr_nil (cst : Bool) (a : K) (v o : Nat) (c : V → A) : xBin ⟨1, []⟩ cst .eql (.ptr a v o) (.nil 0) c = c (.bool false) := rfl
theorem eql_nil_nil (cst : Bool) (c : V → A) : xBin ⟨1, []⟩ cst .eql (.nil 0) (.nil 0) c = c (.bool true) := rfl
theorem kbeq_self (a : K) : K.beq a a = true := by
 induction a with
 | h => rfl
 | o p ih => exact ih
 | i p ih => exact ih
theorem beqV_ref (a : K) (t : Nat) : beqV (.ref t a) (.ref t a) = true := by
 show andB (Nat.beq t t) (K.beq a a) = true
 rw [kbeq_self, Nat.beq_refl]; rfl
end Go.Ev

namespace Go.Ev
open Go.RowKit
theorem lim_bits (k : IntKind) : lim k ≤ 2 ^ k.bits := by cases k <;> decide
theorem ofInt_nat (n a : Nat) : BitVec.ofInt n (a : Int) = BitVec.ofNat n a := by
 apply BitVec.eq_of_toNat_eq
 simp
section
variable (q : EK) (cst : Bool) (k : IntKind) (c : V → A)
theorem and_nat {a b : Nat} (ha : a < lim k) (hb : b < lim k) : xBin q cst .and (iv k (a : Int)) (iv k (b : Int)) c = c (iv k ((a &&& b : Nat) : Int)) := by
 have h := lim_bits k
 show xBin q cst .and (.nat k a) (.nat k b) c = _
 rw [xBin_nn]
 show wrapV k ((BitVec.ofInt k.bits (a : Int) &&& BitVec.ofInt k.bits (b : Int)).toNat : Int) c = _
 rw [wrapV_eq, ofInt_nat, ofInt_nat, BitVec.toNat_and, BitVec.toNat_ofNat, BitVec.toNat_ofNat, Nat.mod_eq_of_lt (by omega), Nat.mod_eq_of_lt (by omega)]
 have := wrap_nat (k := k) (n := a &&& b) (by have := Nat.and_le_left (n := a) (m := b); omega)
 rw [show ((a &&& b : Nat) : Int) = Int.ofNat (a &&& b) from rfl, this]
theorem or_nat {a b : Nat} (ha : a < lim k) (hb : b < lim k) : xBin q cst .or (iv k (a : Int)) (iv k (b : Int)) c = c (iv k ((a ||| b : Nat) : Int)) := by
 have h := lim_bits k
 show xBin q cst .or (.nat k a) (.nat k b) c = _
 rw [xBin_nn]
 show wrapV k ((BitVec.ofInt k.bits (a : Int) ||| BitVec.ofInt k.bits (b : Int)).toNat : Int) c = _
 rw [wrapV_eq, ofInt_nat, ofInt_nat, BitVec.toNat_or, BitVec.toNat_ofNat, BitVec.toNat_ofNat, Nat.mod_eq_of_lt (by omega), Nat.mod_eq_of_lt (by omega)]
 have hor : a ||| b < lim k := by
  have : ∃ n, lim k = 2 ^ n := by cases k <;> first | exact ⟨7, rfl⟩ | exact ⟨8, rfl⟩ | exact ⟨15, rfl⟩ | exact ⟨16, rfl⟩ | exact ⟨31, rfl⟩ | exact ⟨32, rfl⟩ | exact ⟨63, rfl⟩ | exact ⟨64, rfl⟩
  obtain ⟨n, hn⟩ := this
  rw [hn] at ha hb ⊢
  exact Nat.or_lt_two_pow ha hb
 have := wrap_nat (k := k) (n := a ||| b) hor
 rw [show ((a ||| b : Nat) : Int) = Int.ofNat (a ||| b) from rfl, this]
end
theorem conv_nat (k j : IntKind) {n : Nat} (h : n < lim k) (c : V → A) : xIntConv k (iv j (n : Int)) c = c (iv k (n : Int)) := by
 show natR k n c = _
 rw [natR_eq, wrap_nat h]; rfl
theorem shl_nat (k j : IntKind) {a b : Nat} (hb : b ≤ k.bits) (h : a * 2 ^ b < lim k) (c : V → A) : xShift .shl (iv k (a : Int)) (iv j (b : Int)) c = c (iv k ((a * 2 ^ b : Nat) : Int)) := by
 show fN (min b k.bits) (fun n => wrapV k (Int.mul (toI (.nat k a)) (Int.ofNat (Nat.pow 2 n))) c) = _
 rw [fN_eq, wrapV_eq, Nat.min_eq_left hb]
 have e : Int.mul (toI (.nat k a)) (Int.ofNat (Nat.pow 2 b)) = Int.ofNat (a * 2 ^ b) := by
  show (a : Int) * ((2 ^ b : Nat) : Int) = ((a * 2 ^ b : Nat) : Int)
  rw [Int.natCast_mul]
 rw [e, wrap_nat h]; rfl
theorem shr_nat (k j : IntKind) {a b : Nat} (hb : b ≤ k.bits) (c : V → A) : xShift .shr (iv k (a : Int)) (iv j (b : Int)) c = c (iv k ((a / 2 ^ b : Nat) : Int)) := by
 show fN (min b k.bits) (fun n => ofI k ((toI (.nat k a)).fdiv (Int.ofNat (Nat.pow 2 n))) c) = _
 rw [fN_eq, ofI_iv, Nat.min_eq_left hb]
 congr 2
 show Int.fdiv (a : Int) ((2 ^ b : Nat) : Int) = _
 rw [Int.fdiv_eq_ediv_of_nonneg _ (Int.natCast_nonneg _)]
 exact (Int.natCast_ediv a (2 ^ b)).symm
theorem lenT_s (l : List Nat) (c : V → A) : xLenT (.str l) c = c (iv .i64 (l.length : Int)) := by
 show lenL l (fun n => c (.nat .i64 n)) = _
 rw [lenL_eq]; rfl
theorem nthN_get {β : Type} (d : β) : ∀ (i : Nat) (l : List Nat) (c : Nat → β), i < l.length → nthN i l c d = c (l.getD i 0)
 | 0, [], _, h => by cases h
 | 0, x :: l, c, _ => rfl
 | n + 1, [], _, h => by cases h
 | n + 1, x :: l, c, h => by
  show nthN n l c d = _
  rw [nthN_get d n l c (by simpa using h)]; rfl
theorem idxS_s (l : List Nat) (k : IntKind) {i : Nat} (h : i < l.length) (c : V → A) : xIndexS (.str l) (iv k (i : Int)) c = c (iv .u8 (l.getD i 0 : Nat)) := by
 show nthN i l (fun b => c (.nat .u8 b)) (.bad 93) = _
 rw [nthN_get _ i l _ h]; rfl
theorem sliceT_s (l : List Nat) {lo hi : Option V} {a b : Nat} (h1 : bnd lo 0 a) (h2 : bnd hi l.length b) (hab : a ≤ b) (hb : b ≤ l.length) (c : V → A) : xSliceT (.str l) lo hi c = c (.str ((l.drop a).take (b - a))) := by
 show lenL l (fun n => boundN lo 0 fun a => boundN hi n fun b => (Bool.rec (motive := fun _ => A) (.bad 61) (dropL a l (fun l => takeL (Nat.sub b a) l fun l => c (.str l))) (andB (Nat.ble a b) (Nat.ble b n)))) = _
 rw [lenL_eq, h1.run, h2.run]
 rw [show Nat.ble a b = true from Nat.ble_eq_true_of_le hab, show Nat.ble b l.length = true from Nat.ble_eq_true_of_le hb]
 show dropL a l _ = _
 rw [dropL_eq, takeL_eq]; rfl
def firstF (b : Nat) : Nat := if b < 128 then 240 else if b < 194 then 241 else if b < 224 then 2 else if b = 224 then 19 else if b < 237 then 3 else if b = 237 then 35 else if b < 240 then 3 else if b = 240 then 52 else if b < 244 then 4 else if b = 244 then 68 else 241
def firstL : List Nat := (List.range 256).map firstF
def accL : List Nat := [128, 191, 160, 191, 128, 159, 144, 191, 128, 143] ++ List.replicate 22 0
def powL : List Nat := (List.range 20).map (10 ^ ·)
structure Tabs (s : S) : Prop where
 first : ∃ el f2, Tr.get B.none (.o .h) s.h = .row (firstL.map fun n : Nat => iv .u8 (n : Int)) 256 el false 0 0 f2
 acc : ∃ el f2, Tr.get B.none (.i .h) s.h = .row (accL.map fun n : Nat => iv .u8 (n : Int)) 32 el false 0 0 f2
 pow : ∃ el f2, Tr.get B.none .h s.h = .row (powL.map fun n : Nat => iv .u64 (n : Int)) 20 el false 0 0 f2
 nx : 3 < s.nx.toNat
theorem Tabs.ext {s s' : S} (h : Tabs s) (e : Ext s s') : Tabs s' := by
 obtain ⟨⟨el, f2, h1⟩, ⟨el', f2', h2⟩, ⟨el'', f2'', h4⟩, h3⟩ := h
 exact ⟨⟨el, f2, (e.get _ (by show 2 < _; omega)).trans h1⟩, ⟨el', f2', (e.get _ (by show 3 < _; omega)).trans h2⟩, ⟨el'', f2'', (e.get _ (by show 1 < _; omega)).trans h4⟩, Nat.lt_of_lt_of_le h3 e.nx⟩
theorem row_pt {s : S} {a : K} {l : List V} {n el f2 : Nat} (h : Tr.get B.none a s.h = .row l n el false 0 0 f2) (hl : l.length = n) {o m : Nat} (ho : o + m ≤ n) : Pt s (.ptr a 0 o) m (fun j => l.getD (o + j) .bad) :=
 ⟨a, 0, o, l, n, el, false, 0, 0, f2, rfl, h, hl, rdOk_or.2 (.inr ⟨rfl, ho⟩), fun _ _ => rfl⟩
theorem idxA_p (n sz : Nat) (a : K) (v o i : Nat) (k : IntKind) (h : i < n) (c : V → A) : xIdxAddrA n sz (.ptr a v o) (iv k (i : Int)) c = c (.ptr a v (o + i * sz)) := by
 show (Bool.rec (motive := fun _ => A) (.bad 56) (fN (Nat.add o (Nat.mul i sz)) (fun o => c (.ptr a v o))) (Nat.blt i n) : A) = _
 rw [show Nat.blt i n = true by rw [Nat.blt_eq]; exact h]
 show fN _ _ = _
 rw [fN_eq]; rfl
end Go.Ev

namespace Go.Ev
open Go.RowKit
def blkOf : V → Option K
 | .so a _ _ _ _ => some a
 | .sl a _ _ _ _ => some a
 | .ptr a _ _ => some a
 | .ref _ a => some a
 | _ => none
def Gz (el sz : Nat) (b s : S) (v : V) (l : List (List V)) : Prop := (v = .nil 1 ∧ l = []) ∨ ∃ a mn, v = .so a (l.length * sz) 0 l.length 0 ∧ b.nx.toNat ≤ a.toNat ∧ a.toNat < s.nx.toNat ∧ (0 < l.length ∧ mn ≤ l.length * sz) ∧ Tr.get B.none a s.h = .row l.flatten (l.length * sz) el true mn 0 0 ∧ ∀ x ∈ l, x.length = sz
theorem Gz.ext {el sz : Nat} {b s s' : S} {v : V} {l : List (List V)} (h : Gz el sz b s v l) (e : Ext s s') : Gz el sz b s' v l := by
 rcases h with h | ⟨a, mn, rfl, h1, h2, h3, h4, h5⟩
 ·exact .inl h
 ·exact .inr ⟨a, mn, rfl, h1, Nat.lt_of_lt_of_le h2 e.nx, h3, (e.get a h2).trans h4, h5⟩
theorem Gz.blk {el sz : Nat} {b s : S} {v : V} {l : List (List V)} (h : Gz el sz b s v l) {c : K} (hc : blkOf v = some c) : b.nx.toNat ≤ c.toNat ∧ c.toNat < s.nx.toNat := by
 rcases h with ⟨rfl, rfl⟩ | ⟨a, mn, rfl, h1, h2, h3, h4, h5⟩
 ·cases hc
 ·cases hc; exact ⟨h1, h2⟩
theorem Gz.keep {el sz : Nat} {b s s' : S} {v : V} {l : List (List V)} (h : Gz el sz b s v l) (hn : s.nx.toNat ≤ s'.nx.toNat) (hk : ∀ c, blkOf v = some c → Tr.get B.none c s'.h = Tr.get B.none c s.h) : Gz el sz b s' v l := by
 rcases h with h | ⟨a, mn, rfl, h1, h2, h3, h4, h5⟩
 ·exact .inl h
 ·exact .inr ⟨a, mn, rfl, h1, by omega, h3, (hk a rfl).trans h4, h5⟩
theorem Gz.len {el sz : Nat} {b s : S} {v : V} {l : List (List V)} (h : Gz el sz b s v l) (c : V → A) : xLenS v c = c (iv .i64 (l.length : Int)) := by
 rcases h with ⟨rfl, rfl⟩ | ⟨a, mn, rfl, h1, h2, h3, h4, h5⟩ <;> rfl
theorem flat_len {sz : Nat} : ∀ {l : List (List V)}, (∀ x ∈ l, x.length = sz) → l.flatten.length = l.length * sz
 | [], _ => by simp
 | x :: l, h => by
  rw [List.flatten_cons, List.length_append, flat_len (l := l) fun y hy => h y (by simp [hy]), h x (by simp), List.length_cons, Nat.add_mul]; omega
theorem flat_get {sz : Nat} : ∀ {l : List (List V)}, (∀ x ∈ l, x.length = sz) → ∀ {i j : Nat}, i < l.length → j < sz → l.flatten.getD (i * sz + j) .bad = (l.getD i []).getD j .bad
 | [], _, _, _, hi, _ => by cases hi
 | x :: l, h, 0, j, _, hj => by
  have hx := h x (by simp)
  rw [List.flatten_cons, List.getD_eq_getElem?_getD, List.getElem?_append_left (by omega), Nat.zero_mul, Nat.zero_add]
  rw [← List.getD_eq_getElem?_getD]; rfl
 | x :: l, h, i + 1, j, hi, hj => by
  have hx := h x (by simp)
  have := flat_get (l := l) (fun y hy => h y (by simp [hy])) (i := i) (j := j) (by simpa using hi) hj
  rw [List.flatten_cons, List.getD_eq_getElem?_getD, List.getElem?_append_right (by rw [hx, Nat.add_mul]; omega), hx, show (i + 1) * sz + j - sz = i * sz + j by rw [Nat.add_mul]; omega, ← List.getD_eq_getElem?_getD, this]; rfl
theorem Gz.sl {el sz : Nat} {b s : S} {v : V} {l : List (List V)} (h : Gz el sz b s v l) : Sl s sz v ∧ lenV v = l.length ∧ ∀ i j, i < l.length → j < sz → cellV s v (i * sz + j) = (l.getD i []).getD j .bad := by
 rcases h with ⟨rfl, rfl⟩ | ⟨a, mn, rfl, h1, h2, h3, h4, h5⟩
 ·exact ⟨.inl (.inl rfl), rfl, fun i j hi => by cases hi⟩
 ·refine ⟨.inr ⟨a, _, 0, l.length, .inr ⟨0, rfl⟩, h2, _, _, el, true, mn, 0, 0, h4, flat_len h5, rdOk_or.2 (.inl ⟨rfl, h3.2, Nat.le_refl _, by omega⟩)⟩, rfl, fun i j hi hj => ?_⟩
  rw [← flat_get h5 hi hj]
  simp [cellV, h4, cellsB]
theorem growNew_z (s : S) (el : Nat) (l : List V) (need : Nat) (hn : need ≤ 1048576) (k : V → S → A) : growNew s el l need k = k (.so s.nx l.length 0 need 0) (addB s (.row l l.length el true 0 0 0)) := by
 show (Bool.rec (motive := fun _ => A) _ _ (Nat.ble need 1048576) : A) = _
 rw [Nat.ble_eq_true_of_le hn]
 show Go.Ev.newRow s el l true (fun a n s => k (.so a n 0 need 0) s) = _
 rw [newRow_add]
theorem Gz.append {el sz : Nat} {b s : S} {v : V} {l : List (List V)} (h : Gz el sz b s v l) (hb : b.nx.toNat ≤ s.nx.toNat) (hsz : 0 < sz) (new : List (List V)) (hnew : ∀ x ∈ new, x.length = sz) (hlim : l.length + new.length ≤ 1048576) :
  ∃ v' s', (∀ k : V → S → A, appendN el sz v new.length new.flatten s k = k v' s') ∧ Gz el sz b s' v' (l ++ new) ∧ s.nx.toNat ≤ s'.nx.toNat ∧
   (∀ c, c.toNat < s.nx.toNat → blkOf v ≠ some c → Tr.get B.none c s'.h = Tr.get B.none c s.h) ∧ (blkOf v' = blkOf v ∨ ∀ c, blkOf v' = some c → s.nx.toNat ≤ c.toNat) := by
 by_cases h0 : new = []
 ·subst h0
  refine ⟨v, s, fun k => ?_, by simpa using h, Nat.le_refl _, fun _ _ _ => rfl, .inl rfl⟩
  rcases h with ⟨rfl, rfl⟩ | ⟨a, mn, rfl, _⟩ <;> rfl
 ·have hpos : 0 < new.length := Nat.pos_of_ne_zero (fun h => h0 (List.length_eq_zero_iff.1 h))
  have hne : Nat.beq new.length 0 = false := by
   cases e : Nat.beq new.length 0 with
   | true => have := Nat.eq_of_beq_eq_true e; omega
   | false => rfl
  have hfl := flat_len hnew
  rcases h with ⟨rfl, rfl⟩ | ⟨a, mn, rfl, h1, h2, h3, h4, h5⟩
  ·refine ⟨.so s.nx (new.length * sz) 0 new.length 0, addB s (.row new.flatten (new.length * sz) el true 0 0 0), fun k => ?_, .inr ⟨s.nx, 0, rfl, hb, ?_, ⟨hpos, Nat.zero_le _⟩, by rw [addB_get]; rfl, hnew⟩, (ext_addB _ _).nx, fun c hc _ => (ext_addB _ _).get c hc, .inr fun c hc => by cases hc; exact Nat.le_refl _⟩
   ·show (Bool.rec (motive := fun _ => A) _ _ (Nat.beq new.length 0) : A) = _
    rw [hne]
    show growNew s el _ _ k = _
    rw [growNew_z _ _ _ _ (by have : ([] : List (List V)).length = 0 := rfl; omega), hfl]
   ·show s.nx.toNat < s.nx.succ.toNat
    rw [K.toNat_succ]; omega
  ·have hstate : ∀ k : V → S → A, appendN el sz (.so a (l.length * sz) 0 l.length 0) new.length new.flatten s k = k (.so a (l.length * sz + new.length * sz) 0 (l.length + new.length) 0) (setB s a (.row (l.flatten ++ new.flatten) (l.length * sz + new.length * sz) el true mn 0 0)) := by
    intro k
    have hmul : 0 < new.length * sz := Nat.mul_pos hpos hsz
    show (Bool.rec (motive := fun _ => A) _ _ (Nat.beq new.length 0) : A) = _
    rw [hne]
    show fN (Nat.add l.length new.length) _ = _
    rw [fN_eq]
    show hget s a _ = _
    rw [hget_eq, h4]
    show fN (Nat.add 0 (Nat.mul l.length sz)) _ = _
    rw [fN_eq]
    show (Bool.rec (motive := fun _ => A) _ _ (andB (Nat.beq el el) true) : A) = _
    rw [show Nat.beq el el = true from Nat.beq_refl el]
    show (Bool.rec (motive := fun _ => A) _ _ (andB (Nat.beq (l.length * sz) (l.length * sz)) (Nat.ble (Nat.add (Nat.add 0 (Nat.mul l.length sz)) (Nat.mul new.length sz)) (l.length * sz))) : A) = _
    have e0 : Nat.add 0 (Nat.mul l.length sz) = l.length * sz := by show 0 + l.length * sz = _; omega
    rw [e0, show Nat.beq (l.length * sz) (l.length * sz) = true from Nat.beq_refl _, show Nat.ble (Nat.add (l.length * sz) (Nat.mul new.length sz)) (l.length * sz) = false by
     cases e : Nat.ble (Nat.add (l.length * sz) (Nat.mul new.length sz)) (l.length * sz) with
     | true => have := Nat.le_of_ble_eq_true e; have e2 : Nat.add (l.length * sz) (Nat.mul new.length sz) = l.length * sz + new.length * sz := rfl; omega
     | false => rfl]
    show (Bool.rec (motive := fun _ => A) _ _ (Nat.ble (Nat.add l.length new.length) 1048576) : A) = _
    rw [show Nat.ble (Nat.add l.length new.length) 1048576 = true from Nat.ble_eq_true_of_le (by show l.length + new.length ≤ _; omega)]
    show appL l.flatten new.flatten _ = _
    rw [appL_eq, fN_eq, hset_eq]; rfl
   refine ⟨_, _, hstate, .inr ⟨a, mn, by rw [List.length_append, Nat.add_mul], h1, h2, ⟨by rw [List.length_append]; omega, by rw [List.length_append, Nat.add_mul]; omega⟩, ?_, fun x hx => ?_⟩, Nat.le_refl _, fun c hc hne => ?_, .inl rfl⟩
   ·rw [setB_get, if_pos rfl, List.flatten_append, List.length_append, Nat.add_mul]
   ·rcases List.mem_append.1 hx with h | h
    ·exact h5 x h
    ·exact hnew x h
   ·rw [setB_get, if_neg (fun e => hne (by rw [e]; rfl))]
theorem src_z {s : S} (el sz : Nat) {x : List V} (hx : ∀ y ∈ x, y ≠ .bad) (hl : x.length = sz) (c : Nat → List V → A) : srcCells sz (.sl s.nx 0 0 1 1) (addB s (.row x sz el false 0 0 0)) c = c 1 x := by
 show readCells _ s.nx 0 0 (Nat.mul 1 sz) _ = _
 unfold readCells
 rw [hget_eq, addB_get]
 have e1 : Nat.mul 1 sz = sz := Nat.one_mul sz
 show (Bool.rec (motive := fun _ => A) _ _ (rdOk sz false 0 0 (Nat.add 0 (Nat.mul 1 sz))) : A) = _
 rw [e1, show rdOk sz false 0 0 (Nat.add 0 sz) = true from rdOk_or.2 (.inr ⟨rfl, by show 0 + sz ≤ sz; omega⟩)]
 show dropL 0 x _ = _
 rw [dropL_eq]
 show takeK sz _ _ = _
 have e : (x.drop 0).take sz = x := by rw [List.drop_zero, List.take_of_length_le (by omega)]
 rw [takeK_eq _ _ _ (by rw [e]; exact hx), e]
theorem Gz.app1 {el sz : Nat} {b s : S} {v : V} {l : List (List V)} (h : Gz el sz b s v l) (hb : b.nx.toNat ≤ s.nx.toNat) (hsz : 0 < sz) {x : List V} (hx : ∀ y ∈ x, y ≠ .bad) (hl : x.length = sz) (hlim : l.length + 1 ≤ 1048576) :
  ∃ v' s', (∀ k : V → S → A, xAppend el sz v (.sl s.nx 0 0 1 1) (addB s (.row x sz el false 0 0 0)) k = k v' s') ∧ Gz el sz b s' v' (l ++ [x]) ∧ s.nx.toNat ≤ s'.nx.toNat ∧
   (∀ c, c.toNat < s.nx.toNat → blkOf v ≠ some c → Tr.get B.none c s'.h = Tr.get B.none c s.h) ∧ (blkOf v' = blkOf v ∨ ∀ c, blkOf v' = some c → s.nx.toNat ≤ c.toNat) := by
 have hE := ext_addB s (.row x sz el false 0 0 0)
 obtain ⟨v', s', h1, h2, h3, h4, h5⟩ := (h.ext hE).append (by have := hE.nx; omega) hsz [x] (fun y hy => by simp at hy; subst hy; exact hl) (by simpa using hlim)
 refine ⟨v', s', fun k => ?_, h2, Nat.le_trans hE.nx h3, fun c hc hn => ?_, ?_⟩
 ·show srcCells sz (.sl s.nx 0 0 1 1) _ _ = _
  rw [src_z _ _ hx hl]
  have := h1 k
  simpa using this
 ·rw [h4 c (Nat.lt_of_lt_of_le hc hE.nx) hn, hE.get c hc]
 ·rcases h5 with h5 | h5
  ·exact .inl h5
  ·exact .inr fun c hc => by have := h5 c hc; have := hE.nx; omega
theorem ext_of {b s s' : S} (hb : Ext b s) (hn : s.nx.toNat ≤ s'.nx.toNat) {D : K → Prop} (hk : ∀ c, c.toNat < s.nx.toNat → ¬ D c → Tr.get B.none c s'.h = Tr.get B.none c s.h) (hD : ∀ c, D c → b.nx.toNat ≤ c.toNat) : Ext b s' :=
 ⟨Nat.le_trans hb.nx hn, fun c hc => by
  rw [hk c (Nat.lt_of_lt_of_le hc hb.nx) (fun h => by have := hD c h; omega)]
  exact hb.get c hc⟩
variable {P : Program}
theorem Rk_at {K : Nat → Ct} {L : Nat → Lt} {f : Nat} {a : List V} {s : S} (h : ∃ v s', CallX P f a s v s' ∧ (K f).post a s v s') (hp : (K f).pre a s) : ∃ v s', (Rk P K L).call f a s = .ret v s' ∧ (K f).post a s v s' := by
 obtain ⟨v, s', h1, h2⟩ := h
 obtain ⟨v, s', h3, h4⟩ := Rq_call (P := P) (Q := fun f a s v s' => (K f).pre a s → (K f).post a s v s') (QC := fun _ c tm s a => (L (sizeC c)).pre tm s → (L (sizeC c)).post tm s a) ⟨v, s', h1, fun _ => h2⟩
 exact ⟨v, s', h3, h4 hp⟩
theorem makeS_z (el by_ : Nat) (zc : List V) (n : Nat) (hn : n ≤ 281474976710656) (hby : by_ * n ≤ 281474976710656) (s : S) (k : V → S → A) :
  xMakeSlice el by_ zc (iv .i64 (n : Int)) (iv .i64 (n : Int)) s k = repL zc n (fun cs => k (.sl s.nx 0 0 n n) (addB s (.row cs cs.length el false 0 0 0))) := by
 show (Bool.rec (motive := fun _ => A) (.bad 96) (repL zc n (fun cs => newRow s el cs false fun a _ s => k (.sl a 0 0 n n) s)) (andB (Nat.ble n n) (andB (Nat.ble n 281474976710656) (Nat.ble (Nat.mul by_ n) 281474976710656)))) = _
 rw [show Nat.ble n n = true from Nat.ble_eq_true_of_le (Nat.le_refl _), show Nat.ble n 281474976710656 = true from Nat.ble_eq_true_of_le hn, show Nat.ble (Nat.mul by_ n) 281474976710656 = true from Nat.ble_eq_true_of_le hby]
 show repL zc n (fun cs => newRow s el cs false fun a _ s => k (.sl a 0 0 n n) s) = _
 congr 1
 funext cs
 rw [newRow_add]
end Go.Ev

namespace Go.Ev
open Go.RowKit
variable {P : Program}
def A.all (Q : A → Prop) : A → Prop
 | .alt a b => a.all Q ∧ b.all Q
 | a => Q a
def F.all (Q : V → S → Prop) : F → Prop
 | .ret v s => Q v s
 | .alt a b => a.all Q ∧ b.all Q
 | _ => False
theorem F.all.nb {Q : V → S → Prop} : ∀ {x : F}, x.all Q → ¬ x.isBad
 | .ret _ _, _ => fun h => h
 | .alt _ _, h => fun g => g.elim (F.all.nb h.1) (F.all.nb h.2)
theorem F.all.imp {Q R : V → S → Prop} (H : ∀ v s, Q v s → R v s) : ∀ {x : F}, x.all Q → x.all R
 | .ret _ _, h => H _ _ h
 | .alt _ _, h => ⟨F.all.imp H h.1, F.all.imp H h.2⟩
theorem A.all.nb {Q : A → Prop} (hQ : ∀ a, Q a → ¬ a.isBad) : ∀ {x : A}, x.all Q → ¬ x.isBad
 | .alt _ _, h => fun g => g.elim (A.all.nb hQ h.1) (A.all.nb hQ h.2)
 | .nrm _ _, h => hQ _ h
 | .ext _ _ _, h => hQ _ h
 | .ret _ _, h => hQ _ h
 | .pnc _ _, h => hQ _ h
 | .fin _ _, h => hQ _ h
 | .bad _, h => hQ _ h
theorem A.all.imp {Q R : A → Prop} (H : ∀ a, Q a → R a) : ∀ {x : A}, x.all Q → x.all R
 | .alt _ _, h => ⟨A.all.imp H h.1, A.all.imp H h.2⟩
 | .nrm _ _, h => H _ h
 | .ext _ _ _, h => H _ h
 | .ret _ _, h => H _ h
 | .pnc _ _, h => H _ h
 | .fin _ _, h => H _ h
 | .bad _, h => H _ h
def A.leaf : A → Prop | .alt _ _ => False | _ => True
theorem A.all_leaf {Q : A → Prop} {a : A} (h : a.leaf) (hq : Q a) : a.all Q := by
 cases a <;> first | exact h.elim | exact hq
theorem A.all_bind {f : T → S → A} {g : Nat → T → S → A} {h : T → S → A} {R Q : A → Prop} (H : ∀ x, A.leaf x → R x → (bindA f g h x).all Q) : ∀ {a : A}, a.all R → (bindA f g h a).all Q
 | .alt _ _, k => ⟨A.all_bind H k.1, A.all_bind H k.2⟩
 | .nrm _ _, k => H _ trivial k
 | .ext _ _ _, k => H _ trivial k
 | .ret _ _, k => H _ trivial k
 | .pnc _ _, k => H _ trivial k
 | .fin _ _, k => H _ trivial k
 | .bad _, k => H _ trivial k
theorem A.all_seq {f : T → S → A} {R Q : A → Prop} (H : ∀ x, A.leaf x → R x → (seqA f x).all Q) {a : A} (h : a.all R) : (seqA f a).all Q := A.all_bind H h
noncomputable def blockN (id : Nat) (a : A) : A := bindA (fun tm s => .nrm tm s) (fun i tm s => boolA (Nat.beq i id) (.nrm tm s) (.ext i tm s)) (fun tm s => .ret tm s) a
@[simp] theorem blockN_nrm (i : Nat) (tm : T) (s : S) : blockN i (.nrm tm s) = .nrm tm s := rfl
@[simp] theorem blockN_ret (i : Nat) (tm : T) (s : S) : blockN i (.ret tm s) = .ret tm s := rfl
@[simp] theorem blockN_eq (i : Nat) (tm : T) (s : S) : blockN i (.ext i tm s) = .nrm tm s := by
  show boolA (Nat.beq i i) (.nrm tm s) (.ext i tm s) = _
  rw [Nat.beq_refl]; rfl
theorem blockN_ext {i j : Nat} (h : j ≠ i) (tm : T) (s : S) : blockN i (.ext j tm s) = .ext j tm s := by
 show boolA (Nat.beq j i) (.nrm tm s) (.ext j tm s) = _
 rw [show Nat.beq j i = false by cases e : Nat.beq j i with | false => rfl | true => exact absurd (Nat.eq_of_beq_eq_true e) h]; rfl
theorem A.all_block {i : Nat} {R Q : A → Prop} (H : ∀ x, A.leaf x → R x → (blockN i x).all Q) {a : A} (h : a.all R) : (blockN i a).all Q := A.all_bind H h
theorem A.all_fold {k : V → S → A} {R : V → S → Prop} {Q : A → Prop} (H : ∀ v s, R v s → (k v s).all Q) : ∀ {x : F}, x.all R → (foldF x k).all Q
 | .ret _ _, h => H _ _ h
 | .alt _ _, h => ⟨A.all_fold H h.1, A.all_fold H h.2⟩
theorem A.all_pick {f : ME → List ME → A} {Q : A → Prop} : ∀ {l : List ME} (pre : List ME), l ≠ [] → (∀ l1 e l2, l = l1 ++ e :: l2 → (f e (pre ++ (l1 ++ l2))).all Q) → (pickE f l pre).all Q
 | [], _, h, _ => absurd rfl h
 | [e], pre, _, H => by
  have : pickE f [e] pre = appL pre [] fun r => f e r := rfl
  rw [this, appL_eq]
  exact H [] e [] rfl
 | e :: e' :: t, pre, _, H => by
  have : pickE f (e :: e' :: t) pre = appL pre (e' :: t) fun r => A.alt (f e r) (appL pre [e] fun pre => pickE f (e' :: t) pre) := rfl
  rw [this, appL_eq, appL_eq]
  refine ⟨H [] e (e' :: t) rfl, A.all_pick (l := e' :: t) (pre ++ [e]) (by simp) fun l1 x l2 h => ?_⟩
  have := H (e :: l1) x l2 (by rw [h]; rfl)
  simpa using this
theorem F.all_fn {fin : T → S → A} {Q : V → S → Prop} {R : A → Prop} (H : ∀ x, A.leaf x → R x → (outF (bindR fin x)).all Q) : ∀ {a : A}, a.all R → (outF (bindR fin a)).all Q
 | .alt _ _, k => ⟨F.all_fn H k.1, F.all_fn H k.2⟩
 | .nrm _ _, k => H _ trivial k
 | .ext _ _ _, k => H _ trivial k
 | .ret _ _, k => H _ trivial k
 | .pnc _ _, k => H _ trivial k
 | .fin _ _, k => H _ trivial k
 | .bad _, k => H _ trivial k
open Classical in
noncomputable def RqN (P : Program) (Q : Nat → List V → S → F → Prop) (QC : FI → Code → T → S → A → Prop) : R :=
  ⟨fun fi c tm s => if h : ∃ a : A, CodeX P fi c tm s a ∧ QC fi c tm s a then h.choose else .bad 0,
   fun f args s => if h : ∃ X : F, CallF P f args s X ∧ Q f args s X then h.choose else .bad 0⟩
theorem RqN_ok (pc : PC) (Q : Nat → List V → S → F → Prop) (QC : FI → Code → T → S → A → Prop) : RS P pc (RqN P Q QC) := by
 refine ⟨fun fi c tm s hnb => ?_, fun f args s hnb => ?_⟩
 ·unfold RqN at hnb ⊢
  simp only at hnb ⊢
  split at hnb
  ·rename_i h
   rw [dif_pos h]
   exact h.choose_spec.1
  ·exact absurd trivial hnb
 ·unfold RqN at hnb ⊢
  simp only at hnb ⊢
  split at hnb
  ·rename_i h
   rw [dif_pos h]
   exact h.choose_spec.1
  ·exact absurd trivial hnb
open Classical in
theorem RqN_call {Q : Nat → List V → S → F → Prop} {QC : FI → Code → T → S → A → Prop} {f : Nat} {args : List V} {s : S} (h : ∃ X, CallF P f args s X ∧ Q f args s X) : Q f args s ((RqN P Q QC).call f args s) := by
 show Q f args s (if h : ∃ X : F, CallF P f args s X ∧ Q f args s X then h.choose else .bad 0)
 rw [dif_pos h]; exact h.choose_spec.2
open Classical in
theorem RqN_code {Q : Nat → List V → S → F → Prop} {QC : FI → Code → T → S → A → Prop} {fi : FI} {c : Code} {tm : T} {s : S} (h : ∃ a, CodeX P fi c tm s a ∧ QC fi c tm s a) : QC fi c tm s ((RqN P Q QC).code fi c tm s) := by
 show QC fi c tm s (if h : ∃ a, CodeX P fi c tm s a ∧ QC fi c tm s a then h.choose else .bad 0)
 rw [dif_pos h]; exact h.choose_spec.2
theorem fn_callN {pc : PC} (hp : PcOk P pc) (hh : pc.hooks = []) {r : R} (hr : RS P pc r) {f : Nat} {args : List V} {s : S} {Q : V → S → Prop} (h : ((fnC pc f).run r args s).all Q) : ∃ X, CallF P f args s X ∧ X.all Q :=
 ⟨_, fnC_ok hp hr (by rw [hh]; intro h hx; cases hx) (f := f) (args := args) (s := s) h.nb, h⟩
theorem CallF.single {f : Nat} {args : List V} {s : S} {X : F} {v : V} {s' : S} (h : CallF P f args s X) (hX : X.all fun v1 s1 => v1 = v ∧ Wk s1 s') : CallX P f args s v s' := by
 intro n0 w0 ν w cargs hst hG hv
 obtain ⟨h1, h2⟩ := h n0 w0 ν w cargs hst hG hv
 refine ⟨h1, fun kind cs hc => ?_⟩
 have : ∀ {X : F} {p : V → S → Prop}, X.Has p → X.all (fun v1 s1 => v1 = v ∧ Wk s1 s') → ∃ v1 s1, p v1 s1 ∧ v1 = v ∧ Wk s1 s' := by
  intro X
  induction X with
  | ret v1 s1 => intro p hp ha; exact ⟨v1, s1, hp, ha⟩
  | alt a b iha ihb =>
   intro p hp ha
   rcases hp with hp | hp
   ·exact iha hp ha.1
   ·exact ihb hp ha.2
  | _ => intro p hp; exact hp.elim
 obtain ⟨v1, s1, ⟨ν', y, w', fr, g1, g2⟩, rfl, hw⟩ := this (h2 kind cs hc) hX
 exact ⟨ν', y, w', fr, g1.wk hw, g2⟩
theorem CallX.f {f : Nat} {args : List V} {s : S} {v : V} {s' : S} (h : CallX P f args s v s') : CallF P f args s (.ret v s') := h
noncomputable def RkN (P : Program) (K KN : Nat → Ct) (L : Nat → Lt) : R :=
 RqN P (fun f a s X => ((K f).pre a s → ∃ v s', X = .ret v s' ∧ (K f).post a s v s') ∧ ((KN f).pre a s → X.all ((KN f).post a s))) (fun _ c tm s a => (L (sizeC c)).pre tm s → (L (sizeC c)).post tm s a)
theorem RkN_ok (pc : PC) (K KN : Nat → Ct) (L : Nat → Lt) : RS P pc (RkN P K KN L) := RqN_ok pc _ _
def HoldsN (P : Program) (KN : Nat → Ct) (f : Nat) : Prop := ∀ a s, (KN f).pre a s → ∃ X, CallF P f a s X ∧ X.all ((KN f).post a s)
def KeptN (KN : Nat → Ct) (r : R) (f : Nat) : Prop := ∀ a s, (KN f).pre a s → (r.call f a s).all ((KN f).post a s)
theorem RkN_kept {K KN : Nat → Ct} {L : Nat → Lt} {f : Nat} (h : Holds P K f) (hn : ∀ a s, ¬ (KN f).pre a s) : Kept K (RkN P K KN L) f := by
 intro a s hp
 obtain ⟨v, s', h1, h2⟩ := h a s hp
 exact (RqN_call (P := P) (Q := fun f a s X => ((K f).pre a s → ∃ v s', X = .ret v s' ∧ (K f).post a s v s') ∧ ((KN f).pre a s → X.all ((KN f).post a s))) (QC := fun _ c tm s a => (L (sizeC c)).pre tm s → (L (sizeC c)).post tm s a) ⟨.ret v s', h1.f, fun _ => ⟨v, s', rfl, h2⟩, fun g => absurd g (hn _ _)⟩).1 hp
theorem RkN_keptN {K KN : Nat → Ct} {L : Nat → Lt} {f : Nat} (h : HoldsN P KN f) (hn : ∀ a s, ¬ (K f).pre a s) : KeptN KN (RkN P K KN L) f := by
 intro a s hp
 obtain ⟨X, h1, h2⟩ := h a s hp
 exact (RqN_call (P := P) (Q := fun f a s X => ((K f).pre a s → ∃ v s', X = .ret v s' ∧ (K f).post a s v s') ∧ ((KN f).pre a s → X.all ((KN f).post a s))) (QC := fun _ c tm s a => (L (sizeC c)).pre tm s → (L (sizeC c)).post tm s a) ⟨X, h1, fun g => absurd g (hn _ _), fun _ => h2⟩).2 hp
theorem loop_n {pc : PC} (hp : PcOk P pc) (hh : pc.hooks = []) {K KN : Nat → Ct} {L : Nat → Lt} {fi : FI} {c : Code} {n : Nat} (hn : sizeC c = n) (μ : T → S → Nat) (hnb : ∀ tm s a, (L n).pre tm s → (L n).post tm s a → ¬ a.isBad)
  (body : ∀ tm s, (L n).pre tm s → (∀ tm' s', μ tm' s' < μ tm s → (L n).pre tm' s' → (L n).post tm' s' ((RkN P K KN L).code fi c tm' s')) → (L n).post tm s ((comp pc fi c).run (RkN P K KN L) tm s)) :
  ∀ tm s, (L n).pre tm s → (L n).post tm s ((comp pc fi c).run (RkN P K KN L) tm s) := by
 have key : ∀ m tm s, μ tm s = m → (L n).pre tm s → (L n).post tm s ((comp pc fi c).run (RkN P K KN L) tm s) := by
  intro m
  induction m using Nat.strongRecOn with
  | ind m ih =>
   intro tm s e h
   refine body tm s h fun tm' s' hm hp' => ?_
   have h2 := ih (μ tm' s') (by omega) tm' s' rfl hp'
   have h1 := hnb _ _ _ hp' h2
   have := RqN_code (P := P) (Q := fun f a s X => ((K f).pre a s → ∃ v s', X = .ret v s' ∧ (K f).post a s v s') ∧ ((KN f).pre a s → X.all ((KN f).post a s))) (QC := fun _ c tm s a => (L (sizeC c)).pre tm s → (L (sizeC c)).post tm s a) (fi := fi) (c := c) (tm := tm') (s := s') ⟨_, loop_code hp hh (RkN_ok pc K KN L) rfl h1, fun _ => by rw [hn]; exact h2⟩
   rw [hn] at this
   exact this hp'
 exact fun tm s h => key _ tm s rfl h
theorem loop_c {pc : PC} (hp : PcOk P pc) (hh : pc.hooks = []) {K KN : Nat → Ct} {L : Nat → Lt} {fi : FI} {c : Code} {n : Nat} (hn : sizeC c = n) {C : Nat → T → S → Prop} {O : A → Prop} (hL : L n = ⟨fun tm s => ∃ k, C k tm s, fun _ _ a => O a⟩) (hnb : ∀ a, O a → ¬ a.isBad)
  (body : ∀ k tm s, C k tm s → (∀ k' tm' s', k' < k → C k' tm' s' → O ((RkN P K KN L).code fi c tm' s')) → O ((comp pc fi c).run (RkN P K KN L) tm s)) :
  ∀ k tm s, C k tm s → O ((comp pc fi c).run (RkN P K KN L) tm s) := by
 intro k
 induction k using Nat.strongRecOn with
 | ind k ih =>
  intro tm s h
  refine body k tm s h fun k' tm' s' hk h' => ?_
  have h2 := ih k' hk tm' s' h'
  have := RqN_code (P := P) (Q := fun f a s X => ((K f).pre a s → ∃ v s', X = .ret v s' ∧ (K f).post a s v s') ∧ ((KN f).pre a s → X.all ((KN f).post a s))) (QC := fun _ c tm s a => (L (sizeC c)).pre tm s → (L (sizeC c)).post tm s a) (fi := fi) (c := c) (tm := tm') (s := s') ⟨_, loop_code hp hh (RkN_ok pc K KN L) rfl (hnb _ h2), fun _ => by rw [hn, hL]; exact h2⟩
  rw [hn, hL] at this
  exact this ⟨k', h'⟩
end Go.Ev

namespace Go.Ev
open Go.RowKit
variable {P : Program}
def Tr.filt {α : Type} (d : α) : (K → Bool) → Tr α → Tr α
 | _, .lf => .lf
 | p, .nd l v r => .nd (Tr.filt d (fun k => p (.o k)) l) (if p .h = true then v else d) (Tr.filt d (fun k => p (.i k)) r)
theorem get_filt {α : Type} (d : α) (k : K) : ∀ (p : K → Bool) (t : Tr α), Tr.get d k (Tr.filt d p t) = if p k = true then Tr.get d k t else d := by
 induction k with
 | h => intro p t; cases t with
  | lf => simp [Tr.filt, Tr.get]
  | nd l v r => simp [Tr.filt, Tr.get]
 | o k ih => intro p t; cases t with
  | lf => simp [Tr.filt, Tr.get]
  | nd l v r => simp [Tr.filt, Tr.get, ih]
 | i k ih => intro p t; cases t with
  | lf => simp [Tr.filt, Tr.get]
  | nd l v r => simp [Tr.filt, Tr.get, ih]
def F.nxm : F → K
 | .ret _ s => s.nx
 | .alt a b => if a.nxm.toNat ≤ b.nxm.toNat then b.nxm else a.nxm
 | _ => .h
theorem F.all_max {Q : V → S → Prop} : ∀ {x : F}, x.all Q → x.all fun v s => Q v s ∧ s.nx.toNat ≤ x.nxm.toNat
 | .ret _ _, h => ⟨h, Nat.le_refl _⟩
 | .alt a b, h => by
  have h1 := F.all_max h.1
  have h2 := F.all_max h.2
  show (F.all _ a) ∧ (F.all _ b)
  have e : (F.alt a b).nxm = if a.nxm.toNat ≤ b.nxm.toNat then b.nxm else a.nxm := rfl
  rw [e]
  by_cases g : a.nxm.toNat ≤ b.nxm.toNat
  ·rw [if_pos g]
   exact ⟨h1.imp fun v s h => ⟨h.1, Nat.le_trans h.2 g⟩, h2⟩
  ·rw [if_neg g]
   exact ⟨h1, h2.imp fun v s h => ⟨h.1, Nat.le_trans h.2 (by omega)⟩⟩
theorem F.all_some {Q : V → S → Prop} : ∀ {x : F}, x.all Q → ∃ v s, Q v s ∧ s.nx.toNat ≤ x.nxm.toNat
 | .ret v s, h => ⟨v, s, h, Nat.le_refl _⟩
 | .alt a b, h => by
  obtain ⟨v, s, h1, h2⟩ := F.all_some h.1
  refine ⟨v, s, h1, ?_⟩
  have e : (F.alt a b).nxm = if a.nxm.toNat ≤ b.nxm.toNat then b.nxm else a.nxm := rfl
  rw [e]
  split <;> omega
theorem CallF.trim {f : Nat} {args : List V} {s : S} {X : F} {v : V} {G : K → B} (h : CallF P f args s X) (hX : X.all fun v1 s1 => v1 = v ∧ s.nx.toNat ≤ s1.nx.toNat ∧ ∀ k, k.toNat < s.nx.toNat → Tr.get B.none k s1.h = G k) :
  ∃ s', CallX P f args s v s' ∧ s.nx.toNat ≤ s'.nx.toNat ∧ ∀ k, k.toNat < s.nx.toNat → Tr.get B.none k s'.h = G k := by
 obtain ⟨v0, s0, ⟨h1, h2, h3⟩, h4⟩ := F.all_some hX
 refine ⟨⟨Tr.filt B.none (fun k => decide (k.toNat < s.nx.toNat)) s0.h, X.nxm⟩, h.single ((F.all_max hX).imp ?_), Nat.le_trans h2 h4, fun k hk => ?_⟩
 ·rintro v1 s1 ⟨⟨g1, g2, g3⟩, g4⟩
  refine ⟨g1, fun k => ?_, g4⟩
  show Tr.get B.none k (Tr.filt B.none _ s0.h) = .none ∨ Tr.get B.none k (Tr.filt B.none _ s0.h) = Tr.get B.none k s1.h
  rw [get_filt]
  by_cases hk : k.toNat < s.nx.toNat
  ·right
   rw [if_pos (by simpa using hk), h3 k hk, g3 k hk]
  ·left
   rw [if_neg (by simpa using hk)]
 ·show Tr.get B.none k (Tr.filt B.none _ s0.h) = G k
  rw [get_filt, if_pos (by simpa using hk), h3 k hk]
structure Kp (s s' : S) (m : K) : Prop where
 nx : s.nx.toNat ≤ s'.nx.toNat
 other : ∀ k, k.toNat < s.nx.toNat → k ≠ m → Tr.get B.none k s'.h = Tr.get B.none k s.h
 map : ∃ es ck, Tr.get B.none m s.h = .map es ck
theorem Sl.kp {s s' : S} {m : K} {sz : Nat} {v : V} (h : Sl s sz v) (e : Kp s s' m) : Sl s' sz v ∧ ∀ j, cellV s' v j = cellV s v j := by
 rcases h with (rfl | rfl) | ⟨a, w, o, len, hv, hlt, l, n, el, gr, mn, f1, f2, h1, h2⟩
 ·exact ⟨.inl (.inl rfl), fun j => rfl⟩
 ·exact ⟨.inl (.inr rfl), fun j => rfl⟩
 ·have hne : a ≠ m := by
   rintro rfl
   obtain ⟨es, ck, hm⟩ := e.map
   rw [hm] at h1; cases h1
  refine ⟨.inr ⟨a, w, o, len, hv, Nat.lt_of_lt_of_le hlt e.nx, l, n, el, gr, mn, f1, f2, (e.other a hlt hne).trans h1, h2⟩, fun j => ?_⟩
  rcases hv with ⟨cap, rfl, _⟩ | ⟨e0, rfl⟩ <;> simp [cellV, e.other a hlt hne]
end Go.Ev
