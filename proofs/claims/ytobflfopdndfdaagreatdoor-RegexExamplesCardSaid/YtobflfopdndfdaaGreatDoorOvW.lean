/- The contracts of the functions that the statements reach, for all arguments. No statement of the seat stands here. Conditions: the arguments are as their types say. By an AI agent. -/
import Derived.Test.YtobflfopdndfdaaGreatDoorOvV
namespace Go.Ev
open Go.RowKit
abbrev LM := List (Int × Nat × Nat)
abbrev FM := Int → Option Nat
def lookL : LM → FM
 | [], _ => none
 | (q, r, _) :: l, z => if q = z then some r else lookL l z
def insE (q : Int) (r ck : Nat) : LM → LM
 | [] => [(q, r, ck)]
 | (q', r', b) :: l => if q = q' then (q, r, b) :: l else (q', r', b) :: insE q r ck l
def updF (f : FM) (q : Int) (r : Nat) : FM := fun z => if z = q then some (match f q with | none => r | some o => min o r) else f z
def reachL (x : LM × Nat) (q : Int) (r : Nat) : (LM × Nat) × Bool :=
 match lookL x.1 q with
 | some o => if o ≤ r then (x, false) else ((insE q r x.2 x.1, x.2), true)
 | none => ((insE q r x.2 x.1, x.2 + 1), true)
theorem look_ins (q : Int) (r ck : Nat) (z : Int) : ∀ l : LM, lookL (insE q r ck l) z = if z = q then some r else lookL l z
 | [] => by simp only [insE, lookL]; by_cases h : q = z <;> simp [h, eq_comm]
 | (q', r', b) :: l => by
  simp only [insE]
  by_cases h : q = q'
  ·subst h
   rw [if_pos rfl]
   simp only [lookL]
   by_cases g : q = z
   ·rw [if_pos g, if_pos g.symm]
   ·rw [if_neg g, if_neg g, if_neg (fun e => g e.symm)]
  ·rw [if_neg h]
   simp only [lookL, look_ins q r ck z l]
   by_cases g : q' = z
   ·rw [if_pos g, if_pos g, if_neg (fun e => h (e.symm.trans g.symm))]
   ·rw [if_neg g, if_neg g]
theorem updF_at (f : FM) (q : Int) (r : Nat) (z : Int) : updF f q r z = if z = q then some (match f q with | none => r | some o => min o r) else f z := rfl
theorem reach_look (x : LM × Nat) (q : Int) (r : Nat) : lookL (reachL x q r).1.1 = updF (lookL x.1) q r := by
 funext z
 unfold reachL
 rw [updF_at]
 cases h : lookL x.1 q with
 | none => simp only [look_ins]
 | some o =>
  simp only
  by_cases g : o ≤ r
  ·rw [if_pos g]
   simp only
   by_cases e : z = q
   ·rw [if_pos e, e, h, Nat.min_eq_left g]
   ·rw [if_neg e]
  ·rw [if_neg g]
   simp only [look_ins]
   by_cases e : z = q
   ·rw [if_pos e, if_pos e, Nat.min_eq_right (by omega)]
   ·rw [if_neg e, if_neg e]
theorem updF_comm (f : FM) (q q' : Int) (r r' : Nat) : updF (updF f q r) q' r' = updF (updF f q' r') q r := by
 funext z
 simp only [updF_at]
 by_cases h : q = q'
 ·subst h
  simp only [if_true]
  by_cases e : z = q
  ·rw [if_pos e, if_pos e]
   cases f q with
   | none => simp [Nat.min_comm]
   | some o => simp [Nat.min_assoc, Nat.min_comm r r']
  ·rw [if_neg e, if_neg e, if_neg e, if_neg e]
 ·have h' : ¬ q' = q := fun e => h e.symm
  simp only [if_neg h, if_neg h']
  by_cases e : z = q'
  ·subst e
   rw [if_pos rfl, if_neg h', if_pos rfl]
  ·rw [if_neg e]
   by_cases e2 : z = q
   ·rw [if_pos e2, if_pos e2]
   ·rw [if_neg e2, if_neg e2, if_neg e]
def bornsOk (x : LM × Nat) : Prop := (∀ e ∈ x.1, e.2.2 < x.2) ∧ x.1.Pairwise fun a b => a.2.2 ≠ b.2.2
def keysOk (x : LM) : Prop := x.Pairwise fun a b => a.1 ≠ b.1
def LOk (x : LM × Nat) : Prop := bornsOk x ∧ keysOk x.1
theorem look_none {q : Int} : ∀ {l : LM}, lookL l q = none ↔ ∀ e ∈ l, e.1 ≠ q
 | [] => by simp [lookL]
 | (q', r', b) :: l => by
  simp only [lookL]
  by_cases g : q' = q
  ·rw [if_pos g]; simp [g]
  ·rw [if_neg g, look_none (l := l)]; simp [g]
theorem ins_mem {q : Int} {r ck : Nat} : ∀ {l : LM} {e : Int × Nat × Nat}, e ∈ insE q r ck l → (∃ e' ∈ l, e'.2.2 = e.2.2 ∧ e'.1 = e.1) ∨ (lookL l q = none ∧ e = (q, r, ck))
 | [], e, h => .inr ⟨rfl, by simpa [insE] using h⟩
 | (q', r', b) :: l, e, h => by
  simp only [insE] at h
  by_cases g : q = q'
  ·rw [if_pos g] at h
   rcases List.mem_cons.1 h with rfl | h
   ·exact .inl ⟨(q', r', b), by simp, rfl, g.symm⟩
   ·exact .inl ⟨e, by simp [h], rfl, rfl⟩
  ·rw [if_neg g] at h
   rcases List.mem_cons.1 h with rfl | h
   ·exact .inl ⟨(q', r', b), by simp, rfl, rfl⟩
   ·rcases ins_mem h with ⟨e', h1, h2⟩ | ⟨h1, h2⟩
    ·exact .inl ⟨e', by simp [h1], h2⟩
    ·exact .inr ⟨by simp only [lookL]; rw [if_neg (fun e => g e.symm)]; exact h1, h2⟩
theorem ins_keys {q : Int} {r ck : Nat} : ∀ {l : LM}, keysOk l → keysOk (insE q r ck l)
 | [], _ => List.pairwise_singleton _ _
 | (q', r', b) :: l, h => by
  obtain ⟨h1, h2⟩ := List.pairwise_cons.1 h
  simp only [insE]
  by_cases g : q = q'
  ·rw [if_pos g]
   exact List.pairwise_cons.2 ⟨fun a ha => by rw [g]; exact h1 a ha, h2⟩
  ·rw [if_neg g]
   refine List.pairwise_cons.2 ⟨fun a ha => ?_, ins_keys h2⟩
   rcases ins_mem ha with ⟨e', h3, _, h4⟩ | ⟨_, rfl⟩
   ·rw [← h4]; exact h1 e' h3
   ·exact fun e => g e.symm
theorem ins_borns {q : Int} {r ck : Nat} : ∀ {l : LM}, (∀ e ∈ l, e.2.2 < ck) → l.Pairwise (fun a b => a.2.2 ≠ b.2.2) → (insE q r ck l).Pairwise fun a b => a.2.2 ≠ b.2.2
 | [], _, _ => List.pairwise_singleton _ _
 | (q', r', b) :: l, hc, h => by
  obtain ⟨h1, h2⟩ := List.pairwise_cons.1 h
  simp only [insE]
  by_cases g : q = q'
  ·rw [if_pos g]
   exact List.pairwise_cons.2 ⟨h1, h2⟩
  ·rw [if_neg g]
   refine List.pairwise_cons.2 ⟨fun a ha => ?_, ins_borns (fun e he => hc e (by simp [he])) h2⟩
   rcases ins_mem ha with ⟨e', h3, h4, _⟩ | ⟨_, rfl⟩
   ·rw [← h4]; exact h1 e' h3
   ·have := hc (q', r', b) (by simp)
    exact Nat.ne_of_lt this
theorem reach_ok {x : LM × Nat} (h : LOk x) (q : Int) (r : Nat) : LOk (reachL x q r).1 := by
 obtain ⟨⟨h1, h2⟩, h3⟩ := h
 unfold reachL
 cases e : lookL x.1 q with
 | none =>
  refine ⟨⟨fun a ha => ?_, ins_borns h1 h2⟩, ins_keys h3⟩
  rcases ins_mem ha with ⟨e', h4, h5, _⟩ | ⟨_, rfl⟩
  ·have := h1 e' h4
   show a.2.2 < x.2 + 1
   omega
  ·exact Nat.lt_succ_self _
 | some o =>
  simp only
  by_cases g : o ≤ r
  ·rw [if_pos g]; exact ⟨⟨h1, h2⟩, h3⟩
  ·rw [if_neg g]
   refine ⟨⟨fun a ha => ?_, ins_borns h1 h2⟩, ins_keys h3⟩
   rcases ins_mem ha with ⟨e', h4, h5, _⟩ | ⟨h4, _⟩
   ·rw [← h5]; exact h1 e' h4
   ·rw [h4] at e; cases e
def ents (x : LM) : List (Int × Nat) := x.map fun e => (e.1, e.2.1)
theorem look_mem {x : LM} (h : keysOk x) {q : Int} {r : Nat} : lookL x q = some r ↔ (q, r) ∈ ents x := by
 induction x with
 | nil => simp [lookL, ents]
 | cons e l ih =>
  obtain ⟨q', r', b⟩ := e
  obtain ⟨h1, h2⟩ := List.pairwise_cons.1 h
  simp only [lookL, ents, List.map_cons, List.mem_cons]
  by_cases g : q' = q
  ·subst g
   rw [if_pos rfl]
   constructor
   ·intro e; injection e with e; exact .inl (by rw [e])
   ·rintro (e | e)
    ·injection e with _ e; rw [e]
    ·obtain ⟨a, ha, e2⟩ := List.mem_map.1 e
     injection e2 with e2 _
     exact absurd e2.symm (h1 a ha)
  ·rw [if_neg g, ih h2]
   constructor
   ·exact fun e => .inr e
   ·rintro (e | e)
    ·injection e with e _; exact absurd e.symm g
    ·exact e
theorem ents_perm {x y : LM} (hx : keysOk x) (hy : keysOk y) (h : lookL x = lookL y) : (ents x).Perm (ents y) := by
 have nd : ∀ {z : LM}, keysOk z → (ents z).Nodup := fun {z} hz => by
  unfold ents
  rw [List.nodup_iff_pairwise_ne, List.pairwise_map]
  exact hz.imp fun h e => h (by injection e)
 refine (List.perm_ext_iff_of_nodup (nd hx) (nd hy)).2 fun ⟨q, r⟩ => ?_
 rw [← look_mem hx, ← look_mem hy, h]
abbrev FS := Bool → Nat → FM
structure Pr where
 c : Bool
 i : Nat
 q : Int
 r : Nat
def putF (f : FS) (p : Pr) : FS := fun c i => if c = p.c ∧ i = p.i then updF (f c i) p.q p.r else f c i
theorem putF_comm (f : FS) (p p' : Pr) : putF (putF f p) p' = putF (putF f p') p := by
 funext c i
 simp only [putF]
 by_cases h : c = p.c ∧ i = p.i <;> by_cases h' : c = p'.c ∧ i = p'.i
 ·rw [if_pos h, if_pos h', if_pos h, if_pos h']; exact updF_comm _ _ _ _ _
 ·rw [if_neg h', if_pos h, if_pos h, if_neg h']
 ·rw [if_pos h', if_neg h, if_neg h, if_pos h']
 ·rw [if_neg h', if_neg h, if_neg h, if_neg h']
theorem foldl_perm {α β : Type} {f : β → α → β} (hc : ∀ b x y, f (f b x) y = f (f b y) x) {l l' : List α} (h : l.Perm l') (b : β) : l.foldl f b = l'.foldl f b := by
 induction h generalizing b with
 | nil => rfl
 | cons x _ ih => exact ih _
 | swap x y l => simp only [List.foldl_cons]; rw [hc]
 | trans _ _ ih1 ih2 => exact (ih1 b).trans (ih2 b)
end Go.Ev
namespace Go.Ev
open Go.RowKit
variable {P : Program}
def V.flat : V → Prop | .nat _ _ => True | .neg _ _ => True | .bool _ => True | .str _ => True | .ls 1 [.str _, .nat _ _] => True | _ => False
theorem VR.flat {ν ν' : Val} : ∀ {v : V} {y : Value}, v.flat → VR ν v y → VR ν' v y
 | .nat _ _, _, _, h => h
 | .neg _ _, _, _, h => h
 | .bool _, _, _, h => h
 | .str _, _, _, h => h
 | .ls 1 [.str _, .nat _ _], _, _, h => h
theorem VRs.flat {ν ν' : Val} : ∀ {l : List V} {y : List Value}, (∀ v ∈ l, v.flat) → VRs ν l y → VRs ν' l y
 | [], _, _, h => h
 | v :: l, _, hf, ⟨x, r, h1, h2, h3⟩ => ⟨x, r, h1, h2.flat (hf v (by simp)), VRs.flat (fun u hu => hf u (by simp [hu])) h3⟩
theorem CallX.closedV {f G : Nat} {args : List V} {v : V} {s1 : S} (hG : P.globals.size = G) (hg : globB G = true) (ha : ∀ u ∈ args, u.flat) (hv : v.flat) (hX : CallX P f args (start G) v s1) (s : S) : CallX P f args s v s := by
 intro n0 w0 ν w cargs hst _ hvs
 obtain ⟨h1, h2⟩ := start_ok (P := P) hg w
 obtain ⟨e, k⟩ := hX w.heap.size w (val0 G) w cargs h1 (by rw [hG]; exact h2) (hvs.flat ha)
 refine ⟨e, fun kind cs hk => ?_⟩
 obtain ⟨ν', y, w', fr, g1, g2, g3⟩ := k kind cs hk
 exact ⟨ν, y, w', fr, ⟨ν.le_refl, hst.later g1.st.below, Nat.le_refl _, fun _ h _ => ⟨h, .inl rfl⟩⟩, g2.flat hv, g3⟩
noncomputable def retB (pc : PC) (n f : Nat) (args : List V) (s : S) (v : V) : Bool := match (run pc n).call f args s with | .ret w _ => beqV w v | _ => false
theorem retB_callX {pc : PC} (hp : PcOk P pc) (hh : pc.hooks = []) {n f G : Nat} {args : List V} {v : V} (hG : P.globals.size = G) (hg : globB G = true) (ha : ∀ u ∈ args, u.flat) (hv : v.flat) (h : retB pc n f args (start G) v = true) (s : S) : CallX P f args s v s := by
 unfold retB at h
 cases hc : (run pc n).call f args (start G) with
 | ret w s1 =>
  rw [hc] at h
  have := beqV_ok _ _ h
  subst this
  exact CallX.closedV hG hg ha hv ((run_ok hp (by rw [hh]; intro h hx; cases hx) n).call f args (start G) w s1 hc) s
 | _ => rw [hc] at h; cases h
end Go.Ev
namespace Go.Proofs.YtobflfopdndfdaaGreatDoor.oev
open Go.Ev Go.RowKit
set_option maxRecDepth 100000
theorem pcOk0 : PcOk Tryz.prog pc0 ∧ pc0.hooks = [] := by
 unfold pc0 pc
 exact pcOk_of (by kernel_rfl) (by kernel_rfl) (by kernel_rfl) (by kernel_rfl) (by kernel_rfl)
def stR : Nat → List Nat | 0 => [48] | 1 => [49, 47, 50] | 2 => [49] | 4 => [50] | _ => []
def rs (r : Nat) : Bool := r == 0 || r == 1 || r == 2 || r == 4
theorem rs_cases {r : Nat} (h : rs r = true) : r = 0 ∨ r = 1 ∨ r = 2 ∨ r = 4 := by
 simpa [rs, or_assoc] using h
theorem stR_inj {p q : Nat} (hp : rs p = true) (hq : rs q = true) (h : stR p = stR q) : p = q := by
 rcases rs_cases hp with rfl | rfl | rfl | rfl <;> rcases rs_cases hq with rfl | rfl | rfl | rfl <;> first | rfl | exact absurd h (by decide)
def toME (e : Int × Nat × Nat) : ME := ⟨iv .i64 e.1, .str (stR e.2.1), e.2.2⟩
def MapAt (s : S) (a : Go.Ev.K) (x : LM × Nat) : Prop := Tr.get B.none a s.h = .map (x.1.map toME) x.2
theorem keysI_m (l : LM) : keysI (l.map toME) := fun e he => by
 obtain ⟨x, _, rfl⟩ := List.mem_map.1 he
 show iv .i64 x.1 = iv .i64 (toI (iv .i64 x.1))
 rw [toI_iv]
theorem mapI_m (z : Int) : ∀ l : LM, mapI (l.map toME) z = (lookL l z).map fun r => V.str (stR r)
 | [] => rfl
 | (q, r, b) :: l => by
  show (if toI (iv .i64 q) = z then some (V.str (stR r)) else mapI (l.map toME) z) = (if q = z then some r else lookL l z).map _
  rw [toI_iv, mapI_m z l]
  by_cases h : q = z
  ·rw [if_pos h, if_pos h]; rfl
  ·rw [if_neg h, if_neg h]
theorem updE_m (q : Int) (r ck : Nat) : ∀ (l : LM) (c : Bool → List ME → Go.Ev.A), updE ⟨7, []⟩ (iv .i64 q) (.str (stR r)) ck (l.map toME) c = c (lookL l q).isNone ((insE q r ck l).map toME)
 | [], c => rfl
 | (q', r', b) :: l, c => by
  have hu : ∀ c : Bool → List ME → Go.Ev.A, updE ⟨7, []⟩ (iv .i64 q) (.str (stR r)) ck (((q', r', b) :: l).map toME) c = (match eqV ⟨7, []⟩ false (iv .i64 q) (iv .i64 q') with | some true => c false (⟨iv .i64 q, .str (stR r), b⟩ :: l.map toME) | some false => updE ⟨7, []⟩ (iv .i64 q) (.str (stR r)) ck (l.map toME) (fun b' l' => c b' (toME (q', r', b) :: l')) | none => .bad 81) := fun c => by
   show (match eqV ⟨7, []⟩ false (iv .i64 q) (iv .i64 q') with | some true => _ | some false => _ | none => _) = _
   rfl
  rw [hu, eqV_ii]
  by_cases h : q = q'
  ·subst h
   rw [decide_eq_true rfl]
   simp [lookL, insE, toME]
  ·rw [decide_eq_false h]
   show updE _ _ _ ck (l.map toME) _ = _
   rw [updE_m q r ck l]
   have h' : ¬ q' = q := fun e => h e.symm
   simp [lookL, insE, h, h']
structure Upd1 (s s' : S) (m : Go.Ev.K) (x : LM × Nat) : Prop where
 at_ : MapAt s' m x
 other : ∀ k, k ≠ m → Tr.get B.none k s'.h = Tr.get B.none k s.h
 nx : s'.nx = s.nx
def Wd (s : S) (a : Go.Ev.K) (w : List Int) : Prop := ∃ mn, mn ≤ w.length ∧ Tr.get B.none a s.h = .row (w.map (iv .i64)) w.length 3 true mn 0 0
def soV (a : Go.Ev.K) (n : Nat) : V := .so a n 0 n 0
abbrev ArcL := List (Nat × Nat × Nat × Nat)
structure Mc where
 start : Nat
 lead : Nat
 sts : List (Option Nat × ArcL)
def finT : Option Nat → List Nat | none => [] | some r => stR r
def ArcsR (s : S) (v : V) (l : ArcL) : Prop := Sl s 4 v ∧ lenV v = l.length ∧ ∀ j (h : j < l.length), cellV s v (j * 4) = iv .i64 (l[j].1 : Int) ∧ cellV s v (j * 4 + 1) = iv .i64 (l[j].2.1 : Int) ∧ cellV s v (j * 4 + 2) = .str (stR l[j].2.2.1) ∧ cellV s v (j * 4 + 3) = iv .i64 (l[j].2.2.2 : Int)
structure MR (s : S) (c : List V) (M : Mc) : Prop where
 ex : ∃ k v, c = [k, iv .i64 (M.start : Int), .str (stR M.lead), v] ∧ k ≠ .bad ∧ Sl s 2 v ∧ lenV v = M.sts.length ∧ ∀ i (h : i < M.sts.length), cellV s v (i * 2) = .str (finT M.sts[i].1) ∧ ArcsR s (cellV s v (i * 2 + 1)) M.sts[i].2
theorem Wd.idx {a : Go.Ev.K} {w : List Int} {i : Int} (h0 : 0 ≤ i) (h1 : i < w.length) (k : IntKind) (c : V → Go.Ev.A) : xIdxAddrS 1 (soV a w.length) (iv k i) c = c (.ptr a w.length i.toNat) := by
 obtain ⟨i, rfl⟩ := Int.eq_ofNat_of_zero_le h0
 show (Bool.rec (motive := fun _ => Go.Ev.A) _ _ (Nat.blt i w.length) : Go.Ev.A) = _
 rw [show Nat.blt i w.length = true by rw [Nat.blt_eq]; omega]
 show fN (Nat.add 0 (Nat.mul i 1)) (fun o => c (.ptr a w.length o)) = _
 rw [fN_eq]
 show c (.ptr a w.length (0 + i * 1)) = _
 simp
theorem Wd.load {s : S} {a : Go.Ev.K} {w : List Int} (h : Wd s a w) {i : Nat} (hi : i < w.length) (k : V → S → Go.Ev.A) : xLoad false 1 (.ptr a w.length i) s k = k (iv .i64 (w.getD i 0)) s := by
 obtain ⟨mn, h1, h2⟩ := h
 show hget s a _ = _
 rw [hget_eq, h2]
 show (Bool.rec (motive := fun _ => Go.Ev.A) _ _ (rdOk w.length true mn w.length (Nat.succ i)) : Go.Ev.A) = _
 rw [show rdOk w.length true mn w.length (Nat.succ i) = true from rdOk_or.2 (.inl ⟨rfl, h1, Nat.le_refl _, hi⟩)]
 show nthV i (w.map (iv .i64)) _ = _
 rw [nthV_eq]
 have : (w.map (iv .i64)).getD i .bad = iv .i64 (w.getD i 0) := by
  rw [List.getD_eq_getElem?_getD, List.getElem?_map, List.getD_eq_getElem?_getD, List.getElem?_eq_getElem hi]; rfl
 rw [this, knownC_eq (iv_ne _ _)]
theorem upd_set {l : List V} {i : Nat} {x : V} (h : i < l.length) : upd [x] i l = l.set i x := by
 induction l generalizing i with
 | nil => cases h
 | cons y l ih => cases i with
  | zero => cases l <;> rfl
  | succ i => exact congrArg (y :: ·) (ih (by simpa using h))
theorem Wd.store {s : S} {a : Go.Ev.K} {w : List Int} (h : Wd s a w) {i : Nat} (hi : i < w.length) (z : Int) : ∃ s', (∀ k : V → S → Go.Ev.A, xStore 1 (.ptr a w.length i) (iv .i64 z) s k = k Go.Ev.undef s') ∧ Wd s' a (w.set i z) ∧ (∀ k, k ≠ a → Tr.get B.none k s'.h = Tr.get B.none k s.h) ∧ s'.nx = s.nx := by
 obtain ⟨mn, h1, h2⟩ := h
 refine ⟨setB s a (.row ((w.set i z).map (iv .i64)) w.length 3 true w.length 0 0), fun k => ?_, ⟨w.length, by simp, ?_⟩, fun k hk => by rw [setB_get, if_neg hk], rfl⟩
 ·show cellsC 1 (iv .i64 z) (fun l => writeCells s a w.length i 1 l (fun s => k Go.Ev.undef s)) = _
  rw [cellsC_iv]
  unfold writeCells
  rw [hget_eq, h2]
  show (Bool.rec (motive := fun _ => Go.Ev.A) _ _ (wrOk w.length true w.length i (Nat.add i 1) 0 0) : Go.Ev.A) = _
  rw [show wrOk w.length true w.length i (Nat.add i 1) 0 0 = true by
   show (Bool.rec (motive := fun _ => Bool) _ _ _ : Bool) = _
   rw [show Nat.ble (Nat.add i 1) w.length = true from Nat.ble_eq_true_of_le hi, show Nat.ble 0 i = true from Nat.ble_eq_true_of_le (Nat.zero_le _), show Nat.beq w.length w.length = true from Nat.beq_refl _]]
  show updL [iv .i64 z] i (w.map (iv .i64)) _ = _
  rw [updL_eq, hset_eq, upd_set (by simpa using hi), List.map_set]
  rfl
 ·rw [setB_get, if_pos rfl, List.length_set]
end Go.Proofs.YtobflfopdndfdaaGreatDoor.oev
namespace Go.Proofs.YtobflfopdndfdaaGreatDoor.oev
open Go.Ev Go.RowKit
set_option maxRecDepth 100000
def spArcs (q : Int) : ArcL → (LM × Nat) × List Int → Option ((LM × Nat) × List Int)
 | [], x => some x
 | (i, o, w, t) :: l, x =>
  if i = 0 ∧ o = 0 then
   match lookL x.1.1 q with
   | some v => if rs v = true ∧ rs w = true ∧ rs (v + w) = true ∧ x.2.length < 1000 then spArcs q l ((reachL x.1 (t : Int) (v + w)).1, if (reachL x.1 (t : Int) (v + w)).2 = true then x.2 ++ [(t : Int)] else x.2) else none
   | none => none
  else spArcs q l x
def spRun (M : Mc) : Nat → (LM × Nat) × List Int → Option (LM × Nat)
 | 0, x => if x.2 = [] then some x.1 else none
 | n + 1, x => match x.2 with
  | [] => some x.1
  | q :: td => if 0 ≤ q ∧ q.toNat < M.sts.length then
    match spArcs q (M.sts.getD q.toNat (none, [])).2 (x.1, td) with
    | some y => spRun M n y
    | none => none
   else none
def okVals (x : LM) : Prop := ∀ z r, lookL x z = some r → rs r = true
theorem reach_vals {x : LM × Nat} (h : okVals x.1) {q : Int} {r : Nat} (hr : rs r = true) : okVals (reachL x q r).1.1 := by
 intro z v hv
 rw [reach_look, updF_at] at hv
 by_cases e : z = q
 ·rw [if_pos e] at hv
  injection hv with hv
  cases g : lookL x.1 q with
  | none => rw [g] at hv; simp only at hv; rw [← hv]; exact hr
  | some o =>
   rw [g] at hv
   simp only at hv
   rw [← hv]
   rcases Nat.le_total o r with k | k
   ·rw [Nat.min_eq_left k]; exact h q o g
   ·rw [Nat.min_eq_right k]; exact hr
 ·rw [if_neg e] at hv; exact h z v hv
theorem spArcs_ok {q : Int} : ∀ {l : ArcL} {x y : (LM × Nat) × List Int}, spArcs q l x = some y → LOk x.1 → okVals x.1.1 → LOk y.1 ∧ okVals y.1.1
 | [], x, y, h, h1, h2 => by injection h with h; rw [← h]; exact ⟨h1, h2⟩
 | (i, o, w, t) :: l, x, y, h, h1, h2 => by
  simp only [spArcs] at h
  by_cases g : i = 0 ∧ o = 0
  ·rw [if_pos g] at h
   cases e : lookL x.1.1 q with
   | none => rw [e] at h; cases h
   | some v =>
    rw [e] at h
    simp only at h
    by_cases k : rs v = true ∧ rs w = true ∧ rs (v + w) = true ∧ x.2.length < 1000
    ·rw [if_pos k] at h
     exact spArcs_ok h (reach_ok h1 _ _) (reach_vals h2 k.2.2.1)
    ·rw [if_neg k] at h; cases h
  ·rw [if_neg g] at h
   exact spArcs_ok h h1 h2
theorem spRun_ok {M : Mc} : ∀ {n : Nat} {x : (LM × Nat) × List Int} {y : LM × Nat}, spRun M n x = some y → LOk x.1 → okVals x.1.1 → LOk y ∧ okVals y.1
 | 0, x, y, h, h1, h2 => by
  simp only [spRun] at h
  split at h
  ·injection h with h; rw [← h]; exact ⟨h1, h2⟩
  ·cases h
 | n + 1, x, y, h, h1, h2 => by
  obtain ⟨x, td⟩ := x
  cases td with
  | nil => simp only [spRun] at h; injection h with h; rw [← h]; exact ⟨h1, h2⟩
  | cons q td =>
   simp only [spRun] at h
   split at h
   ·split at h
    ·rename_i y' e
     obtain ⟨g1, g2⟩ := spArcs_ok e h1 h2
     exact spRun_ok h g1 g2
    ·cases h
   ·cases h
def sameX (x y : (LM × Nat) × List Int) : Prop := lookL x.1.1 = lookL y.1.1 ∧ x.2 = y.2
theorem reach_same {x y : LM × Nat} (h : lookL x.1 = lookL y.1) (q : Int) (r : Nat) : lookL (reachL x q r).1.1 = lookL (reachL y q r).1.1 ∧ (reachL x q r).2 = (reachL y q r).2 := by
 refine ⟨by rw [reach_look, reach_look, h], ?_⟩
 unfold reachL
 rw [h]
 cases lookL y.1 q with
 | none => rfl
 | some o => simp only; split <;> rfl
theorem spArcs_same {q : Int} : ∀ {l : ArcL} {x y z : (LM × Nat) × List Int}, sameX x y → spArcs q l x = some z → ∃ z', spArcs q l y = some z' ∧ sameX z z'
 | [], x, y, z, h, e => ⟨y, rfl, by injection e with e; rw [← e]; exact h⟩
 | (i, o, w, t) :: l, x, y, z, h, e => by
  simp only [spArcs] at e ⊢
  by_cases g : i = 0 ∧ o = 0
  ·rw [if_pos g] at e ⊢
   rw [← h.1]
   cases e1 : lookL x.1.1 q with
   | none => rw [e1] at e; cases e
   | some v =>
    rw [e1] at e
    simp only at e ⊢
    by_cases k : rs v = true ∧ rs w = true ∧ rs (v + w) = true ∧ x.2.length < 1000
    ·rw [if_pos k] at e
     rw [if_pos (by rw [← h.2]; exact k)]
     obtain ⟨r1, r2⟩ := reach_same h.1 (t : Int) (v + w)
     exact spArcs_same ⟨r1, by simp only; rw [← r2, ← h.2]⟩ e
    ·rw [if_neg k] at e; cases e
  ·rw [if_neg g] at e ⊢
   exact spArcs_same h e
theorem spRun_same {M : Mc} : ∀ {n : Nat} {x y : (LM × Nat) × List Int} {z : LM × Nat}, sameX x y → spRun M n x = some z → ∃ z', spRun M n y = some z' ∧ lookL z.1 = lookL z'.1
 | 0, x, y, z, h, e => by
  simp only [spRun] at e ⊢
  rw [h.2] at e
  split at e
  ·injection e with e; exact ⟨_, by rw [if_pos (by assumption)], by rw [← e]; exact h.1⟩
  ·cases e
 | n + 1, (x, td), (y, td'), z, h, e => by
  obtain rfl : td = td' := h.2
  cases td with
  | nil => simp only [spRun] at e ⊢; injection e with e; exact ⟨_, rfl, by rw [← e]; exact h.1⟩
  | cons q td =>
   simp only [spRun] at e ⊢
   split at e
   ·rename_i g
    rw [if_pos g]
    split at e
    ·rename_i y' e1
     obtain ⟨z', h1, h2⟩ := spArcs_same (x := (x, td)) (y := (y, td)) ⟨h.1, rfl⟩ e1
     rw [h1]
     exact spRun_same h2 e
    ·cases e
   ·cases e
def sorted (l : List Int) : Prop := l.Pairwise (· ≤ ·)
def infT : List Nat := [105, 110, 102]
structure SpP (M : Mc) (a : List V) (s : S) (m : Go.Ev.K) (c : List V) (x y : LM × Nat) (ks : List Int) (n : Nat) : Prop where
 args : a = [.ref 0 m, .ls 0 c]
 lt : m.toNat < s.nx.toNat
 at_ : MapAt s m x
 ok : LOk x
 vals : okVals x.1
 mr : MR s c M
 al : ∀ e ∈ M.sts, e.2.length < 100000
 srt : sorted ks ∧ ks.Perm (x.1.map (·.1)) ∧ ks.length ≤ 12
 run : spRun M n (x, ks) = some y
noncomputable def K (M0 : Mc) : Nat → Ct
 | 194 => ⟨fun a _ => ∃ z : Int, a = [iv .i64 z], fun _ s v s' => s' = s ∧ v = .bool false⟩
 | 166 => ⟨fun a _ => ∃ z y : Int, a = [iv .i64 z, iv .i64 y], fun a s v s' => ∀ z y : Int, a = [iv .i64 z, iv .i64 y] → s' = s ∧ v = .bool (decide (z < y))⟩
 | 170 => ⟨fun a _ => ∃ z : Nat, a = [iv .u64 (z : Int)] ∧ z < 256, fun _ s v s' => s' = s ∧ ∃ z : Int, v = iv .i64 z⟩
 | 124 => ⟨fun a _ => ∃ z : Nat, a = [iv .u64 (z : Int)] ∧ z < 256, fun _ s v s' => s' = s ∧ ∃ z : Int, v = iv .i64 z⟩
 | 160 => ⟨fun a s => (∃ k w, a = [soV k w.length, iv .i64 0, iv .i64 (w.length : Int)] ∧ Wd s k w ∧ w.length ≤ 12) ∨ a = [.nil 1, iv .i64 0, iv .i64 0],
   fun a s _ s' => (∀ k w, a = [soV k w.length, iv .i64 0, iv .i64 (w.length : Int)] → Wd s k w → ∃ w', Wd s' k w' ∧ sorted w' ∧ w'.Perm w ∧ (∀ b, b ≠ k → Tr.get B.none b s'.h = Tr.get B.none b s.h) ∧ s'.nx = s.nx) ∧ (a = [.nil 1, iv .i64 0, iv .i64 0] → s' = s)⟩
 | 123 => ⟨fun a s => ∃ z : Int, (∃ k w, a = [soV k w.length, iv .i64 0, iv .i64 (w.length : Int), iv .i64 z] ∧ Wd s k w ∧ w.length ≤ 12) ∨ a = [.nil 1, iv .i64 0, iv .i64 0, iv .i64 z],
   fun a s _ s' => (∀ k w, ∀ z : Int, a = [soV k w.length, iv .i64 0, iv .i64 (w.length : Int), iv .i64 z] → Wd s k w → ∃ w', Wd s' k w' ∧ sorted w' ∧ w'.Perm w ∧ (∀ b, b ≠ k → Tr.get B.none b s'.h = Tr.get B.none b s.h) ∧ s'.nx = s.nx) ∧ (∀ z : Int, a = [.nil 1, iv .i64 0, iv .i64 0, iv .i64 z] → s' = s)⟩
 | 85 => ⟨fun a s => (∃ k w, a = [soV k w.length] ∧ Wd s k w ∧ w.length ≤ 12) ∨ a = [.nil 1],
   fun a s _ s' => (∀ k w, a = [soV k w.length] → Wd s k w → ∃ w', Wd s' k w' ∧ sorted w' ∧ w'.Perm w ∧ (∀ b, b ≠ k → Tr.get B.none b s'.h = Tr.get B.none b s.h) ∧ s'.nx = s.nx) ∧ (a = [.nil 1] → s' = s)⟩
 | 86 => ⟨fun a _ => ∃ p q, a = [iv .i64 1, .str (stR p), .str (stR q)] ∧ rs p = true ∧ rs q = true ∧ rs (p + q) = true,
   fun a s v s' => ∀ p q, a = [iv .i64 1, .str (stR p), .str (stR q)] → rs p = true → rs q = true → s' = s ∧ v = .ls 1 [.str (stR (p + q)), iv .i64 0]⟩
 | 87 => ⟨fun a _ => ∃ p q, a = [iv .i64 1, .str (stR p), .str (stR q)] ∧ rs p = true ∧ rs q = true,
   fun a s v s' => ∀ p q, a = [iv .i64 1, .str (stR p), .str (stR q)] → rs p = true → rs q = true → s' = s ∧ ∃ z : Int, v = iv .i64 z ∧ (0 ≤ z ↔ q ≤ p)⟩
 | 36 => ⟨fun a _ => a = [iv .i64 1], fun _ s v s' => s' = s ∧ v = .str infT⟩
 | 35 => ⟨fun a s => ∃ m q p w x, a = [.ref 0 m, iv .i64 q, .str (stR p), .str (stR w)] ∧ MapAt s m x ∧ okVals x.1 ∧ LOk x ∧ rs p = true ∧ rs w = true ∧ rs (p + w) = true,
   fun a s v s' => ∀ m q p w x, a = [.ref 0 m, iv .i64 q, .str (stR p), .str (stR w)] → MapAt s m x → okVals x.1 → LOk x → rs p = true → rs w = true → v = .bool (reachL x q (p + w)).2 ∧ Upd1 s s' m (reachL x q (p + w)).1⟩
 | 34 => ⟨fun a s => ∃ m c x y ks n, SpP M0 a s m c x y ks n,
   fun a s _ s' => ∀ m c x y ks n, SpP M0 a s m c x y ks n → MapAt s' m y ∧ Kp s s' m⟩
 | 33 => ⟨fun a s => ∃ kc vv el, a = [.ptr kc 0 0] ∧ Tr.get B.none kc s.h = .row [vv] 1 el false 0 0 0 ∧ kc.toNat < s.nx.toNat ∧ Ints s vv ∧ lenV vv ≤ 10,
   fun a s v s' => ∀ kc vv el, a = [.ptr kc 0 0] → Tr.get B.none kc s.h = .row [vv] 1 el false 0 0 0 → Ext s s' ∧ ∃ a0 : Go.Ev.K, ∃ mm : Nat → Go.Ev.K, v = .sl a0 0 0 (lenV vv + 1) (lenV vv + 1) ∧ s.nx.toNat ≤ a0.toNat ∧ a0.toNat < s'.nx.toNat ∧
    Tr.get B.none a0 s'.h = .row ((List.range (lenV vv + 1)).map fun i => .ref 0 (mm i)) (lenV vv + 1) 76 false 0 0 0 ∧ (∀ i, i < lenV vv + 1 → MapAt s' (mm i) ([], 0) ∧ s.nx.toNat ≤ (mm i).toNat ∧ (mm i).toNat < s'.nx.toNat) ∧ ∀ i j, i < lenV vv + 1 → j < lenV vv + 1 → mm i = mm j → i = j⟩
 | _ => ⟨fun _ _ => False, fun _ _ _ _ => True⟩
variable {M0 : Mc}
def KN : Nat → Ct := fun _ => ⟨fun _ _ => False, fun _ _ _ _ => True⟩
abbrev noL : Nat → Lt := fun _ => ⟨fun _ _ => True, fun _ _ _ => True⟩
theorem kept {L : Nat → Lt} {f : Nat} (h : Holds Tryz.prog (K M0) f) : Kept (K M0) (RkN Tryz.prog (K M0) KN L) f := RkN_kept h fun _ _ g => g
theorem fn_x {L : Nat → Lt} {f : Nat} {a : List V} {s s' : S} {v : V} (h : (fnC pc0 f).run (RkN Tryz.prog (K M0) KN L) a s = .ret v s') : CallX Tryz.prog f a s v s' := fn_call pcOk0.1 pcOk0.2 (RkN_ok pc0 (K M0) KN L) h
variable {M0 : Mc}
theorem xnot (b : Bool) (c : V → Go.Ev.A) : xUn .not (.bool b) c = c (.bool !b) := by cases b <;> rfl
theorem isNaN_ok : Holds Tryz.prog (K M0) 194 := by
 rintro a s ⟨z, rfl⟩
 refine ⟨.bool false, s, ?_, rfl, rfl⟩
 refine fn_x (M0 := M0) (L := noL) ?_
 generalize RkN Tryz.prog _ _ _ = r
 simp -implicitDefEqProofs [allisNaN, gp_sp, neq_ii]
theorem LessI_ok : Holds Tryz.prog (K M0) 166 := by
 rintro a s ⟨z, y, rfl⟩
 refine ⟨.bool (decide (z < y)), s, ?_, ?_⟩
 ·refine fn_x (M0 := M0) (L := noL) ?_
  have hn := kept (M0 := M0) (L := noL) isNaN_ok
  generalize RkN Tryz.prog _ _ _ = r at hn
  have h1 : ∀ z : Int, r.call 194 [iv .i64 z] s = .ret (.bool false) s := fun z => by
   obtain ⟨v, s', h1, rfl, rfl⟩ := hn [iv .i64 z] s ⟨z, rfl⟩
   exact h1
  simp -implicitDefEqProofs [allLessI, gp_sp, h1, lss_ii]
 ·intro z' y' e
  injection e with e1 e
  injection e with e2 _
  exact ⟨rfl, by rw [iv_inj e1, iv_inj e2]⟩
theorem Len64_ok : Holds Tryz.prog (K M0) 170 := by
 rintro a s ⟨z, rfl, hz⟩
 suffices h : ∃ v : Int, (fnC pc0 170).run (RkN Tryz.prog (K M0) KN noL) [iv .u64 (z : Int)] s = .ret (iv .i64 v) s by
  obtain ⟨v, h⟩ := h
  exact ⟨_, s, fn_x h, rfl, v, rfl⟩
 generalize RkN Tryz.prog _ _ _ = r
 have e1 : ¬ (4294967296 : Int) ≤ (z : Int) := by omega
 have e2 : ¬ (65536 : Int) ≤ (z : Int) := by omega
 have e3 : ¬ (256 : Int) ≤ (z : Int) := by omega
 have hc : ∀ c : V → Go.Ev.A, xIntConv .u8 (iv .u64 (z : Int)) c = c (iv .u8 (z : Int)) := fun c => conv_nat .u8 .u64 (show z < 256 from hz) c
 have hi : ∀ (l : List Nat) (c : V → Go.Ev.A), l.length = 256 → xIndexS (.str l) (iv .u8 (z : Int)) c = c (iv .u8 (l.getD z 0 : Nat)) := fun l c hl => idxS_s l .u8 (by omega) c
 have h8 : ∀ n : Nat, ∃ y : Int, ∀ c : V → Go.Ev.A, xIntConv .i64 (iv .u8 (n : Int)) c = c (iv .i64 y) := fun n => ⟨IntKind.i64.wrap (n : Int), fun c => by show natR .i64 n c = _; rw [natR_eq]; rfl⟩
 simp -implicitDefEqProofs [allLen64, gp_sp, geq_ii, nat_iv, e1, e2, e3, hc]
 rw [hi _ _ rfl]
 obtain ⟨y, hy⟩ := h8 (List.getD _ z 0)
 rw [hy]
 simp -implicitDefEqProofs [add_ii, gp_sp]
 exact ⟨_, rfl⟩
theorem Len_ok : Holds Tryz.prog (K M0) 124 := by
 rintro a s ⟨z, rfl, hz⟩
 suffices h : ∃ v : Int, (fnC pc0 124).run (RkN Tryz.prog (K M0) KN noL) [iv .u64 (z : Int)] s = .ret (iv .i64 v) s by
  obtain ⟨v, h⟩ := h
  exact ⟨_, s, fn_x h, rfl, v, rfl⟩
 have hn := kept (M0 := M0) (L := noL) Len64_ok
 generalize RkN Tryz.prog _ _ _ = r at hn ⊢
 obtain ⟨v, s', h1, rfl, y, rfl⟩ := hn [iv .u64 (z : Int)] s ⟨z, rfl, hz⟩
 exact ⟨y, by simp -implicitDefEqProofs [allLen, gp_sp, h1]⟩
variable {M0 : Mc}
def ltI {Q : Type} (I : Q → Go.Ev.T → S → Prop) (O : Q → Go.Ev.A → Prop) : Lt := ⟨fun tm s => ∃ q, I q tm s, fun tm s a => ∀ q, I q tm s → O q a⟩
def Off (s0 s : S) (k : Go.Ev.K) : Prop := (∀ b, b ≠ k → Tr.get B.none b s.h = Tr.get B.none b s0.h) ∧ s.nx = s0.nx
theorem Off.trans {a b c : S} {k : Go.Ev.K} (h : Off a b k) (g : Off b c k) : Off a c k := ⟨fun x hx => (g.1 x hx).trans (h.1 x hx), g.2.trans h.2⟩
structure IQ where
 k : Go.Ev.K
 s0 : S
 p1 : List Int
 x : Int
 p2 : List Int
 t : List Int
structure InsF (k : Go.Ev.K) (n i : Nat) (tm : Go.Ev.T) : Prop where
 g0 : gp 0 tm = soV k n
 g1 : gp 1 tm = iv .i64 0
 g2 : gp 2 tm = iv .i64 (n : Int)
 g6 : gp 6 tm = iv .i64 (i : Int)
 bd : gp 240 tm = .bad
def IQ.w (q : IQ) : List Int := q.p1 ++ q.x :: (q.p2 ++ q.t)
def insIn (q : IQ) (tm : Go.Ev.T) (s : S) : Prop := InsF q.k q.w.length (q.p1.length + q.p2.length) tm ∧ gp 7 tm = iv .i64 (q.p1.length : Int) ∧ Wd s q.k q.w ∧ Off q.s0 s q.k ∧ sorted (q.p1 ++ q.p2) ∧ (∀ y ∈ q.p2, q.x ≤ y) ∧ q.w.length ≤ 12
def insOut (q : IQ) (a : Go.Ev.A) : Prop := ∃ tm' s' p', a = .ext 2 tm' s' ∧ InsF q.k q.w.length (q.p1.length + q.p2.length) tm' ∧ Wd s' q.k (p' ++ q.t) ∧ Off q.s0 s' q.k ∧ sorted p' ∧ p'.Perm (q.x :: (q.p1 ++ q.p2))
structure OQ where
 k : Go.Ev.K
 s0 : S
 w0 : List Int
def outIn (q : OQ) (tm : Go.Ev.T) (s : S) : Prop := ∃ p t i, InsF q.k (p ++ t).length i tm ∧ Wd s q.k (p ++ t) ∧ Off q.s0 s q.k ∧ sorted p ∧ (p ++ t).Perm q.w0 ∧ (p.length = i ∨ (t = [] ∧ p.length < i)) ∧ i ≤ 12 ∧ (p ++ t).length ≤ 12
def outOut (q : OQ) (a : Go.Ev.A) : Prop := ∃ tm' s' w', a = .ext 0 tm' s' ∧ gp 240 tm' = .bad ∧ Wd s' q.k w' ∧ Off q.s0 s' q.k ∧ sorted w' ∧ w'.Perm q.w0
def ltIns : Nat → Lt
 | 47 => ltI insIn insOut
 | 68 => ltI outIn outOut
 | _ => ⟨fun _ _ => True, fun _ _ _ => True⟩
theorem getD_mid (p : List Int) (x : Int) (t : List Int) : (p ++ x :: t).getD p.length 0 = x := by
 rw [List.getD_eq_getElem?_getD, List.getElem?_append_right (Nat.le_refl _)]; simp
theorem set_mid (p : List Int) (x y : Int) (t : List Int) : (p ++ x :: t).set p.length y = p ++ y :: t := by
 rw [List.set_append_right _ _ (Nat.le_refl _)]; simp
theorem loopIns1 : ∀ tm s', (ltIns 47).pre tm s' → (ltIns 47).post tm s' (cInsI_15.run (RkN Tryz.prog (K M0) KN ltIns) tm s') := by
 refine loop_n (L := ltIns) pcOk0.1 pcOk0.2 szInsI_15 (fun tm _ => (toI (gp 7 tm)).toNat) ?_ ?_
 ·rintro tm s a ⟨q, hq⟩ h
  obtain ⟨_, _, _, rfl, _⟩ : insOut _ _ := h q hq
  exact fun h => h
 rintro tm s - IH ⟨k, s0, p1, x, p2, t⟩ ⟨hF, h7, hw, hoff, hs, hx, h12⟩
 have IH' : ∀ tm' s3 q, (toI (gp 7 tm')).toNat < (toI (gp 7 tm)).toNat → insIn q tm' s3 → insOut q ((RkN Tryz.prog (K M0) KN ltIns).code fiInsI uInsI_15 tm' s3) := fun tm' s3 q h1 h2 => IH tm' s3 h1 ⟨q, h2⟩ q h2
 clear IH
 show insOut _ (cInsI_15.run _ tm s)
 have hl := kept (M0 := M0) (L := ltIns) LessI_ok
 generalize RkN Tryz.prog _ _ _ = r at IH' hl ⊢
 have hless : ∀ (z y : Int) (s : S), r.call 166 [iv .i64 z, iv .i64 y] s = .ret (.bool (decide (z < y))) s := fun z y s => by
  obtain ⟨v, s', h1, h2⟩ := hl [iv .i64 z, iv .i64 y] s ⟨z, y, rfl⟩
  obtain ⟨rfl, rfl⟩ := h2 z y rfl
  exact h1
 have hF : InsF k (p1 ++ x :: (p2 ++ t)).length (p1.length + p2.length) tm := hF
 have h7 : gp 7 tm = iv .i64 (p1.length : Int) := h7
 have hw : Wd s k (p1 ++ x :: (p2 ++ t)) := hw
 have hs : sorted (p1 ++ p2) := hs
 have hx : ∀ y ∈ p2, x ≤ y := hx
 have hoff : Off s0 s k := hoff
 have h12 : (p1 ++ x :: (p2 ++ t)).length ≤ 12 := h12
 obtain ⟨g0, g1, g2, g6, bd⟩ := hF
 rcases List.eq_nil_or_concat p1 with rfl | ⟨q, y, rfl⟩
 ·have h7' : gp 7 tm = iv .i64 0 := h7
  simp -implicitDefEqProofs [lpInsI_15, allInsI, gp_sp, g1, h7', gtr_ii]
  refine ⟨_, s, x :: p2, rfl, ⟨by simp [gp_sp, g0, IQ.w], by simp [gp_sp, g1], by simp [gp_sp, g2, IQ.w], by simp [gp_sp, g6], by simp [gp_sp, bd]⟩, hw, hoff, List.pairwise_cons.2 ⟨hx, hs⟩, List.Perm.refl _⟩
 ·have e7 : ((q ++ [y]).length : Int) = (q.length : Int) + 1 := by simp
  simp only [List.concat_eq_append] at *
  rw [e7] at h7
  have e1 : q ++ [y] ++ x :: (p2 ++ t) = q ++ y :: x :: (p2 ++ t) := by simp
  rw [e1] at hw g0 g2 h12
  have hn : (q ++ y :: x :: (p2 ++ t)).length = q.length + 2 + (p2 ++ t).length := by simp; omega
  have hgt : (0 : Int) < (q.length : Int) + 1 := by omega
  have w1 : IntKind.i64.wrap (q.length : Int) = (q.length : Int) := wrap64 (by omega) (by omega)
  generalize hw0 : q ++ y :: x :: (p2 ++ t) = w at hw g0 g2 h12 hn
  have d1 : w.getD (q.length + 1) 0 = x := by
   rw [← hw0, show q ++ y :: x :: (p2 ++ t) = (q ++ [y]) ++ x :: (p2 ++ t) by simp]
   simp
  have d0 : w.getD q.length 0 = y := by rw [← hw0]; exact getD_mid _ _ _
  have i1 : ∀ c : V → Go.Ev.A, xIdxAddrS 1 (soV k w.length) (iv .i64 ((q.length : Int) + 1)) c = c (.ptr k w.length (q.length + 1)) := fun c => by
   have := Wd.idx (a := k) (w := w) (i := (q.length : Int) + 1) (by omega) (by omega) .i64 c
   rwa [show ((q.length : Int) + 1).toNat = q.length + 1 by omega] at this
  have i0 : ∀ c : V → Go.Ev.A, xIdxAddrS 1 (soV k w.length) (iv .i64 (q.length : Int)) c = c (.ptr k w.length q.length) := fun c => by
   have := Wd.idx (a := k) (w := w) (i := (q.length : Int)) (by omega) (by omega) .i64 c
   rwa [Int.toNat_natCast] at this
  have l1 := fun c => hw.load (i := q.length + 1) (by omega) c
  have l0 := fun c => hw.load (i := q.length) (by omega) c
  rw [d1] at l1
  rw [d0] at l0
  by_cases hlt : x < y
  ·obtain ⟨s1, st1, hw1, ho1, hn1⟩ := hw.store (i := q.length + 1) (by omega) y
   have hlen1 : (w.set (q.length + 1) y).length = w.length := List.length_set ..
   obtain ⟨s2, st2, hw2, ho2, hn2⟩ := hw1.store (i := q.length) (by rw [hlen1]; omega) x
   rw [hlen1] at st2
   have ew : (w.set (q.length + 1) y).set q.length x = q ++ x :: y :: (p2 ++ t) := by
    rw [← hw0]
    have := set_mid (q ++ [y]) x y (p2 ++ t)
    rw [show (q ++ [y]) ++ x :: (p2 ++ t) = q ++ y :: x :: (p2 ++ t) by simp, show (q ++ [y]).length = q.length + 1 by simp] at this
    rw [this, show (q ++ [y]) ++ y :: (p2 ++ t) = q ++ y :: y :: (p2 ++ t) by simp, set_mid]
   rw [ew] at hw2
   have hwl : (q ++ x :: y :: (p2 ++ t)).length = w.length := by rw [hn]; simp; omega
   have conv : ∀ a, insOut ⟨k, s0, q, x, y :: p2, t⟩ a → insOut ⟨k, s0, q ++ [y], x, p2, t⟩ a := by
    rintro a ⟨tm3, s3, p', k1, k2, k3, k4, k5, k6⟩
    have e : IQ.w ⟨k, s0, q ++ [y], x, p2, t⟩ = w := by rw [← hw0]; simp [IQ.w]
    have e' : IQ.w ⟨k, s0, q, x, y :: p2, t⟩ = q ++ x :: y :: (p2 ++ t) := rfl
    refine ⟨tm3, s3, p', k1, ?_, k3, k4, k5, k6.trans (by simp)⟩
    rw [e', hwl] at k2
    show InsF k (IQ.w ⟨k, s0, q ++ [y], x, p2, t⟩).length _ _
    rw [e]
    have : (q ++ [y]).length + p2.length = q.length + (y :: p2).length := by simp; omega
    show InsF k w.length ((q ++ [y]).length + p2.length) _
    rw [this]; exact k2
   simp -implicitDefEqProofs [lpInsI_15, allInsI, gp_sp, g0, g1, h7, gtr_ii, sub_ii, w1, i1, i0, l1, l0, det_call, hless, hlt, nat_iv, hgt, st1, st2]
   refine conv _ (IH' _ s2 ⟨k, s0, q, x, y :: p2, t⟩ (by simp [gp_sp, h7, toI_iv]) ⟨⟨by rw [show IQ.w ⟨k, s0, q, x, y :: p2, t⟩ = q ++ x :: y :: (p2 ++ t) from rfl, hwl]; simp [gp_sp, g0], by simp [gp_sp, g1], by rw [show IQ.w ⟨k, s0, q, x, y :: p2, t⟩ = q ++ x :: y :: (p2 ++ t) from rfl, hwl]; simp [gp_sp, g2], by simp [gp_sp, g6]; congr 1; omega, by simp [gp_sp, bd]⟩, by simp [gp_sp], hw2, ⟨fun b hb => ((ho2 b hb).trans (ho1 b hb)).trans (hoff.1 b hb), hn2.trans (hn1.trans hoff.2)⟩, by simpa using hs, fun z hz => ?_, by rw [show IQ.w ⟨k, s0, q, x, y :: p2, t⟩ = q ++ x :: y :: (p2 ++ t) from rfl, hwl]; exact h12⟩)
   ·rcases List.mem_cons.1 hz with rfl | hz
    ·show x ≤ z; omega
    ·exact hx z hz
  ·simp -implicitDefEqProofs [lpInsI_15, allInsI, gp_sp, g0, g1, h7, gtr_ii, sub_ii, w1, i1, i0, l1, l0, det_call, hless, hlt, nat_iv, hgt]
   have e : IQ.w ⟨k, s0, q ++ [y], x, p2, t⟩ = w := by rw [← hw0]; simp [IQ.w]
   refine ⟨_, s, q ++ y :: x :: p2, rfl, ?_, by rw [show (q ++ y :: x :: p2) ++ t = w by rw [← hw0]; simp]; exact hw, hoff, ?_, ?_⟩
   ·show InsF k (IQ.w ⟨k, s0, q ++ [y], x, p2, t⟩).length ((q ++ [y]).length + p2.length) _
    rw [e]
    exact ⟨by simp [gp_sp, g0], by simp [gp_sp, g1], by simp [gp_sp, g2], by simp [gp_sp, g6], by simp [gp_sp, bd]⟩
   ·have hs' : (q ++ [y] ++ p2).Pairwise (· ≤ ·) := hs
    rw [List.pairwise_append, List.pairwise_append] at hs'
    obtain ⟨⟨h1, -, h3⟩, h4, h5⟩ := hs'
    show (q ++ y :: x :: p2).Pairwise (· ≤ ·)
    rw [List.pairwise_append, List.pairwise_cons, List.pairwise_cons]
    have hyx : y ≤ x := by omega
    refine ⟨h1, ⟨fun z hz => ?_, hx, h4⟩, fun z hz u hu => ?_⟩
    ·rcases List.mem_cons.1 hz with rfl | hz
     ·exact hyx
     ·exact h5 y (by simp) z hz
    ·have hzy : z ≤ y := h3 z hz y (by simp)
     rcases List.mem_cons.1 hu with rfl | hu
     ·exact hzy
     ·rcases List.mem_cons.1 hu with rfl | hu
      ·omega
      ·exact h5 z (by simp [hz]) u hu
   ·show (q ++ y :: x :: p2).Perm (x :: (q ++ [y] ++ p2))
    rw [show q ++ [y] ++ p2 = q ++ y :: p2 by simp]
    exact (List.perm_middle (l₁ := q ++ [y]) (a := x) (l₂ := p2)).trans (by simp) |> fun h => by simpa using h
variable {M0 : Mc}
theorem loopIns2 : ∀ tm s', (ltIns 68).pre tm s' → (ltIns 68).post tm s' (cInsI_3.run (RkN Tryz.prog (K M0) KN ltIns) tm s') := by
 refine loop_n (L := ltIns) pcOk0.1 pcOk0.2 szInsI_3 (fun tm _ => 20 - (toI (gp 6 tm)).toNat) ?_ ?_
 ·rintro tm s a ⟨q, hq⟩ h
  obtain ⟨_, _, _, rfl, _⟩ : outOut _ _ := h q hq
  exact fun h => h
 rintro tm s - IH ⟨k, s0, w0⟩ ⟨p, t, i, ⟨g0, g1, g2, g6, bd⟩, hw, hoff, hs, hp, hi, h12a, h12⟩
 have IH' : ∀ tm' s3 q, 20 - (toI (gp 6 tm')).toNat < 20 - (toI (gp 6 tm)).toNat → outIn q tm' s3 → outOut q ((RkN Tryz.prog (K M0) KN ltIns).code fiInsI uInsI_3 tm' s3) := fun tm' s3 q h1 h2 => IH tm' s3 h1 ⟨q, h2⟩ q h2
 clear IH
 show outOut _ (cInsI_3.run _ tm s)
 have hin := loopIns1 (M0 := M0)
 generalize RkN Tryz.prog _ _ _ = r at IH' hin ⊢
 simp only at g0 g1 g2 g6 hw hoff hp
 have w2 : IntKind.i64.wrap ((i : Int) + 1) = (i : Int) + 1 := wrap64 (by omega) (by omega)
 by_cases hlt : i < (p ++ t).length
 ·have hpi : p.length = i := by
   rcases hi with h | ⟨h1, h2⟩
   ·exact h
   ·subst h1; simp at hlt; omega
  cases t with
  | nil => simp at hlt; omega
  | cons x t =>
   have hlt' : (i : Int) < ((p ++ x :: t).length : Int) := by omega
   simp -implicitDefEqProofs only [lpInsI_3, allInsI, g2, g6, lss_ii, seqA_nrm, decide_eq_true hlt']
   simp -implicitDefEqProofs [gp_sp, g6]
   generalize hX : cInsI_15.run r _ _ = X
   have h2 : insOut ⟨k, s0, p, x, [], t⟩ X := by
    rw [← hX]
    refine (fun h => hin _ _ ⟨_, h⟩ _ h) ⟨⟨by simp [gp_sp, g0, IQ.w], by simp [gp_sp, g1], by simp [gp_sp, g2, IQ.w], by simp [gp_sp, g6, hpi], by simp [gp_sp, bd]⟩, by simp [gp_sp, hpi], hw, hoff, by simpa using hs, (fun y (hy : y ∈ ([] : List Int)) => absurd hy (by simp)), h12⟩
   obtain ⟨tm3, s3, p', rfl, ⟨f0, f1, f2, f6, fb⟩, hw3, hoff3, hs3, hp3⟩ := h2
   have el : (IQ.w ⟨k, s0, p, x, [], t⟩).length = (p' ++ t).length := by
    have := hp3.length_eq
    simp [IQ.w] at this ⊢
    omega
   simp only [el] at f0 f2
   have f6' : gp 6 tm3 = iv .i64 (i : Int) := by rw [f6]; simp [hpi]
   have hl3 := hp3.length_eq
   simp at hl3
   simp -implicitDefEqProofs [f6', add_ii, w2, nat_iv]
   refine IH' _ s3 ⟨k, s0, w0⟩ (by simp [gp_sp, g6, toI_iv]; omega) ⟨p', t, i + 1, ⟨by simp [gp_sp, f0], by simp [gp_sp, f1], by simp [gp_sp, f2], by simp [gp_sp], by simp [gp_sp, fb]⟩, hw3, hoff3, hs3, ?_, .inl (by omega), by simp at h12 ⊢; omega, by simp at h12 ⊢; omega⟩
   refine List.Perm.trans (hp3.append_right t) (List.Perm.trans ?_ hp)
   show (x :: (p ++ []) ++ t).Perm (p ++ x :: t)
   rw [List.append_nil]
   exact (List.perm_middle).symm
 ·have hlt' : ¬ (i : Int) < ((p ++ t).length : Int) := by omega
  simp -implicitDefEqProofs only [lpInsI_3, allInsI, g2, g6, lss_ii, seqA_nrm, decide_eq_false hlt']
  refine ⟨_, s, p ++ t, rfl, by simp [gp_sp, bd], hw, hoff, ?_, hp⟩
  rcases hi with h | ⟨h1, h2⟩
  ·have : t = [] := by
    have := hlt
    simp at this
    exact List.length_eq_zero_iff.1 (by omega)
   rw [this, List.append_nil]; exact hs
  ·rw [h1, List.append_nil]; exact hs
theorem wd_one {_ : S} {w : List Int} (h : w.length ≤ 1) : sorted w := by
 match w, h with
 | [], _ => exact List.Pairwise.nil
 | [x], _ => exact List.pairwise_singleton _ _
theorem InsI_ok : Holds Tryz.prog (K M0) 160 := by
 rintro a s (⟨k, w, rfl, hw, h12⟩ | rfl)
 ·suffices h : ∃ s' w', (fnC pc0 160).run (RkN Tryz.prog (K M0) KN ltIns) [soV k w.length, iv .i64 0, iv .i64 (w.length : Int)] s = .ret Go.Ev.undef s' ∧ Wd s' k w' ∧ Off s s' k ∧ sorted w' ∧ w'.Perm w by
   obtain ⟨s', w', h1, h2, h3, h4, h5⟩ := h
   refine ⟨_, s', fn_x h1, ?_, fun e => ?_⟩
   ·intro k' w1 e hw1
    injection e with e _
    simp only [soV, V.so.injEq] at e
    obtain ⟨rfl, e, -⟩ := e
    obtain ⟨_, _, q1⟩ := hw1
    obtain ⟨_, _, q2⟩ := hw
    rw [q1] at q2
    injection q2 with q2
    obtain rfl : w1 = w := by
     have := congrArg (List.map toI) q2
     simpa [List.map_map, Function.comp_def, toI_iv] using this
    exact ⟨w', h2, h4, h5, h3.1, h3.2⟩
   ·injection e with e; cases e
  have hin := loopIns2 (M0 := M0)
  generalize RkN Tryz.prog _ _ _ = r at hin ⊢
  have hsp : ∃ p t, w = p ++ t ∧ sorted p ∧ (p.length = 1 ∨ (t = [] ∧ p.length < 1)) := by
   cases w with
   | nil => exact ⟨[], [], rfl, List.Pairwise.nil, .inr ⟨rfl, by decide⟩⟩
   | cons x w => exact ⟨[x], w, rfl, List.pairwise_singleton _ _, .inl rfl⟩
  obtain ⟨p, t, rfl, hs, hpt⟩ := hsp
  have w1 : IntKind.i64.wrap 1 = 1 := rfl
  simp -implicitDefEqProofs [allInsI, gp_sp, add_ii, nat_iv, w1]
  generalize hX : cInsI_3.run r _ _ = X
  have h2 : outOut ⟨k, s, p ++ t⟩ X := by
   rw [← hX]
   exact (fun h => hin _ _ ⟨_, h⟩ _ h) ⟨p, t, 1, ⟨by simp [gp_sp], by simp [gp_sp], by simp [gp_sp], by simp [gp_sp], by simp [gp_sp]⟩, hw, ⟨fun _ _ => rfl, rfl⟩, hs, List.Perm.refl _, hpt, by decide, h12⟩
  obtain ⟨tm3, s3, w', rfl, fb, hw3, hoff3, hs3, hp3⟩ := h2
  refine ⟨s3, ?_, w', hw3, hoff3, hs3, hp3⟩
  simp -implicitDefEqProofs [fb]
 ·refine ⟨Go.Ev.undef, s, fn_x (M0 := M0) (L := noL) ?_, ?_, fun _ => rfl⟩
  ·generalize RkN Tryz.prog _ _ _ = r
   have w1 : IntKind.i64.wrap 1 = 1 := rfl
   simp -implicitDefEqProofs [lpInsI_3, allInsI, gp_sp, add_ii, nat_iv, w1, lss_ii]
  ·intro k w e
   injection e with e; cases e
variable {M0 : Mc}
theorem PdqI_ok : Holds Tryz.prog (K M0) 123 := by
 rintro a s ⟨z, ⟨k, w, rfl, hw, h12⟩ | rfl⟩
 ·have hins := kept (M0 := M0) (L := noL) InsI_ok
  suffices h : ∃ s' w', (fnC pc0 123).run (RkN Tryz.prog (K M0) KN noL) [soV k w.length, iv .i64 0, iv .i64 (w.length : Int), iv .i64 z] s = .ret Go.Ev.undef s' ∧ Wd s' k w' ∧ sorted w' ∧ w'.Perm w ∧ (∀ b, b ≠ k → Tr.get B.none b s'.h = Tr.get B.none b s.h) ∧ s'.nx = s.nx by
   obtain ⟨s', w', h1, h2, h3, h4, h5⟩ := h
   refine ⟨_, s', fn_x h1, ?_, fun z e => ?_⟩
   ·intro k' w1 z' e hw1
    injection e with e _
    simp only [soV, V.so.injEq] at e
    obtain ⟨rfl, e, -⟩ := e
    obtain ⟨_, _, q1⟩ := hw1
    obtain ⟨_, _, q2⟩ := hw
    rw [q1] at q2
    injection q2 with q2
    obtain rfl : w1 = w := by
     have := congrArg (List.map toI) q2
     simpa [List.map_map, Function.comp_def, toI_iv] using this
    exact ⟨w', h2, h3, h4, h5⟩
   ·injection e with e; cases e
  generalize RkN Tryz.prog _ _ _ = r at hins ⊢
  obtain ⟨v, s', h1, h2, -⟩ := hins [soV k w.length, iv .i64 0, iv .i64 (w.length : Int)] s (.inl ⟨k, w, rfl, hw, h12⟩)
  obtain ⟨w', h3, h4, h5, h6⟩ := h2 k w rfl hw
  have e1 : IntKind.i64.wrap ((w.length : Int) - 0) = (w.length : Int) := by rw [wrap64 (by omega) (by omega)]; omega
  have e1' : IntKind.i64.wrap (w.length : Int) = (w.length : Int) := wrap64 (by omega) (by omega)
  have e2 : (w.length : Int) ≤ 12 := by omega
  refine ⟨s', w', ?_, h3, h4, h5, h6⟩
  simp -implicitDefEqProofs [lpPdqI_5, allPdqI, gp_sp, sub_ii, nat_iv, e1', leq_ii, e2, h1]
 ·have hins := kept (M0 := M0) (L := noL) InsI_ok
  refine ⟨Go.Ev.undef, s, fn_x (M0 := M0) (L := noL) ?_, ?_, fun _ _ => rfl⟩
  ·generalize RkN Tryz.prog _ _ _ = r at hins ⊢
   obtain ⟨v, s', h1, -, h2⟩ := hins [.nil 1, iv .i64 0, iv .i64 0] s (.inr rfl)
   obtain rfl := h2 rfl
   have e1 : IntKind.i64.wrap 0 = 0 := rfl
   simp -implicitDefEqProofs [lpPdqI_5, allPdqI, gp_sp, sub_ii, nat_iv, e1, leq_ii, h1]
  ·intro k w z e
   injection e with e; cases e
theorem SortI_ok : Holds Tryz.prog (K M0) 85 := by
 rintro a s (⟨k, w, rfl, hw, h12⟩ | rfl)
 ·have hp := kept (M0 := M0) (L := noL) PdqI_ok
  have hl := kept (M0 := M0) (L := noL) Len_ok
  suffices h : ∃ s' w', (fnC pc0 85).run (RkN Tryz.prog (K M0) KN noL) [soV k w.length] s = .ret Go.Ev.undef s' ∧ Wd s' k w' ∧ sorted w' ∧ w'.Perm w ∧ (∀ b, b ≠ k → Tr.get B.none b s'.h = Tr.get B.none b s.h) ∧ s'.nx = s.nx by
   obtain ⟨s', w', h1, h2, h3, h4, h5⟩ := h
   refine ⟨_, s', fn_x h1, ?_, fun e => ?_⟩
   ·intro k' w1 e hw1
    injection e with e _
    simp only [soV, V.so.injEq] at e
    obtain ⟨rfl, e, -⟩ := e
    obtain ⟨_, _, q1⟩ := hw1
    obtain ⟨_, _, q2⟩ := hw
    rw [q1] at q2
    injection q2 with q2
    obtain rfl : w1 = w := by
     have := congrArg (List.map toI) q2
     simpa [List.map_map, Function.comp_def, toI_iv] using this
    exact ⟨w', h2, h3, h4, h5⟩
   ·injection e with e; cases e
  generalize RkN Tryz.prog _ _ _ = r at hp hl ⊢
  obtain ⟨v, s1, h1, rfl, z, rfl⟩ := hl [iv .u64 (w.length : Int)] s ⟨w.length, rfl, by omega⟩
  obtain ⟨v, s', h2, h3, -⟩ := hp [soV k w.length, iv .i64 0, iv .i64 (w.length : Int), iv .i64 z] s1 ⟨z, .inl ⟨k, w, rfl, hw, h12⟩⟩
  obtain ⟨w', h4, h5, h6, h7⟩ := h3 k w z rfl hw
  refine ⟨s', w', ?_, h4, h5, h6, h7⟩
  have hlen : ∀ c : V → Go.Ev.A, xLenS (soV k w.length) c = c (iv .i64 (w.length : Int)) := fun c => rfl
  have hc : ∀ c : V → Go.Ev.A, xIntConv .u64 (iv .i64 (w.length : Int)) c = c (iv .u64 (w.length : Int)) := fun c => conv_nat .u64 .i64 (show w.length < lim .u64 from Nat.lt_of_le_of_lt h12 (by decide)) c
  simp -implicitDefEqProofs [allSortI, gp_sp, hlen, hc, h1, h2, nat_iv]
 ·have hp := kept (M0 := M0) (L := noL) PdqI_ok
  have hl := kept (M0 := M0) (L := noL) Len_ok
  refine ⟨Go.Ev.undef, s, fn_x (M0 := M0) (L := noL) ?_, ?_, fun _ => rfl⟩
  ·generalize RkN Tryz.prog _ _ _ = r at hp hl ⊢
   obtain ⟨v, s1, h1, rfl, z, rfl⟩ := hl [iv .u64 0] s ⟨0, rfl, by omega⟩
   obtain ⟨v, s', h2, -, h3⟩ := hp [.nil 1, iv .i64 0, iv .i64 0, iv .i64 z] s1 ⟨z, .inr rfl⟩
   obtain rfl := h3 z rfl
   have hlen : ∀ c : V → Go.Ev.A, xLenS (.nil 1) c = c (iv .i64 0) := fun c => rfl
   have hc : ∀ c : V → Go.Ev.A, xIntConv .u64 (iv .i64 0) c = c (iv .u64 0) := fun c => rfl
   simp -implicitDefEqProofs [allSortI, gp_sp, hlen, hc, h1, h2, nat_iv]
  ·intro k w e
   injection e with e; cases e
variable {M0 : Mc}
theorem look_ok {s : S} {m : Go.Ev.K} {x : LM × Nat} (h : MapAt s m x) (q : Int) (c : V → Go.Ev.A) :
  xLookup ⟨7, []⟩ (.str []) true (.ref 0 m) (iv .i64 q) s c = c (match lookL x.1 q with | some r => .ls 1 [.str (stR r), .bool true] | none => .ls 1 [.str [], .bool false]) := by
 show hget s m _ = _
 rw [hget_eq, h]
 show findE ⟨7, []⟩ (iv .i64 q) (x.1.map toME) (fun r => found (.str []) true r c) = _
 rw [findE_i q _ _ (keysI_m _), mapI_m]
 cases lookL x.1 q <;> rfl
theorem look_one {s : S} {m : Go.Ev.K} {x : LM × Nat} (h : MapAt s m x) (q : Int) (c : V → Go.Ev.A) :
  xLookup ⟨7, []⟩ (.str []) false (.ref 0 m) (iv .i64 q) s c = c (match lookL x.1 q with | some r => .str (stR r) | none => .str []) := by
 show hget s m _ = _
 rw [hget_eq, h]
 show findE ⟨7, []⟩ (iv .i64 q) (x.1.map toME) (fun r => found (.str []) false r c) = _
 rw [findE_i q _ _ (keysI_m _), mapI_m]
 cases lookL x.1 q <;> rfl
theorem mapUpd_m {s : S} {m : Go.Ev.K} {x : LM × Nat} (h : MapAt s m x) (q : Int) (r : Nat) (k : V → S → Go.Ev.A) :
  xMapUpd ⟨7, []⟩ (.ref 0 m) (iv .i64 q) (.str (stR r)) s k = k Go.Ev.undef (setB s m (.map ((insE q r x.2 x.1).map toME) (if (lookL x.1 q).isNone = true then x.2 + 1 else x.2))) := by
 show hget s m _ = _
 rw [hget_eq, h]
 show updE ⟨7, []⟩ (iv .i64 q) (.str (stR r)) x.2 (x.1.map toME) _ = _
 rw [updE_m, fN_eq, hset_eq]
 cases (lookL x.1 q).isNone <;> rfl
theorem upd1_set {s : S} {m : Go.Ev.K} {y : LM × Nat} : Upd1 s (setB s m (.map (y.1.map toME) y.2)) m y :=
 ⟨by unfold MapAt; rw [setB_get, if_pos rfl], fun k hk => by rw [setB_get, if_neg hk], rfl⟩
theorem MapAt.inj {s : S} {m : Go.Ev.K} {x y : LM × Nat} (h : MapAt s m x) (g : MapAt s m y) (hx : okVals x.1) (hy : okVals y.1) (kx : keysOk x.1) (ky : keysOk y.1) : x = y := by
 unfold MapAt at h g
 rw [h] at g
 injection g with g1 g2
 have key : ∀ (l l' : LM), (∀ e ∈ l, rs e.2.1 = true) → (∀ e ∈ l', rs e.2.1 = true) → l.map toME = l'.map toME → l = l' := by
  intro l
  induction l with
  | nil => intro l' _ _ e; cases l' with
   | nil => rfl
   | cons => cases e
  | cons a l ih =>
   intro l' h1 h2 e
   cases l' with
   | nil => cases e
   | cons b l' =>
    simp only [List.map_cons, List.cons.injEq] at e
    obtain ⟨e1, e2⟩ := e
    obtain ⟨q, r, n⟩ := a
    obtain ⟨q', r', n'⟩ := b
    simp only [toME, ME.mk.injEq, V.str.injEq] at e1
    obtain ⟨e3, e4, rfl⟩ := e1
    have e5 : r = r' := stR_inj (h1 (q, r, n) (by simp)) (h2 (q', r', n) (by simp)) e4
    subst e5
    rw [iv_inj e3, ih l' (fun e he => h1 e (by simp [he])) (fun e he => h2 e (by simp [he])) e2]
 have vals : ∀ {z : LM}, okVals z → keysOk z → ∀ e ∈ z, rs e.2.1 = true := fun {z} hz kz e he => hz e.1 e.2.1 ((look_mem kz).2 (List.mem_map.2 ⟨e, he, rfl⟩))
 exact Prod.ext (key _ _ (vals hx kx) (vals hy ky) g1) g2
theorem Reach_ok (hT : Holds Tryz.prog (K M0) 86) (hB : Holds Tryz.prog (K M0) 87) : Holds Tryz.prog (K M0) 35 := by
 rintro a s ⟨m, q, p, w, x, rfl, hm, hv, hk, hp, hw, hpw⟩
 suffices h : ∃ s', (fnC pc0 35).run (RkN Tryz.prog (K M0) KN noL) [.ref 0 m, iv .i64 q, .str (stR p), .str (stR w)] s = .ret (.bool (reachL x q (p + w)).2) s' ∧ Upd1 s s' m (reachL x q (p + w)).1 by
  obtain ⟨s', h1, h2⟩ := h
  refine ⟨_, s', fn_x h1, ?_⟩
  intro m' q' p' w' x' e hm' hv' hk' hp' hw'
  injection e with e0 e
  injection e with e1 e
  injection e with e2 e
  injection e with e3 _
  injection e0 with _ e0
  subst e0
  obtain rfl := iv_inj e1
  injection e2 with e2
  injection e3 with e3
  obtain rfl := stR_inj hp hp' e2
  obtain rfl := stR_inj hw hw' e3
  obtain rfl := hm.inj hm' hv hv' hk.2 hk'.2
  exact ⟨rfl, h2⟩
 have hT' := kept (M0 := M0) (L := noL) hT
 have hB' := kept (M0 := M0) (L := noL) hB
 generalize RkN Tryz.prog _ _ _ = r at hT' hB' ⊢
 obtain ⟨v, s1, h1, h2⟩ := hT' [iv .i64 1, .str (stR p), .str (stR w)] s ⟨p, w, rfl, hp, hw, hpw⟩
 obtain ⟨rfl, rfl⟩ := h2 p w rfl hp hw
 have hl := fun c => look_ok hm q c
 have hu := fun k => mapUpd_m hm q (p + w) k
 cases e : lookL x.1 q with
 | none =>
  rw [e] at hl hu
  refine ⟨setB s1 m (.map ((reachL x q (p + w)).1.1.map toME) (reachL x q (p + w)).1.2), ?_, upd1_set⟩
  ·simp -implicitDefEqProofs [allReach, gp_sp, h1, neq_ii, hl, hu, nat_iv, reachL, e]
 | some o =>
  have ho := hv q o e
  obtain ⟨v, s2, h3, h4⟩ := hB' [iv .i64 1, .str (stR (p + w)), .str (stR o)] s1 ⟨p + w, o, rfl, hpw, ho⟩
  obtain ⟨rfl, z, rfl, hz⟩ := h4 (p + w) o rfl hpw ho
  rw [e] at hl hu
  by_cases g : o ≤ p + w
  ·have hz' := hz.2 g
   refine ⟨s2, ?_, ?_⟩
   ·simp -implicitDefEqProofs [allReach, gp_sp, h1, neq_ii, hl, h3, geq_ii, hz', nat_iv, reachL, e, g]
   ·unfold reachL
    rw [e]
    simp only [if_pos g]
    exact ⟨hm, fun _ _ => rfl, rfl⟩
  ·have hz' : ¬ 0 ≤ z := fun h => g (hz.1 h)
   refine ⟨setB s2 m (.map ((reachL x q (p + w)).1.1.map toME) (reachL x q (p + w)).1.2), ?_, upd1_set⟩
   ·simp -implicitDefEqProofs [allReach, gp_sp, h1, neq_ii, hl, hu, h3, geq_ii, hz', nat_iv, reachL, e, g]
end Go.Proofs.YtobflfopdndfdaaGreatDoor.oev
namespace Go.Ev
open Go.RowKit
def Td (s : S) (N0 : K) (v : V) (w : List Int) : Prop :=
 (v = .nil 1 ∧ w = []) ∨ ∃ (a : K) (l : List Int) (o mn : Nat), N0.toNat ≤ a.toNat ∧ a.toNat < s.nx.toNat ∧ Tr.get B.none a s.h = .row (l.map (iv .i64)) l.length 3 true mn 0 0 ∧ mn ≤ l.length ∧ o ≤ l.length ∧ l.drop o = w ∧ ((w = [] ∧ 0 < o ∧ v = .ref 1 a) ∨ (w ≠ [] ∧ v = .so a l.length o w.length o))
theorem Td.keep {s s' : S} {N0 : K} {v : V} {w : List Int} (h : Td s N0 v w) (hn : s.nx.toNat ≤ s'.nx.toNat) (hk : ∀ c, N0.toNat ≤ c.toNat → c.toNat < s.nx.toNat → Tr.get B.none c s'.h = Tr.get B.none c s.h) : Td s' N0 v w := by
 rcases h with h | ⟨a, l, o, mn, h1, h2, h3, h4⟩
 ·exact .inl h
 ·exact .inr ⟨a, l, o, mn, h1, by omega, (hk a h1 h2).trans h3, h4⟩
theorem Td.len {s : S} {N0 : K} {v : V} {w : List Int} (h : Td s N0 v w) (c : V → A) : xLenS v c = c (iv .i64 (w.length : Int)) := by
 rcases h with ⟨rfl, rfl⟩ | ⟨a, l, o, mn, _, _, _, _, _, _, ⟨rfl, _, rfl⟩ | ⟨_, rfl⟩⟩ <;> rfl
theorem Td.head {s : S} {N0 : K} {v : V} {z : Int} {w : List Int} (h : Td s N0 v (z :: w)) : ∃ p, (∀ c, xIdxAddrS 1 v (iv .i64 0) c = c p) ∧ ∀ k : V → S → A, xLoad false 1 p s k = k (iv .i64 z) s := by
 rcases h with ⟨_, h⟩ | ⟨a, l, o, mn, h1, h2, h3, h4, h5, h6, ⟨h7, _⟩ | ⟨_, rfl⟩⟩
 ·cases h
 ·cases h7
 ·have ho : o < l.length := by
   have := congrArg List.length h6
   simp at this; omega
  have hle : l.length - o = (z :: w).length := by rw [← h6]; simp
  have hz : l.getD o 0 = z := by
   have := congrArg (fun l : List Int => l[0]?) h6
   simp only [List.getElem?_drop, List.getElem?_cons_zero, Nat.add_zero] at this
   rw [List.getD_eq_getElem?_getD, this]; rfl
  have hS : Sl s 1 (.so a l.length o (z :: w).length o) := .inr ⟨a, l.length, o, (z :: w).length, .inr ⟨o, rfl⟩, h2, _, _, _, _, _, _, _, h3, by simp, rdOk_or.2 (.inl ⟨rfl, h4, Nat.le_refl _, by omega⟩)⟩
  obtain ⟨p, hp, hP⟩ := hS.idx (i := 0) (by omega) (by show (0 : Int) < ((z :: w).length : Int); simp)
  have hc : cellV s (.so a l.length o (z :: w).length o) 0 = iv .i64 z := by
   simp only [cellV, h3, cellsB, Nat.add_zero]
   rw [List.getD_eq_getElem?_getD, List.getElem?_map, ← hz, List.getD_eq_getElem?_getD, List.getElem?_eq_getElem ho]; rfl
  refine ⟨p, fun c => hp .i64 c, fun k => ?_⟩
  have := hP.load1 Nat.zero_lt_one (by show cellV s _ (Int.toNat 0 * 1 + 0) ≠ _; rw [show Int.toNat 0 * 1 + 0 = 0 from rfl, hc]; exact iv_ne _ _) k
  rw [this]
  show k (cellV s _ (Int.toNat 0 * 1 + 0)) s = _
  rw [show Int.toNat 0 * 1 + 0 = 0 from rfl, hc]
theorem Td.tail {s : S} {N0 : K} {v : V} {z : Int} {w : List Int} (h : Td s N0 v (z :: w)) : ∃ v', (∀ c, xSlice 3 1 v (some (iv .i64 1)) none none s c = c v') ∧ Td s N0 v' w := by
 rcases h with ⟨_, h⟩ | ⟨a, l, o, mn, h1, h2, h3, h4, h5, h6, ⟨h7, _⟩ | ⟨_, rfl⟩⟩
 ·cases h
 ·cases h7
 ·have hlen : l.length - o = w.length + 1 := by
   have := congrArg List.length h6
   simpa using this
  have hd : l.drop (o + 1) = w := by rw [← List.drop_drop, h6]; rfl
  have hsure : Nat.div (Nat.sub l.length o) 1 = w.length + 1 := by
   show (l.length - o) / 1 = _
   rw [hlen, Nat.div_one]
  have key : ∀ c : V → A, xSlice 3 1 (.so a l.length o (z :: w).length o) (some (iv .i64 1)) none none s c = if w = [] then c (.ref 1 a) else c (.so a l.length (o + 1) w.length (o + 1)) := fun c => by
   show hget s a _ = _
   rw [hget_eq, h3]
   show fN (Bool.rec (motive := fun _ => Nat) _ _ (andB true (Nat.beq l.length l.length))) _ = _
   rw [show andB true (Nat.beq l.length l.length) = true from Nat.beq_refl _]
   show fN (Nat.div (Nat.sub l.length o) 1) _ = _
   rw [fN_eq, hsure]
   show (Bool.rec (motive := fun _ => A) _ _ (andB (Nat.ble 1 (w.length + 1)) (Nat.ble (w.length + 1) (w.length + 1))) : A) = _
   rw [show Nat.ble 1 (w.length + 1) = true from Nat.ble_eq_true_of_le (by omega), show Nat.ble (w.length + 1) (w.length + 1) = true from Nat.ble_eq_true_of_le (Nat.le_refl _)]
   show (Bool.rec (motive := fun _ => A) _ _ (Nat.beq 1 (w.length + 1)) : A) = _
   by_cases hw : w = []
   ·subst hw
    rfl
   ·have : Nat.beq 1 (w.length + 1) = false := by
     cases e : Nat.beq 1 (w.length + 1) with
     | false => rfl
     | true => have := Nat.eq_of_beq_eq_true e; exact absurd (List.length_eq_zero_iff.1 (by omega)) hw
    rw [this, if_neg hw]
    show fN (Nat.sub (w.length + 1) 1) (fun len' => fN (Nat.add o 1) fun e' => fN (Nat.add o (Nat.mul 1 1)) fun o' => c (.so a l.length o' len' e')) = _
    rw [fN_eq, fN_eq, fN_eq]; rfl
  by_cases hw : w = []
  ·refine ⟨.ref 1 a, fun c => by rw [key, if_pos hw], .inr ⟨a, l, o + 1, mn, h1, h2, h3, h4, ?_, hd, .inl ⟨hw, by omega, rfl⟩⟩⟩
   omega
  ·refine ⟨_, fun c => by rw [key, if_neg hw], .inr ⟨a, l, o + 1, mn, h1, h2, h3, h4, ?_, hd, .inr ⟨hw, rfl⟩⟩⟩
   omega
theorem Td.app {s1 : S} {N0 : K} {v : V} {w : List Int} (h : Td s1 N0 v w) (hN : N0.toNat ≤ s1.nx.toNat) (z : Int) (hlim : w.length < 1000) : ∃ v' s', (∀ k : V → S → A, xAppend 3 1 v (.sl s1.nx 0 0 1 1) (addB s1 (.row [iv .i64 z] 1 3 false 0 0 0)) k = k v' s') ∧ (∃ a, v' = .so a (w.length + 1) 0 (w.length + 1) 0) ∧ Td s' N0 v' (w ++ [z]) ∧ (∀ c, c.toNat < N0.toNat → Tr.get B.none c s'.h = Tr.get B.none c s1.h) ∧ s1.nx.toNat ≤ s'.nx.toNat := by
 obtain ⟨s, hs⟩ : ∃ s, s = addB s1 (.row [iv .i64 z] 1 3 false 0 0 0) := ⟨_, rfl⟩
 have hnx : s.nx = s1.nx.succ := by rw [hs]; rfl
 have hE : Ext s1 s := by rw [hs]; exact ext_addB _ _
 have hsrc : ∀ (k : V → S → A), xAppend 3 1 v (.sl s1.nx 0 0 1 1) s k = appendN 3 1 v 1 [iv .i64 z] s k := fun k => by
  rw [hs]
  exact src_z 3 1 (x := [iv .i64 z]) (fun y hy => by simp at hy; subst hy; exact iv_ne _ _) rfl _
 rw [← hs]
 have h' := h.keep (s' := s) hE.nx (fun c _ hc => hE.get c hc)
 have hnew : ∀ (l : List Int) (s2 : S), s.nx.toNat ≤ s2.nx.toNat → l.length ≤ 1000 → 0 < l.length → Td (addB s2 (.row (l.map (iv .i64)) l.length 3 true 0 0 0)) N0 (.so s2.nx l.length 0 l.length 0) l := fun l s2 hs2 h1 h0 =>
  .inr ⟨s2.nx, l, 0, 0, by rw [hnx, K.toNat_succ] at hs2; omega, by show s2.nx.toNat < s2.nx.succ.toNat; rw [K.toNat_succ]; omega, addB_get _ _, Nat.zero_le _, Nat.zero_le _, rfl, .inr ⟨fun e => (by rw [e] at h0; cases h0), rfl⟩⟩
 have hs1 : s1.nx.toNat ≤ s.nx.toNat := hE.nx
 have keepN : ∀ (s2 : S) (b : B), s2.nx = s.nx → (∀ c, c.toNat < N0.toNat → Tr.get B.none c s2.h = Tr.get B.none c s1.h) → ∀ c, c.toNat < N0.toNat → Tr.get B.none c (addB s2 b).h = Tr.get B.none c s1.h := fun s2 b e hh c hc => by
  rw [(ext_addB s2 b).get c (by rw [e]; omega)]; exact hh c hc
 have old : ∀ c, c.toNat < N0.toNat → Tr.get B.none c s.h = Tr.get B.none c s1.h := fun c hc => hE.get c (by omega)
 rcases h' with ⟨rfl, rfl⟩ | ⟨a, l, o, mn, h1, h2, h3, h4, h5, h6, ⟨rfl, h7, rfl⟩ | ⟨h7, rfl⟩⟩
 ·refine ⟨_, _, fun k => ?_, ⟨_, rfl⟩, hnew [z] s (Nat.le_refl _) (by simp) (by simp), keepN s _ rfl old, Nat.le_trans hs1 (ext_addB _ _).nx⟩
  rw [hsrc]
  show growNew s 3 [iv .i64 z] 1 k = _
  rw [growNew_eq s [iv .i64 z] 1 (by decide) rfl]; rfl
 ·have hr : ∀ k : V → S → A, appendN 3 1 (.ref 1 a) 1 [iv .i64 z] s k = growNew (setB s a .none) 3 [iv .i64 z] 1 k := fun k => by
   show hget s a _ = _
   rw [hget_eq, h3]
   show hset s a .none _ = _
   rw [hset_eq]; rfl
  refine ⟨_, _, fun k => by rw [hsrc, hr, growNew_eq (setB s a .none) [iv .i64 z] 1 (by decide) rfl]; rfl, ⟨_, rfl⟩, hnew [z] (setB s a .none) (Nat.le_refl _) (by simp) (by simp), keepN (setB s a .none) _ rfl (fun c hc => ?_), Nat.le_trans hs1 (ext_addB (setB s a .none) _).nx⟩
  rw [setB_get, if_neg (fun e => by rw [e] at hc; omega)]; exact old c hc
 ·have hlen : l.length - o = w.length := by
   have := congrArg List.length h6
   simpa using this
  have hwp : 0 < w.length := List.length_pos_iff.2 h7
  have hst : ∀ k : V → S → A, appendN 3 1 (.so a l.length o w.length o) 1 [iv .i64 z] s k = if o = 0 then k (.so a (l.length + 1) 0 (w.length + 1) 0) (setB s a (.row (l.map (iv .i64) ++ [iv .i64 z]) (l.length + 1) 3 true mn 0 0)) else growNew (setB s a .none) 3 (w.map (iv .i64) ++ [iv .i64 z]) (w.length + 1) k := fun k => by
   show fN (Nat.add w.length 1) _ = _
   rw [fN_eq]
   show hget s a _ = _
   rw [hget_eq, h3]
   show fN (Nat.add o (Nat.mul w.length 1)) _ = _
   rw [fN_eq]
   show (Bool.rec (motive := fun _ => A) _ _ (andB (Nat.beq l.length l.length) (Nat.ble (Nat.add (Nat.add o (Nat.mul w.length 1)) (Nat.mul 1 1)) l.length)) : A) = _
   have e0 : Nat.add o (Nat.mul w.length 1) = l.length := by show o + w.length * 1 = l.length; omega
   rw [e0, show Nat.beq l.length l.length = true from Nat.beq_refl _, show Nat.ble (Nat.add l.length (Nat.mul 1 1)) l.length = false by
    cases e : Nat.ble (Nat.add l.length (Nat.mul 1 1)) l.length with
    | true => have := Nat.le_of_ble_eq_true e; have e2 : Nat.add l.length (Nat.mul 1 1) = l.length + 1 := rfl; omega
    | false => rfl]
   show (Bool.rec (motive := fun _ => A) _ _ (andB true (andB true (andB (Nat.beq o 0) (Nat.beq o 0)))) : A) = _
   cases o with
   | zero =>
    rw [if_pos rfl]
    show (Bool.rec (motive := fun _ => A) _ _ (Nat.ble (Nat.add w.length 1) 1048576) : A) = _
    rw [show Nat.ble (Nat.add w.length 1) 1048576 = true from Nat.ble_eq_true_of_le (show w.length + 1 ≤ 1048576 by omega)]
    show appL (l.map (iv .i64)) [iv .i64 z] _ = _
    rw [appL_eq, fN_eq, hset_eq]; rfl
   | succ o =>
    rw [if_neg (by omega)]
    show readCells s a l.length (o + 1) (Nat.mul w.length 1) _ = _
    unfold readCells
    rw [hget_eq, h3]
    show (Bool.rec (motive := fun _ => A) _ _ (rdOk l.length true mn l.length (Nat.add (o + 1) (Nat.mul w.length 1))) : A) = _
    rw [show rdOk l.length true mn l.length (Nat.add (o + 1) (Nat.mul w.length 1)) = true from rdOk_or.2 (.inl ⟨rfl, h4, Nat.le_refl _, by rw [e0]; exact Nat.le_refl _⟩)]
    show dropL (o + 1) (l.map (iv .i64)) _ = _
    have ed : ((l.map (iv .i64)).drop (o + 1)).take (w.length * 1) = w.map (iv .i64) := by
     rw [← List.map_drop, h6, Nat.mul_one, List.take_of_length_le (by simp)]
    rw [dropL_eq, takeK_eq _ _ _ (by
     show ∀ x ∈ ((l.map (iv .i64)).drop (o + 1)).take (w.length * 1), x ≠ .bad
     rw [ed]; intro x hx
     obtain ⟨y, _, rfl⟩ := List.mem_map.1 hx
     exact iv_ne _ _)]
    show appL (((l.map (iv .i64)).drop (o + 1)).take (w.length * 1)) [iv .i64 z] _ = _
    rw [ed, appL_eq]
    show hset s a .none _ = _
    rw [hset_eq]; rfl
  by_cases ho : o = 0
  ·subst ho
   have hlw : l = w := h6
   subst hlw
   refine ⟨.so a (l.length + 1) 0 (l.length + 1) 0, setB s a (.row (l.map (iv .i64) ++ [iv .i64 z]) (l.length + 1) 3 true mn 0 0), fun k => by rw [hsrc, hst, if_pos rfl], ⟨_, rfl⟩, .inr ⟨a, l ++ [z], 0, mn, h1, h2, ?_, by simp; omega, Nat.zero_le _, rfl, .inr ⟨by simp, by simp⟩⟩, fun c hc => ?_, hs1⟩
   ·rw [setB_get, if_pos rfl]; simp
   ·rw [setB_get, if_neg (fun e => by rw [e] at hc; omega)]; exact old c hc
  ·have := hnew (w ++ [z]) (setB s a .none) (Nat.le_refl _) (by simp; omega) (by simp)
   refine ⟨_, _, fun k => by rw [hsrc, hst, if_neg ho, growNew_eq (setB s a .none) (w.map (iv .i64) ++ [iv .i64 z]) (w.length + 1) (by omega) (by simp)], ⟨_, rfl⟩, ?_, keepN (setB s a .none) _ rfl (fun c hc => ?_), Nat.le_trans hs1 (ext_addB (setB s a .none) _).nx⟩
   ·simpa using this
   ·rw [setB_get, if_neg (fun e => by rw [e] at hc; omega)]; exact old c hc
end Go.Ev
namespace Go.Ev
open Go.RowKit
@[simp] theorem A.all_nrm (Q : A → Prop) (tm : T) (s : S) : (A.nrm tm s).all Q = Q (.nrm tm s) := rfl
@[simp] theorem A.all_ext (Q : A → Prop) (i : Nat) (tm : T) (s : S) : (A.ext i tm s).all Q = Q (.ext i tm s) := rfl
@[simp] theorem A.all_ret (Q : A → Prop) (tm : T) (s : S) : (A.ret tm s).all Q = Q (.ret tm s) := rfl
theorem A.all_seq' {f : T → S → A} {Q : A → Prop} {a : A} (h : a.all fun x => (seqA f x).all Q) : (seqA f a).all Q := A.all_seq (fun _ _ h => h) h
theorem A.all_block' {i : Nat} {Q : A → Prop} {a : A} (h : a.all fun x => (blockN i x).all Q) : (blockN i a).all Q := A.all_block (fun _ _ h => h) h
end Go.Ev
namespace Go.Proofs.YtobflfopdndfdaaGreatDoor.oev
open Go.Ev Go.RowKit
set_option maxRecDepth 100000
variable {M0 : Mc}
theorem beqE_self (e : Int × Nat × Nat) : beqE (toME e) (toME e) = true := by
 have hi : ∀ z : Int, beqV (iv .i64 z) (iv .i64 z) = true := fun z => by
  cases z with
  | ofNat n => show andB (kbeq .i64 .i64) (Nat.beq n n) = true; rw [Nat.beq_refl]; rfl
  | negSucc n => show andB (kbeq .i64 .i64) (Nat.beq n n) = true; rw [Nat.beq_refl]; rfl
 have hs : ∀ l : List Nat, eqS l l = true := fun l => by
  induction l with
  | nil => rfl
  | cons x l ih => show andB (Nat.beq x x) (eqS l l) = true; rw [Nat.beq_refl, ih]; rfl
 show andB (Nat.beq e.2.2 e.2.2) (andB (beqV (iv .i64 e.1) (iv .i64 e.1)) (eqS (stR e.2.1) (stR e.2.1))) = true
 rw [Nat.beq_refl, hi, hs]; rfl
theorem beqEs_self : ∀ l : LM, beqEs (l.map toME) (l.map toME) = true
 | [] => rfl
 | e :: l => by
  show andB (beqE (toME e) (toME e)) (beqEs (l.map toME) (l.map toME)) = true
  rw [beqE_self, beqEs_self l]; rfl
theorem freshB_ok {n : Nat} : ∀ {l : LM}, (∀ e ∈ l, n ≠ e.2.2) → freshB n (l.map toME) = true
 | [], _ => rfl
 | e :: l, h => by
  show (Bool.rec (motive := fun _ => Bool) (freshB n (l.map toME)) false (Nat.beq n e.2.2) : Bool) = true
  rw [show Nat.beq n e.2.2 = false by cases g : Nat.beq n e.2.2 with | false => rfl | true => exact absurd (Nat.eq_of_beq_eq_true g) (h e (by simp))]
  exact freshB_ok fun x hx => h x (by simp [hx])
theorem bornOk_ok {ck : Nat} : ∀ {l : LM}, (∀ e ∈ l, e.2.2 < ck) → l.Pairwise (fun a b => a.2.2 ≠ b.2.2) → bornOk ck (l.map toME) = true
 | [], _, _ => rfl
 | e :: l, h, g => by
  obtain ⟨g1, g2⟩ := List.pairwise_cons.1 g
  show andB (Nat.blt e.2.2 ck) (andB (freshB e.2.2 (l.map toME)) (bornOk ck (l.map toME))) = true
  rw [show Nat.blt e.2.2 ck = true by rw [Nat.blt_eq]; exact h e (by simp), freshB_ok g1, bornOk_ok (fun x hx => h x (by simp [hx])) g2]; rfl
theorem rangeM_ok {s : S} {m : Go.Ev.K} {x : LM × Nat} (h : MapAt s m x) (hx : LOk x) (k : V → S → Go.Ev.A) : xRangeM (.ref 0 m) s k = k (.ptr s.nx 0 0) (addB s (.mit m (x.1.map toME) x.2 (x.1.map toME) none)) := by
 show hget s m _ = _
 rw [hget_eq, h]
 show (Bool.rec (motive := fun _ => Go.Ev.A) _ _ (bornOk x.2 (x.1.map toME)) : Go.Ev.A) = _
 rw [bornOk_ok hx.1.1 hx.1.2]
 show hnew s _ _ = _
 rw [hnew_add]
structure ItAt (s : S) (kit m : Go.Ev.K) (x : LM × Nat) (rest : LM) (cur : Option ME) : Prop where
 it : Tr.get B.none kit s.h = .mit m (x.1.map toME) x.2 (rest.map toME) cur
 mp : MapAt s m x
theorem next_nil {s : S} {kit m : Go.Ev.K} {x : LM × Nat} {cur : Option ME} (h : ItAt s kit m x [] cur) (k : V → S → Go.Ev.A) : xNextM (.ptr kit 0 0) s k = k (.ls 1 [.bool false]) (setB s kit .none) := by
 show hget s kit _ = _
 rw [hget_eq, h.it]
 show hget s m _ = _
 rw [hget_eq, h.mp]
 show (Bool.rec (motive := fun _ => Go.Ev.A) _ _ (andB (Nat.beq x.2 x.2) (beqEs (x.1.map toME) (x.1.map toME))) : Go.Ev.A) = _
 rw [beqEs_self, Nat.beq_refl]
 show hset s kit .none _ = _
 rw [hset_eq]; rfl
theorem next_cons {s : S} {kit m : Go.Ev.K} {x : LM × Nat} {e : Int × Nat × Nat} {rest : LM} {cur : Option ME} (h : ItAt s kit m x (e :: rest) cur) (k : V → S → Go.Ev.A) :
  xNextM (.ptr kit 0 0) s k = pickE (fun e r => k (.ls 1 [.bool true, e.key, e.val]) (setB s kit (.mit m (x.1.map toME) x.2 r (some e)))) ((e :: rest).map toME) [] := by
 show hget s kit _ = _
 rw [hget_eq, h.it]
 show hget s m _ = _
 rw [hget_eq, h.mp]
 show (Bool.rec (motive := fun _ => Go.Ev.A) _ _ (andB (Nat.beq x.2 x.2) (beqEs (x.1.map toME) (x.1.map toME))) : Go.Ev.A) = _
 rw [beqEs_self, Nat.beq_refl]
 show pickE (fun e r => hset s kit (.mit m (x.1.map toME) x.2 r (some e)) fun s => k (.ls 1 [.bool true, e.key, e.val]) s) ((e :: rest).map toME) [] = _
 congr 1
 funext e r
 rw [hset_eq]; rfl
theorem entry_ok {s : S} {kit m : Go.Ev.K} {x : LM × Nat} {e : ME} {rest : LM} (h : ItAt s kit m x rest (some e)) (c : V → Go.Ev.A) : xEntry (.ptr kit 0 0) s c = c (.ls 1 [e.key, e.val]) := by
 show hget s kit _ = _
 rw [hget_eq, h.it]
 show hget s m _ = _
 rw [hget_eq, h.mp]
 show (Bool.rec (motive := fun _ => Go.Ev.A) _ _ (andB (Nat.beq x.2 x.2) (beqEs (x.1.map toME) (x.1.map toME))) : Go.Ev.A) = _
 rw [beqEs_self, Nat.beq_refl]; rfl
theorem all_next {s : S} {kit m : Go.Ev.K} {x : LM × Nat} {e : Int × Nat × Nat} {rest : LM} {cur : Option ME} (h : ItAt s kit m x (e :: rest) cur) {k : V → S → Go.Ev.A} {Q : Go.Ev.A → Prop}
  (H : ∀ l1 e' l2, e :: rest = l1 ++ e' :: l2 → (k (.ls 1 [.bool true, iv .i64 e'.1, .str (stR e'.2.1)]) (setB s kit (.mit m (x.1.map toME) x.2 ((l1 ++ l2).map toME) (some (toME e'))))).all Q) : (xNextM (.ptr kit 0 0) s k).all Q := by
 rw [next_cons h]
 refine A.all_pick [] (by simp) fun l1 e' l2 he => ?_
 obtain ⟨l1', r, h1, h2, h3⟩ := List.map_eq_append_iff.1 he
 obtain ⟨e0, l2', h4, h5, h6⟩ := List.map_eq_cons_iff.1 h3
 subst h2 h5 h6
 have := H l1' e0 l2' (by rw [h1, h4])
 simpa [toME] using this
variable {M0 : Mc}
structure SQ where
 s : S
 m : Go.Ev.K
 c : List V
 x : LM × Nat
def SQ.kit (q : SQ) : Go.Ev.K := q.s.nx.succ
def SQ.N0 (q : SQ) : Go.Ev.K := q.s.nx.succ.succ
structure SpF (q : SQ) (tm : Go.Ev.T) (st : S) : Prop where
 g0 : gp 0 tm = .ref 0 q.m
 g3 : gp 3 tm = .ptr q.s.nx 0 0
 bd : gp 240 tm = .bad
 row : Tr.get B.none q.s.nx st.h = .row q.c 4 37 false 0 0 0
 nx : q.N0.toNat ≤ st.nx.toNat
 old : ∀ k, k.toNat < q.s.nx.toNat → k ≠ q.m → Tr.get B.none k st.h = Tr.get B.none k q.s.h
 lt : q.m.toNat < q.s.nx.toNat
theorem SQ.nxlt (q : SQ) : q.s.nx.toNat < q.kit.toNat ∧ q.kit.toNat < q.N0.toNat := by
 have h1 := K.toNat_succ q.s.nx
 have h2 := K.toNat_succ q.s.nx.succ
 unfold SQ.kit SQ.N0
 omega
def rgIn (q : SQ) (tm : Go.Ev.T) (st : S) : Prop := SpF q tm st ∧ LOk q.x ∧ q.x.1.length ≤ 12 ∧ gp 9 tm = .ptr q.kit 0 0 ∧ ∃ vis rest cur, (vis ++ rest).Perm q.x.1 ∧ ItAt st q.kit q.m q.x rest cur ∧ Td st q.N0 (gp 4 tm) (vis.map (·.1)) ∧ ((vis = [] ∧ gp 4 tm = .nil 1) ∨ ∃ a, gp 4 tm = .so a vis.length 0 vis.length 0)
def rgLeaf (q : SQ) (l : Go.Ev.A) : Prop := ∃ tm' st', l = .ext 0 tm' st' ∧ SpF q tm' st' ∧ MapAt st' q.m q.x ∧ ∃ w, w.Perm (q.x.1.map (·.1)) ∧ Td st' q.N0 (gp 4 tm') w ∧ ((w = [] ∧ gp 4 tm' = .nil 1) ∨ ∃ a, gp 4 tm' = .so a w.length 0 w.length 0)
def ltSp1 : Lt := ltI rgIn (fun q a => a.all (rgLeaf q))
structure AQ where
 q : SQ
 M : Mc
 z : Int
 l : ArcL
 v : V
 j : Nat
 X : (LM × Nat) × List Int
 Y : (LM × Nat) × List Int
def arIn (q : AQ) (tm : Go.Ev.T) (st : S) : Prop := SpF q.q tm st ∧ MR q.q.s q.q.c q.M ∧ (∃ y, MapAt q.q.s q.q.m y) ∧ gp 6 tm = iv .i64 q.z ∧ ArcsR q.q.s q.v q.l ∧ gp 12 tm = q.v ∧ gp 13 tm = iv .i64 (q.l.length : Int) ∧ gp 14 tm = iv .i64 (q.j : Int) ∧ q.j ≤ q.l.length ∧ q.l.length < 100000 ∧
 MapAt st q.q.m q.X.1 ∧ LOk q.X.1 ∧ okVals q.X.1.1 ∧ Td st q.q.N0 (gp 4 tm) q.X.2 ∧ spArcs q.z (q.l.drop q.j) q.X = some q.Y
def arOut (q : AQ) (a : Go.Ev.A) : Prop := ∃ tm' st', a = .ext 4 tm' st' ∧ SpF q.q tm' st' ∧ MapAt st' q.q.m q.Y.1 ∧ Td st' q.q.N0 (gp 4 tm') q.Y.2
structure WQ where
 q : SQ
 M : Mc
 n : Nat
 X : (LM × Nat) × List Int
 y : LM × Nat
def whIn (q : WQ) (tm : Go.Ev.T) (st : S) : Prop := SpF q.q tm st ∧ MR q.q.s q.q.c q.M ∧ (∃ y, MapAt q.q.s q.q.m y) ∧ (∀ e ∈ q.M.sts, e.2.length < 100000) ∧ MapAt st q.q.m q.X.1 ∧ LOk q.X.1 ∧ okVals q.X.1.1 ∧ Td st q.q.N0 (gp 4 tm) q.X.2 ∧ spRun q.M q.n q.X = some q.y
def whOut (q : WQ) (a : Go.Ev.A) : Prop := ∃ tm' st', a = .ext 2 tm' st' ∧ SpF q.q tm' st' ∧ MapAt st' q.q.m q.y
theorem SpF.set {q : SQ} {tm : Go.Ev.T} {st st' : S} (h : SpF q tm st) (hn : st.nx.toNat ≤ st'.nx.toNat) (hk : ∀ k, k.toNat ≤ q.s.nx.toNat → k ≠ q.m → Tr.get B.none k st'.h = Tr.get B.none k st.h) : SpF q tm st' :=
 ⟨h.g0, h.g3, h.bd, (hk _ (Nat.le_refl _) (fun e => by have := h.lt; rw [← e] at this; omega)).trans h.row, Nat.le_trans h.nx hn, fun k h1 h2 => (hk k (by omega) h2).trans (h.old k h1 h2), h.lt⟩
theorem SpF.frame {q : SQ} {tm tm' : Go.Ev.T} {st : S} (h : SpF q tm st) (e0 : gp 0 tm' = gp 0 tm) (e3 : gp 3 tm' = gp 3 tm) (e : gp 240 tm' = gp 240 tm) : SpF q tm' st :=
 ⟨e0.trans h.g0, e3.trans h.g3, e.trans h.bd, h.row, h.nx, h.old, h.lt⟩
theorem repL_one (x : V) (c : List V → Go.Ev.A) : repL [x] 1 c = c [x] := by rw [repL_eq]; rfl
theorem updL_one (x y : V) (c : List V → Go.Ev.A) : updL [x] 0 [y] c = c [x] := by rw [updL_eq]; rfl
def itLen (v : V) (st : S) : Nat := match v with | .ptr a _ _ => (match Tr.get B.none a st.h with | .mit _ _ _ rest _ => rest.length | _ => 0) | _ => 0
theorem itLen_at {st : S} {kit m : Go.Ev.K} {x : LM × Nat} {rest : LM} {cur : Option ME} (h : ItAt st kit m x rest cur) : itLen (.ptr kit 0 0) st = rest.length := by
 simp only [itLen, h.it, List.length_map]
theorem loopSp1 {L : Nat → Lt} (h21 : L 21 = ltSp1) : ∀ tm s', (L 21).pre tm s' → (L 21).post tm s' (cSpread_8.run (RkN Tryz.prog (K M0) KN L) tm s') := by
 refine loop_n (L := L) pcOk0.1 pcOk0.2 szSpread_8 (fun tm st => itLen (gp 9 tm) st) ?_ ?_
 ·rw [h21]
  rintro tm s a ⟨q, hq⟩ h
  have h : a.all (rgLeaf q) := h q hq
  exact h.nb (fun a ⟨_, _, e, _⟩ => by rw [e]; exact fun h => h)
 rw [h21]
 rintro tm st - IH q ⟨hF, hok, hl12, h9, vis, rest, cur, hp, hit, htd, hgr⟩
 have IH' : ∀ tm' s3, itLen (gp 9 tm') s3 < itLen (gp 9 tm) st → rgIn q tm' s3 → ((RkN Tryz.prog (K M0) KN L).code fiSpread uSpread_8 tm' s3).all (rgLeaf q) := fun tm' s3 h1 h2 => IH tm' s3 h1 ⟨q, h2⟩ q h2
 clear IH
 show (cSpread_8.run _ tm st).all (rgLeaf q)
 generalize RkN Tryz.prog _ _ _ = r at IH' ⊢
 obtain ⟨n1, n2⟩ := q.nxlt
 cases rest with
 | nil =>
  have hn := fun k => next_nil hit k
  simp -implicitDefEqProofs [lpSpread_8, allSpread, h9, hn, gp_sp]
  have hset : ∀ k, k ≠ q.kit → Tr.get B.none k (setB st q.kit .none).h = Tr.get B.none k st.h := fun k hk => by rw [setB_get, if_neg hk]
  refine ⟨_, _, rfl, (hF.frame (by simp [gp_sp]) (by simp [gp_sp]) (by simp [gp_sp])).set (Nat.le_refl _) (fun k hk _ => hset k (fun e => by rw [e] at hk; omega)), (hset _ (fun e => by have := hF.lt; rw [e] at this; omega)).trans hit.mp, vis.map (·.1), ?_, ?_, ?_⟩
  ·have := hp.map (·.1)
   simpa using this
  ·have := htd.keep (s' := setB st q.kit .none) (Nat.le_refl _) (fun c hc _ => hset c (fun e => by rw [e] at hc; omega))
   simpa [gp_sp] using this
  ·rcases hgr with ⟨h1, h2⟩ | ⟨a, h2⟩
   ·exact .inl ⟨by rw [h1]; rfl, by simpa [gp_sp] using h2⟩
   ·exact .inr ⟨a, by simpa [gp_sp] using h2⟩
 | cons e rest =>
  simp -implicitDefEqProofs only [lpSpread_8, allSpread, h9]
  refine A.all_seq' (A.all_seq' (all_next hit fun l1 e' l2 he => ?_))
  obtain ⟨st1, hst1⟩ : ∃ st1, st1 = setB st q.kit (.mit q.m (q.x.1.map toME) q.x.2 ((l1 ++ l2).map toME) (some (toME e'))) := ⟨_, rfl⟩
  rw [← hst1]
  have hset : ∀ k, k ≠ q.kit → Tr.get B.none k st1.h = Tr.get B.none k st.h := fun k hk => by rw [hst1, setB_get, if_neg hk]
  have hmk : q.m ≠ q.kit := fun e => by have := hF.lt; rw [e] at this; omega
  have hit1 : ItAt st1 q.kit q.m q.x (l1 ++ l2) (some (toME e')) := ⟨by rw [hst1, setB_get, if_pos rfl], (hset _ hmk).trans hit.mp⟩
  have he1 := fun c => entry_ok hit1 c
  have hnx1 : st1.nx = st.nx := by rw [hst1]; rfl
  have htd1 := htd.keep (s' := st1) (by rw [hnx1]; exact Nat.le_refl _) (fun c hc _ => hset c (fun e => by rw [e] at hc; omega))
  have hlen : vis.length < 1000 := by
   have := hp.length_eq
   simp at this; omega
  obtain ⟨v', s3, ha, ⟨a', hv'⟩, htd3, hk3, hn3⟩ := htd1.app (by rw [hnx1]; exact hF.nx) e'.1 (by simpa using hlen)
  have hkey : (toME e').key = iv .i64 e'.1 := rfl
  simp -implicitDefEqProofs [gp_sp, h9, he1, hkey, repL_one, updL_one, cellsC_iv, newRow_add, ha]
  have hit3 : ItAt s3 q.kit q.m q.x (l1 ++ l2) (some (toME e')) := ⟨(hk3 _ n2).trans hit1.it, (hk3 _ (by have := hF.lt; omega)).trans hit1.mp⟩
  refine IH' _ s3 ?_ ⟨(hF.frame (by simp [gp_sp]) (by simp [gp_sp]) (by simp [gp_sp])).set (by rw [← hnx1]; exact hn3) (fun k hk _ => (hk3 k (by omega)).trans (hset k (fun e => by rw [e] at hk; omega))), hok, hl12, by simp [gp_sp, h9], vis ++ [e'], l1 ++ l2, _, ?_, hit3, ?_, .inr ⟨a', ?_⟩⟩
  ·show itLen (gp 9 _) s3 < _
   simp -implicitDefEqProofs [gp_sp, h9]
   rw [itLen_at hit3, itLen_at hit, he]
   simp
  ·rw [he] at hp
   refine List.Perm.trans ?_ hp
   simp only [List.append_assoc, List.singleton_append]
   exact List.Perm.append_left _ (List.perm_middle).symm
  ·simpa [gp_sp] using htd3
  ·simpa [gp_sp] using hv'
variable {M0 : Mc}
theorem SpF.kp {q : SQ} {tm : Go.Ev.T} {st : S} (h : SpF q tm st) (hm : ∃ y, MapAt q.s q.m y) : Kp q.s st q.m := by
 obtain ⟨y, hy⟩ := hm
 obtain ⟨n1, n2⟩ := q.nxlt
 exact ⟨by have := h.nx; omega, h.old, _, _, hy⟩
theorem arc_at {s : S} {v : V} {l : ArcL} (h : ArcsR s v l) {j : Nat} (hj : j < l.length) : ∃ p, (∀ c, xIdxAddrS 4 v (iv .i64 (j : Int)) c = c p) ∧ ∀ k : V → S → Go.Ev.A, xLoad true 4 p s k = k (.ls 0 [iv .i64 (l[j].1 : Int), iv .i64 (l[j].2.1 : Int), .str (stR l[j].2.2.1), iv .i64 (l[j].2.2.2 : Int)]) s := by
 obtain ⟨p, h1, h2⟩ := h.1.idx (i := (j : Int)) (by omega) (by rw [h.2.1]; omega)
 obtain ⟨c0, c1, c2, c3⟩ := h.2.2 j hj
 refine ⟨p, fun c => h1 .i64 c, fun k => ?_⟩
 have e : ∀ i, i < 4 → cellV s v ((j : Int).toNat * 4 + i) = [iv .i64 (l[j].1 : Int), iv .i64 (l[j].2.1 : Int), .str (stR l[j].2.2.1), iv .i64 (l[j].2.2.2 : Int)].getD i .bad := fun i hi => by
  rw [Int.toNat_natCast]
  match i, hi with
  | 0, _ => exact c0
  | 1, _ => exact c1
  | 2, _ => exact c2
  | 3, _ => exact c3
 rw [h2.loadN 4 (Nat.le_refl _) (fun i hi => by
  rw [e i hi]
  match i, hi with
  | 0, _ => exact (show iv .i64 (l[j].1 : Int) ≠ .bad from iv_ne _ _)
  | 1, _ => exact (show iv .i64 (l[j].2.1 : Int) ≠ .bad from iv_ne _ _)
  | 2, _ => exact fun h => by cases h
  | 3, _ => exact (show iv .i64 (l[j].2.2.2 : Int) ≠ .bad from iv_ne _ _)) k]
 show k (.ls 0 [cellV s v ((j : Int).toNat * 4 + 0), cellV s v ((j : Int).toNat * 4 + 1), cellV s v ((j : Int).toNat * 4 + 2), cellV s v ((j : Int).toNat * 4 + 3)]) s = _
 rw [e 0 (by omega), e 1 (by omega), e 2 (by omega), e 3 (by omega)]
 rfl
theorem ArcsR.kp {s s' : S} {m : Go.Ev.K} {v : V} {l : ArcL} (h : ArcsR s v l) (e : Kp s s' m) : ArcsR s' v l := by
 obtain ⟨h1, h2⟩ := h.1.kp e
 refine ⟨h1, h.2.1, fun j hj => ?_⟩
 simp only [h2]
 exact h.2.2 j hj
def arcC (a : Nat × Nat × Nat × Nat) : List V := [iv .i64 (a.1 : Int), iv .i64 (a.2.1 : Int), .str (stR a.2.2.1), iv .i64 (a.2.2.2 : Int)]
theorem arc_ld {s : S} {k : Go.Ev.K} {a : Nat × Nat × Nat × Nat} (h : Tr.get B.none k s.h = .row (arcC a) 4 59 false 0 0 0) :
  (∀ c : V → S → Go.Ev.A, xLoad false 1 (.ptr k 0 0) s c = c (iv .i64 (a.1 : Int)) s) ∧ (∀ c : V → S → Go.Ev.A, xLoad false 1 (.ptr k 0 1) s c = c (iv .i64 (a.2.1 : Int)) s) ∧
  (∀ c : V → S → Go.Ev.A, xLoad false 1 (.ptr k 0 2) s c = c (.str (stR a.2.2.1)) s) ∧ (∀ c : V → S → Go.Ev.A, xLoad false 1 (.ptr k 0 3) s c = c (iv .i64 (a.2.2.2 : Int)) s) :=
 ⟨fun c => load_at h 0 rfl (by omega) (show iv .i64 (a.1 : Int) ≠ .bad from iv_ne _ _) c, fun c => load_at h 1 rfl (by omega) (show iv .i64 (a.2.1 : Int) ≠ .bad from iv_ne _ _) c, fun c => load_at h 2 rfl (by omega) (fun h => by cases h) c, fun c => load_at h 3 rfl (by omega) (show iv .i64 (a.2.2.2 : Int) ≠ .bad from iv_ne _ _) c⟩
def ltSp2 : Lt := ltI arIn arOut
theorem loopSp2 {L : Nat → Lt} (h49 : L 49 = ltSp2) (hT : Holds Tryz.prog (K M0) 86) (hB : Holds Tryz.prog (K M0) 87) : ∀ tm s', (L 49).pre tm s' → (L 49).post tm s' (cSpread_37.run (RkN Tryz.prog (K M0) KN L) tm s') := by
 refine loop_n (L := L) pcOk0.1 pcOk0.2 szSpread_37 (fun tm _ => (toI (gp 13 tm)).toNat - (toI (gp 14 tm)).toNat) ?_ ?_
 ·rw [h49]
  rintro tm s a ⟨q, hq⟩ h
  obtain ⟨_, _, rfl, _⟩ : arOut _ _ := h q hq
  exact fun h => h
 rw [h49]
 rintro tm st - IH ⟨q, M, z, l, v, j, X, Y⟩ ⟨hF, hM, hmy, g6, hA, g12, g13, g14, hj, hl, hmp, hok, hv, htd, hrun⟩
 have IH' : ∀ tm' s3 qq, (toI (gp 13 tm')).toNat - (toI (gp 14 tm')).toNat < (toI (gp 13 tm)).toNat - (toI (gp 14 tm)).toNat → arIn qq tm' s3 → arOut qq ((RkN Tryz.prog (K M0) KN L).code fiSpread uSpread_37 tm' s3) := fun tm' s3 qq h1 h2 => IH tm' s3 h1 ⟨qq, h2⟩ qq h2
 clear IH
 show arOut _ (cSpread_37.run _ tm st)
 have hR := kept (M0 := M0) (L := L) (Reach_ok hT hB)
 generalize RkN Tryz.prog _ _ _ = r at IH' hR ⊢
 simp only at g6 g12 g13 g14 hj hl hF hM hmp hok hv htd hrun hA
 obtain ⟨n1, n2⟩ := q.nxlt
 by_cases hlt : j < l.length
 ·have hlt' : (j : Int) < (l.length : Int) := by omega
  have w2 : IntKind.i64.wrap ((j : Int) + 1) = (j : Int) + 1 := wrap64 (by omega) (by omega)
  obtain ⟨p, hp, hP⟩ := arc_at (hA.kp (hF.kp hmy)) hlt
  have hdrop : l.drop j = l[j] :: l.drop (j + 1) := (List.getElem_cons_drop hlt).symm
  rw [hdrop] at hrun
  generalize l[j] = a at hP hrun
  obtain ⟨i, o, w, t⟩ := a
  obtain ⟨st1, hst1⟩ : ∃ st1, st1 = addB st (.row (arcC (i, o, w, t)) 4 59 false 0 0 0) := ⟨_, rfl⟩
  have hN : ∀ k : V → S → Go.Ev.A, xStore 4 (.ptr st.nx 0 0) (.ls 0 [iv .i64 (i : Int), iv .i64 (o : Int), .str (stR w), iv .i64 (t : Int)]) (addB st (.row [iv .i64 0, iv .i64 0, .str [], iv .i64 0] 4 59 false 0 0 0)) k = k Go.Ev.undef st1 := fun k => by rw [hst1]; exact store_new st 59 4 _ (arcC (i, o, w, t)) rfl rfl k
  have hE1 : Ext st st1 := by rw [hst1]; exact ext_addB _ _
  have hrow1 : Tr.get B.none st.nx st1.h = .row (arcC (i, o, w, t)) 4 59 false 0 0 0 := by rw [hst1]; exact addB_get _ _
  obtain ⟨d0, d1, d2, d3⟩ := arc_ld hrow1
  have hmlt : q.m.toNat < st.nx.toNat := by have := hF.lt; have := hF.nx; omega
  have hmp1 : MapAt st1 q.m X.1 := (hE1.get _ hmlt).trans hmp
  have hF1 := hF.set hE1.nx (fun k hk _ => hE1.get k (by have := hF.nx; omega))
  have htd1 := htd.keep hE1.nx (fun c _ hc => hE1.get c hc)
  have hnx1 : st1.nx = st.nx.succ := by rw [hst1]; rfl
  simp only [spArcs] at hrun
  by_cases g : i = 0 ∧ o = 0
  ·obtain ⟨rfl, rfl⟩ := g
   have hN : ∀ k : V → S → Go.Ev.A, xStore 4 (.ptr st.nx 0 0) (.ls 0 [iv .i64 0, iv .i64 0, .str (stR w), iv .i64 (t : Int)]) (addB st (.row [iv .i64 0, iv .i64 0, .str [], iv .i64 0] 4 59 false 0 0 0)) k = k Go.Ev.undef st1 := hN
   have d0 : ∀ c : V → S → Go.Ev.A, xLoad false 1 (.ptr st.nx 0 0) st1 c = c (iv .i64 0) st1 := d0
   have d1 : ∀ c : V → S → Go.Ev.A, xLoad false 1 (.ptr st.nx 0 1) st1 c = c (iv .i64 0) st1 := d1
   have d2 : ∀ c : V → S → Go.Ev.A, xLoad false 1 (.ptr st.nx 0 2) st1 c = c (.str (stR w)) st1 := d2
   have d3 : ∀ c : V → S → Go.Ev.A, xLoad false 1 (.ptr st.nx 0 3) st1 c = c (iv .i64 (t : Int)) st1 := d3
   have hP : ∀ k : V → S → Go.Ev.A, xLoad true 4 p st k = k (.ls 0 [iv .i64 0, iv .i64 0, .str (stR w), iv .i64 (t : Int)]) st := hP
   rw [if_pos ⟨rfl, rfl⟩] at hrun
   cases e : lookL X.1.1 z with
   | none => rw [e] at hrun; cases hrun
   | some vz =>
    rw [e] at hrun
    simp only at hrun
    by_cases k : rs vz = true ∧ rs w = true ∧ rs (vz + w) = true ∧ X.2.length < 1000
    ·rw [if_pos k] at hrun
     obtain ⟨k1, k2, k3, k4⟩ := k
     have hlk := fun c => look_one hmp1 z c
     rw [e] at hlk
     obtain ⟨vv, st2, hc, hpost⟩ := hR [.ref 0 q.m, iv .i64 (t : Int), .str (stR vz), .str (stR w)] st1 ⟨q.m, t, vz, w, X.1, rfl, hmp1, hv, hok, k1, k2, k3⟩
     obtain ⟨rfl, hup⟩ := hpost q.m t vz w X.1 rfl hmp1 hv hok k1 k2
     have hne : st.nx ≠ q.m := fun e => by rw [e] at hmlt; omega
     have hrow2 : Tr.get B.none st.nx st2.h = .row (arcC (0, 0, w, t)) 4 59 false 0 0 0 := (hup.other _ hne).trans hrow1
     obtain ⟨-, -, -, d3'⟩ := arc_ld hrow2
     have d3' : ∀ c : V → S → Go.Ev.A, xLoad false 1 (.ptr st.nx 0 3) st2 c = c (iv .i64 (t : Int)) st2 := d3'
     have hF2 := hF1.set (by rw [hup.nx]; exact Nat.le_refl _) (fun k _ h2 => hup.other k h2)
     have htd2 := htd1.keep (s' := st2) (by rw [hup.nx]; exact Nat.le_refl _) (fun c hc _ => hup.other c (fun e => by rw [e] at hc; have := hF.lt; omega))
     have ok2 := reach_ok hok (t : Int) (vz + w)
     have hv2 : okVals (reachL X.1 (t : Int) (vz + w)).1.1 := reach_vals hv k3
     cases hch : (reachL X.1 (t : Int) (vz + w)).2 with
     | false =>
      rw [hch] at hrun hc
      simp -implicitDefEqProofs [lpSpread_37, allSpread, gp_sp, g6, g12, g13, g14, lss_ii, add_ii, w2, hlt, hp, hP, newRow_add, nat_iv, hN, field_ptr, d0, d1, d2, d3, eql_ii, hF.g0, hlk, hc]
      show arOut ⟨q, M, z, l, v, j + 1, ((reachL X.1 (t : Int) (vz + w)).1, X.2), Y⟩ _
      refine IH' _ st2 ⟨q, M, z, l, v, j + 1, ((reachL X.1 (t : Int) (vz + w)).1, X.2), Y⟩ (mu_lt2 g13 g14 (by simp [gp_sp, g13]) (by simp [gp_sp]) hlt) ⟨hF2.frame (by simp [gp_sp]) (by simp [gp_sp]) (by simp [gp_sp]), hM, hmy, by simp [gp_sp, g6], hA, by simp [gp_sp, g12], by simp [gp_sp, g13], by simp [gp_sp], hlt, hl, hup.at_, ok2, hv2, by simpa [gp_sp] using htd2, by simpa using hrun⟩
     | true =>
      rw [hch] at hrun hc
      obtain ⟨v', s3, ha, -, htd3, hk3, hn3⟩ := htd2.app (by rw [hup.nx, hnx1, K.toNat_succ]; have := hF.nx; omega) (t : Int) k4
      simp -implicitDefEqProofs [lpSpread_37, allSpread, gp_sp, g6, g12, g13, g14, lss_ii, add_ii, w2, hlt, hp, hP, newRow_add, nat_iv, hN, field_ptr, d0, d1, d2, d3, eql_ii, hF.g0, hlk, hc, d3', repL_one, updL_one, cellsC_iv, ha]
      show arOut ⟨q, M, z, l, v, j + 1, ((reachL X.1 (t : Int) (vz + w)).1, X.2 ++ [(t : Int)]), Y⟩ _
      refine IH' _ s3 ⟨q, M, z, l, v, j + 1, ((reachL X.1 (t : Int) (vz + w)).1, X.2 ++ [(t : Int)]), Y⟩ (mu_lt2 g13 g14 (by simp [gp_sp, g13]) (by simp [gp_sp]) hlt) ⟨(hF2.set hn3 (fun k hk _ => hk3 k (by omega))).frame (by simp [gp_sp]) (by simp [gp_sp]) (by simp [gp_sp]), hM, hmy, by simp [gp_sp, g6], hA, by simp [gp_sp, g12], by simp [gp_sp, g13], by simp [gp_sp], hlt, hl, (hk3 q.m (by have := hF.lt; omega)).trans hup.at_, ok2, hv2, by simpa [gp_sp] using htd3, by simpa using hrun⟩
    ·rw [if_neg k] at hrun; cases hrun
  ·rw [if_neg g] at hrun
   have fin : ∀ tm', gp 0 tm' = gp 0 tm → gp 3 tm' = gp 3 tm → gp 240 tm' = gp 240 tm → gp 6 tm' = gp 6 tm → gp 12 tm' = gp 12 tm → gp 13 tm' = gp 13 tm → gp 14 tm' = iv .i64 ((j : Int) + 1) → gp 4 tm' = gp 4 tm → arOut ⟨q, M, z, l, v, j, X, Y⟩ (r.code fiSpread uSpread_37 tm' st1) := fun tm' e0 e3 eb e6 e12 e13 e14 e4 =>
    IH' _ st1 ⟨q, M, z, l, v, j + 1, X, Y⟩ (mu_lt2 g13 g14 (e13.trans g13) e14 hlt) ⟨hF1.frame e0 e3 eb, hM, hmy, e6.trans g6, hA, e12.trans g12, e13.trans g13, e14, hlt, hl, hmp1, hok, hv, by rw [e4]; exact htd1, hrun⟩
   by_cases gi : i = 0
   ·have go : ¬ o = 0 := fun h => g ⟨gi, h⟩
    subst gi
    have hN : ∀ k : V → S → Go.Ev.A, xStore 4 (.ptr st.nx 0 0) (.ls 0 [iv .i64 0, iv .i64 (o : Int), .str (stR w), iv .i64 (t : Int)]) (addB st (.row [iv .i64 0, iv .i64 0, .str [], iv .i64 0] 4 59 false 0 0 0)) k = k Go.Ev.undef st1 := hN
    have d0 : ∀ c : V → S → Go.Ev.A, xLoad false 1 (.ptr st.nx 0 0) st1 c = c (iv .i64 0) st1 := d0
    have hP : ∀ k : V → S → Go.Ev.A, xLoad true 4 p st k = k (.ls 0 [iv .i64 0, iv .i64 (o : Int), .str (stR w), iv .i64 (t : Int)]) st := hP
    simp -implicitDefEqProofs [lpSpread_37, allSpread, gp_sp, g12, g13, g14, lss_ii, add_ii, w2, hlt, hp, hP, newRow_add, nat_iv, hN, field_ptr, d0, d1, d3, eql_ii, go]
    apply fin <;> simp [gp_sp]
   ·simp -implicitDefEqProofs [lpSpread_37, allSpread, gp_sp, g12, g13, g14, lss_ii, add_ii, w2, hlt, hp, hP, newRow_add, nat_iv, hN, field_ptr, d0, d3, eql_ii, gi]
    apply fin <;> simp [gp_sp]
 ·obtain rfl : j = l.length := by omega
  simp -implicitDefEqProofs [lpSpread_37, allSpread, gp_sp, g13, g14, lss_ii, nat_iv]
  rw [List.drop_length] at hrun
  simp only [spArcs] at hrun
  injection hrun with hrun
  subst hrun
  exact ⟨_, st, rfl, hF.frame (by simp [gp_sp]) (by simp [gp_sp]) (by simp [gp_sp]), hmp, by simpa [gp_sp] using htd⟩
variable {M0 : Mc}
theorem MR.state {s st : S} {m : Go.Ev.K} {c : List V} {M : Mc} (h : MR s c M) (e : Kp s st m) {i : Nat} (hi : i < M.sts.length) :
  ∃ k w, c = [k, iv .i64 (M.start : Int), .str (stR M.lead), w] ∧ w ≠ .bad ∧ ∃ p, (∀ c, xIdxAddrS 2 w (iv .i64 (i : Int)) c = c p) ∧ ∃ p0 p1 va, (∀ c, xFieldAddr 0 p c = c p0) ∧ (∀ c, xFieldAddr 1 p c = c p1) ∧
   (∀ k : V → S → Go.Ev.A, xLoad false 1 p0 st k = k (.str (finT M.sts[i].1)) st) ∧ (∀ k : V → S → Go.Ev.A, xLoad false 1 p1 st k = k va st) ∧ ArcsR s va M.sts[i].2 := by
 obtain ⟨k, w, h1, hk, h2, h3, h4⟩ := h.ex
 obtain ⟨g0, g1⟩ := h4 i hi
 obtain ⟨f1, f2⟩ := h2.kp e
 obtain ⟨p, hp, hP⟩ := f1.idx (i := (i : Int)) (by omega) (by rw [h3]; omega)
 obtain ⟨p0, e0, P0⟩ := hP.field 0 (by omega)
 obtain ⟨p1, e1, P1⟩ := hP.field 1 (by omega)
 have hw : w ≠ .bad := by
  rcases h2 with (rfl | rfl) | ⟨_, _, _, _, ⟨_, rfl, _⟩ | ⟨_, rfl⟩, _⟩ <;> exact fun h => by cases h
 have hva : cellV s w (i * 2 + 1) ≠ .bad := by
  rcases g1.1 with (h | h) | ⟨_, _, _, _, ⟨_, h, _⟩ | ⟨_, h⟩, _⟩ <;> rw [h] <;> exact fun h => by cases h
 have c0 : cellV st w ((i : Int).toNat * 2 + (0 + 0)) = .str (finT M.sts[i].1) := by rw [f2, Int.toNat_natCast]; exact g0
 have c1 : cellV st w ((i : Int).toNat * 2 + (1 + 0)) = cellV s w (i * 2 + 1) := by rw [f2, Int.toNat_natCast]
 refine ⟨k, w, h1, hw, p, fun c => hp .i64 c, p0, p1, cellV s w (i * 2 + 1), e0, e1, fun k => ?_, fun k => ?_, g1⟩
 ·rw [P0.load1 (by omega) (by rw [c0]; exact fun h => by cases h) k, c0]
 ·rw [P1.load1 (by omega) (by rw [c1]; exact hva) k, c1]
structure WC where
 q : SQ
 M : Mc
 y : LM × Nat
def whC (w : WC) (n : Nat) (tm : Go.Ev.T) (st : S) : Prop := ∃ X, whIn ⟨w.q, w.M, n, X, w.y⟩ tm st
def whO (w : WC) (a : Go.Ev.A) : Prop := whOut ⟨w.q, w.M, 0, (w.y, []), w.y⟩ a
def ltSp (w : WC) : Nat → Lt
 | 21 => ltSp1
 | 49 => ltSp2
 | 82 => ⟨fun tm s => ∃ k, whC w k tm s, fun _ _ a => whO w a⟩
 | _ => ⟨fun _ _ => True, fun _ _ _ => True⟩
theorem c_ld {s : S} {k : Go.Ev.K} {c : List V} {x0 x1 x2 x3 : V} (hc : c = [x0, x1, x2, x3]) (h : Tr.get B.none k s.h = .row c 4 37 false 0 0 0) (h3 : x3 ≠ .bad) : ∀ f : V → S → Go.Ev.A, xLoad false 1 (.ptr k 0 3) s f = f x3 s := fun f => by
 subst hc
 exact load_at h 3 rfl (by omega) h3 f
theorem loopSp3 (w : WC) (hT : Holds Tryz.prog (K M0) 86) (hB : Holds Tryz.prog (K M0) 87) : ∀ k tm s, whC w k tm s → whO w (cSpread_22.run (RkN Tryz.prog (K M0) KN (ltSp w)) tm s) := by
 have hin := loopSp2 (L := ltSp w) rfl hT hB
 refine loop_c (L := ltSp w) pcOk0.1 pcOk0.2 szSpread_22 (C := whC w) (O := whO w) rfl ?_ ?_
 ·rintro a ⟨_, _, rfl, _⟩
  exact fun h => h
 rintro n tm st ⟨X, hF, hM, hmy, hlen, hmp, hok, hv, htd, hrun⟩ IH
 show whO w (cSpread_22.run _ tm st)
 generalize RkN Tryz.prog _ _ _ = r at IH hin ⊢
 obtain ⟨q, M, y⟩ := w
 simp only at hF hM hmy hlen hmp hok hv htd hrun
 obtain ⟨X, td⟩ := X
 simp only at hmp hok hv htd
 have hl := fun c => htd.len c
 cases td with
 | nil =>
  have hy : X = y := by
   cases n with
   | zero => simp only [spRun, if_true] at hrun; injection hrun
   | succ n => simp only [spRun] at hrun; injection hrun
  subst hy
  simp -implicitDefEqProofs [lpSpread_22, allSpread, gp_sp, hl, gtr_ii, nat_iv]
  exact ⟨_, st, rfl, hF.frame (by simp [gp_sp]) (by simp [gp_sp]) (by simp [gp_sp]), hmp⟩
 | cons z td =>
  cases n with
  | zero => simp only [spRun] at hrun; rw [if_neg (by simp)] at hrun; cases hrun
  | succ n =>
   simp only [spRun] at hrun
   by_cases g : 0 ≤ z ∧ z.toNat < M.sts.length
   ·rw [if_pos g] at hrun
    cases e : spArcs z (M.sts.getD z.toNat (none, [])).2 (X, td) with
    | none => rw [e] at hrun; cases hrun
    | some Y =>
     rw [e] at hrun
     simp only at hrun
     obtain ⟨p, hp, hP⟩ := htd.head
     obtain ⟨v', ht1, ht2⟩ := htd.tail
     have hkp := hF.kp hmy
     obtain ⟨k0, ws, hc, hws, ps, hps, p0, p1, va, e0, e1, -, l1, hA⟩ := hM.state hkp g.2
     rw [Int.toNat_of_nonneg g.1] at hps
     have hst : ∀ f : V → S → Go.Ev.A, xLoad false 1 (.ptr q.s.nx 0 3) st f = f ws st := c_ld hc hF.row hws
     have hvl : ∀ c : V → Go.Ev.A, xLenS va c = c (iv .i64 ((M.sts[z.toNat]'g.2).2.length : Int)) := fun c => by rw [hA.1.len, hA.2.1]
     have hgt : (0 : Int) < ((z :: td).length : Int) := by simp
     simp -implicitDefEqProofs only [lpSpread_22, allSpread, hl, gtr_ii, nat_iv, seqA_nrm]
     simp -implicitDefEqProofs [gp_sp, hp, hP, ht1, hF.g3, field_ptr, hst, hps, e1, l1, hvl]
     generalize hXX : cSpread_37.run r _ _ = A0
     have h2 : arOut ⟨q, M, z, (M.sts[z.toNat]'g.2).2, va, 0, (X, td), Y⟩ A0 := by
      rw [← hXX]
      refine (fun h => hin _ _ ⟨_, h⟩ _ h) ⟨hF.frame (by simp [gp_sp]) (by simp [gp_sp]) (by simp [gp_sp]), hM, hmy, by simp [gp_sp], hA, by simp [gp_sp], by simp [gp_sp], by simp [gp_sp], Nat.zero_le _, hlen _ (List.getElem_mem _), hmp, hok, hv, by simpa [gp_sp] using ht2, ?_⟩
      rw [List.getD_eq_getElem?_getD, List.getElem?_eq_getElem g.2] at e
      simpa using e
     obtain ⟨tm3, s3, rfl, hF3, hmp3, htd3⟩ := h2
     obtain ⟨ok3, hv3⟩ := spArcs_ok e hok hv
     simp -implicitDefEqProofs only [blockN_eq, seqA_nrm, blockN_nrm]
     exact IH n _ _ (Nat.lt_succ_self n) ⟨Y, hF3, hM, hmy, hlen, hmp3, ok3, hv3, htd3, hrun⟩
   ·rw [if_neg g] at hrun; cases hrun
end Go.Proofs.YtobflfopdndfdaaGreatDoor.oev
