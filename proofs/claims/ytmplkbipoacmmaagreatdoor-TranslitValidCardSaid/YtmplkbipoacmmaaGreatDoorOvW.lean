/- The contracts of the functions that the statements reach, for all arguments. No statement of the seat stands here. Conditions: the arguments are as their types say. By an AI agent. -/
import Derived.Test.YtmplkbipoacmmaaGreatDoorOvV
namespace Go.Proofs.YtmplkbipoacmmaaGreatDoor.oev
open Go.Ev Go.RowKit
set_option maxRecDepth 100000

theorem pcOk0 : PcOk Tryz.prog pc0 ∧ pc0.hooks = [] := by
  unfold pc0 pc
  exact pcOk_of (by kernel_rfl) (by kernel_rfl) (by kernel_rfl) (by kernel_rfl) (by kernel_rfl)
/-- the order of two words of one length, from place i on, n places -/
def cmpR (x y : Nat → Int) : Nat → Nat → Int
  | 0, _ => 0
  | n + 1, i => if x i < y i then -1 else if y i < x i then 1 else cmpR x y n (i + 1)
def cmpW (x y : Nat → Int) (n m : Nat) : Int := if n = m then cmpR x y n 0 else if n < m then -1 else 1
def PostCompare (z : Int) (s : S) (a : A) : Prop := (z = 0 ∧ ∃ tm', a = .ext 0 tm' s ∧ gp 240 tm' = .bad) ∨ (z ≠ 0 ∧ ∃ tm', a = .ret tm' s ∧ gp 240 tm' = .bad ∧ gp 4 tm' = iv .i64 z)
theorem PostCompare.nb {z : Int} {s : S} {a : A} (h : PostCompare z s a) : ¬ a.isBad := by
  rcases h with ⟨_, tm, rfl, _⟩ | ⟨_, tm, rfl, _⟩ <;> exact fun h => h
def QCCompare (vx vy : V) (s : S) : FI → Code → T → S → A → Prop := fun _ _ tm _ a => ∀ i : Nat, i ≤ lenV vx → gp 5 tm = iv .i64 i → PostCompare (cmpR (intV s vx) (intV s vy) (lenV vx - i) i) s a
theorem loopCompare {vx vy : V} {s : S} (hx : Ints s vx) (hy : Ints s vy) (hl : lenV vx = lenV vy) (tm : T) (s' : S) (h : s' = s ∧ gp 0 tm = vx ∧ gp 1 tm = vy ∧ gp 240 tm = .bad ∧ ∃ i : Nat, i ≤ lenV vx ∧ gp 5 tm = iv .i64 i) :
    QCCompare vx vy s fiCompare uCompare_22 tm s' (cCompare_22.run (Rq Tryz.prog (fun _ _ _ _ _ => True) (QCCompare vx vy s)) tm s') := by
  refine (loop_run pcOk0.1 pcOk0.2 (fun _ _ _ _ _ => True) (QCCompare vx vy s) (fun tm s' => s' = s ∧ gp 0 tm = vx ∧ gp 1 tm = vy ∧ gp 240 tm = .bad ∧ ∃ i : Nat, i ≤ lenV vx ∧ gp 5 tm = iv .i64 i) (fun tm _ => lenV vx - (toI (gp 5 tm)).toNat) ?_ tm s' h).2
  clear h tm s'
  rintro tm s' ⟨rfl, h0, h1, h240, i, hi, h5⟩ IH
  show ¬ (cCompare_22.run _ tm s').isBad ∧ QCCompare vx vy s' _ _ tm s' (cCompare_22.run _ tm s')
  generalize hr : Rq Tryz.prog _ _ = r at IH ⊢
  suffices h : PostCompare (cmpR (intV s' vx) (intV s' vy) (lenV vx - i) i) s' (cCompare_22.run r tm s') from ⟨h.nb, fun j _ hj => by
    have := congrArg toI (hj.symm.trans h5)
    rw [toI_iv, toI_iv] at this
    rw [show j = i by omega]; exact h⟩
  have hw : i < lenV vx → IntKind.i64.wrap ((i : Int) + 1) = (i : Int) + 1 := fun h => wrap64 (by omega) (by have := hx.2.1; omega)
  by_cases hlt : i < lenV vx
  · obtain ⟨p, hp, hP⟩ := hx.at_ hlt
    obtain ⟨q, hq, hQ⟩ := hy.at_ (hl ▸ hlt)
    obtain ⟨d, hd⟩ : ∃ d, lenV vx - i = d + 1 := ⟨lenV vx - i - 1, by omega⟩
    have IH' : ∀ tm', gp 0 tm' = vx → gp 1 tm' = vy → gp 240 tm' = .bad → gp 5 tm' = iv .i64 ((i : Int) + 1) → PostCompare (cmpR (intV s' vx) (intV s' vy) d (i + 1)) s' (r.code fiCompare uCompare_22 tm' s') := by
      intro tm' k0 k1 k240 k5
      have k5' : gp 5 tm' = iv .i64 ((i + 1 : Nat) : Int) := k5
      rw [show d = lenV vx - (i + 1) by omega]
      exact IH tm' s' (by rw [k5', h5, toI_iv, toI_iv]; omega) ⟨rfl, k0, k1, k240, i + 1, by omega, k5'⟩ (i + 1) (by omega) k5'
    rw [hd, cmpR]
    by_cases g1 : intV s' vx i < intV s' vy i
    · simp [lpCompare_22, allCompare, gp_sp, h0, h1, h5, hx.1.len, lss_ii, hp, hq, hP, hQ, nat_iv, neg_iv, hlt, g1]
      exact .inr ⟨by omega, _, rfl, by simp [gp_sp, h240], by simp [gp_sp]⟩
    · by_cases g2 : intV s' vy i < intV s' vx i
      · simp [lpCompare_22, allCompare, gp_sp, h0, h1, h5, hx.1.len, lss_ii, gtr_ii, hp, hq, hP, hQ, nat_iv, neg_iv, hlt, g1, g2]
        exact .inr ⟨by omega, _, rfl, by simp [gp_sp, h240], by simp [gp_sp]⟩
      · simp [lpCompare_22, allCompare, gp_sp, h0, h1, h5, hx.1.len, lss_ii, gtr_ii, add_ii, hw hlt, hp, hq, hP, hQ, nat_iv, hlt, g1, g2]
        apply IH' <;> simp [gp_sp, h0, h1, h240]
  · have e : i = lenV vx := by omega
    subst e
    simp [lpCompare_22, allCompare, gp_sp, h0, h5, hx.1.len, lss_ii, nat_iv, cmpR]
    exact .inl ⟨rfl, _, rfl, by simp [gp_sp, h240]⟩
/-- Compare -/
theorem compare_ok {vx vy : V} {s : S} (hx : Ints s vx) (hy : Ints s vy) : CallX Tryz.prog 15 [vx, vy] s (iv .i64 (cmpW (intV s vx) (intV s vy) (lenV vx) (lenV vy))) s := by
  refine fn_call pcOk0.1 pcOk0.2 (Rq_ok pc0 (fun _ _ _ _ _ => True) (QCCompare vx vy s)) ?_
  by_cases hl : lenV vx = lenV vy
  · have hL := loopCompare hx hy hl
    generalize Rq Tryz.prog _ _ = r at hL ⊢
    have hL' : ∀ tm a, cCompare_22.run r tm s = a → gp 0 tm = vx → gp 1 tm = vy → gp 240 tm = .bad → gp 5 tm = iv .i64 0 → PostCompare (cmpR (intV s vx) (intV s vy) (lenV vx) 0) s a := fun tm a e k0 k1 k2 k3 => e ▸ hL tm s ⟨rfl, k0, k1, k2, 0, by omega, k3⟩ 0 (by omega) k3
    rw [cmpW, if_pos hl]
    simp [allCompare, gp_sp, hx.1.len, hy.1.len, neq_ii, nat_iv, hl.symm]
    generalize hA : cCompare_22.run r _ s = a
    rcases hL' _ _ hA (by simp [gp_sp]) (by simp [gp_sp]) (by simp [gp_sp]) (by simp [gp_sp]) with ⟨hz, tm', rfl, k1⟩ | ⟨hz, tm', rfl, k1, k2⟩
    · simp [blockA_ext, gp_sp, k1, hz]
    · simp [k1, k2]
  · generalize Rq Tryz.prog _ _ = r
    rw [cmpW, if_neg hl]
    have hl' : ((lenV vx : Int) = lenV vy) = False := by simp; omega
    by_cases g : lenV vx < lenV vy
    · simp [allCompare, gp_sp, hx.1.len, hy.1.len, neq_ii, lss_ii, nat_iv, neg_iv, hl', g]
    · simp [allCompare, gp_sp, hx.1.len, hy.1.len, neq_ii, lss_ii, nat_iv, hl', g]

/-- a word's closure: is a symbol out of range? -/
theorem out_ok {s : S} {z lim : Int} {p : V} (hp : ∀ k : V → S → A, xLoad false 1 p s k = k (iv .i64 lim) s) : CallX Tryz.prog 41 [iv .i64 z, p] s (.bool (decide (z < 1 ∨ lim < z))) s := by
  refine fn_call pcOk0.1 pcOk0.2 (Rq_ok pc0 (fun _ _ _ _ _ => True) (fun _ _ _ _ _ => True)) ?_
  generalize Rq Tryz.prog _ _ = r
  by_cases h : z < 1
  · simp [allSymbolsC, gp_sp, nat_iv, lss_ii, h]
  · simp [allSymbolsC, gp_sp, nat_iv, lss_ii, gtr_ii, h, hp]
/-- the first place, from i on, n places, at which p holds; or -1 -/
def idxR (p : Nat → Bool) : Nat → Nat → Int
  | 0, _ => -1
  | n + 1, i => if p i then i else idxR p n (i + 1)
theorem idxR_lt (p : Nat → Bool) : ∀ n i, 0 ≤ idxR p n i ↔ ∃ j, i ≤ j ∧ j < i + n ∧ p j = true
  | 0, i => by simp [idxR]; omega
  | n + 1, i => by
    rw [idxR]
    by_cases h : p i = true
    · rw [if_pos h]
      exact ⟨fun _ => ⟨i, by omega, by omega, h⟩, fun _ => by omega⟩
    · rw [if_neg h, idxR_lt p n (i + 1)]
      constructor
      · rintro ⟨j, h1, h2, h3⟩; exact ⟨j, by omega, by omega, h3⟩
      · rintro ⟨j, h1, h2, h3⟩
        exact ⟨j, by rcases Nat.lt_or_ge i j with g | g
                     · omega
                     · have : j = i := by omega
                       subst this; exact absurd h3 h, by omega, h3⟩
def PostIndexFunc (z : Int) (s : S) (a : A) : Prop := (z = -1 ∧ ∃ tm', a = .ext 0 tm' s ∧ gp 240 tm' = .bad) ∨ (z ≠ -1 ∧ ∃ tm', a = .ret tm' s ∧ gp 240 tm' = .bad ∧ gp 4 tm' = iv .i64 z)
theorem PostIndexFunc.nb {z : Int} {s : S} {a : A} (h : PostIndexFunc z s a) : ¬ a.isBad := by
  rcases h with ⟨_, tm, rfl, _⟩ | ⟨_, tm, rfl, _⟩ <;> exact fun h => h
def QIndexFunc (g : Nat) (cap : List V) (pz : Int → Bool) (s : S) : Nat → List V → S → V → S → Prop := fun f a t v t' => f = g → t = s → ∀ z, a = iv .i64 z :: cap → v = .bool (pz z) ∧ t' = s
def QCIndexFunc (vx : V) (s : S) (pz : Int → Bool) : FI → Code → T → S → A → Prop := fun _ _ tm _ a => ∀ i : Nat, i ≤ lenV vx → gp 7 tm = iv .i64 i → PostIndexFunc (idxR (fun j => pz (intV s vx j)) (lenV vx - i) i) s a
theorem loopIndexFunc {vx : V} {g : Nat} {cap : List V} {pz : Int → Bool} {s : S} (hx : Ints s vx) (hg : ∀ z, CallX Tryz.prog g (iv .i64 z :: cap) s (.bool (pz z)) s) (tm : T) (s' : S)
    (h : s' = s ∧ gp 0 tm = vx ∧ gp 1 tm = .fn (.func g) [] cap ∧ gp 6 tm = iv .i64 (lenV vx) ∧ gp 240 tm = .bad ∧ ∃ i : Nat, i ≤ lenV vx ∧ gp 7 tm = iv .i64 i) :
    QCIndexFunc vx s pz fiIndexFunc uIndexFunc_6 tm s' (cIndexFunc_6.run (Rq Tryz.prog (QIndexFunc g cap pz s) (QCIndexFunc vx s pz)) tm s') := by
  refine (loop_run pcOk0.1 pcOk0.2 (QIndexFunc g cap pz s) (QCIndexFunc vx s pz) (fun tm s' => s' = s ∧ gp 0 tm = vx ∧ gp 1 tm = .fn (.func g) [] cap ∧ gp 6 tm = iv .i64 (lenV vx) ∧ gp 240 tm = .bad ∧ ∃ i : Nat, i ≤ lenV vx ∧ gp 7 tm = iv .i64 i) (fun tm _ => lenV vx - (toI (gp 7 tm)).toNat) ?_ tm s' h).2
  clear h tm s'
  rintro tm s' ⟨rfl, h0, h1, h6, h240, i, hi, h7⟩ IH
  show ¬ (cIndexFunc_6.run _ tm s').isBad ∧ QCIndexFunc vx s' pz _ _ tm s' (cIndexFunc_6.run _ tm s')
  have hcall : ∀ z, (Rq Tryz.prog (QIndexFunc g cap pz s') (QCIndexFunc vx s' pz)).call g (iv .i64 z :: cap) s' = .ret (.bool (pz z)) s' := fun z => by
    obtain ⟨v, t, e, q⟩ := Rq_call (P := Tryz.prog) (Q := QIndexFunc g cap pz s') (QC := QCIndexFunc vx s' pz) ⟨_, _, hg z, fun _ _ z' hz => ⟨by rw [iv_inj (List.cons.inj hz).1], rfl⟩⟩
    obtain ⟨rfl, rfl⟩ := q rfl rfl z rfl
    exact e
  generalize Rq Tryz.prog _ _ = r at IH hcall ⊢
  suffices h : PostIndexFunc (idxR (fun j => pz (intV s' vx j)) (lenV vx - i) i) s' (cIndexFunc_6.run r tm s') from ⟨h.nb, fun j _ hj => by rw [show j = i by have := iv_inj (hj.symm.trans h7); omega]; exact h⟩
  by_cases hlt : i < lenV vx
  · have hw : IntKind.i64.wrap ((i : Int) + 1) = (i : Int) + 1 := wrap64 (by omega) (by have := hx.2.1; omega)
    obtain ⟨p, hp, hP⟩ := hx.at_ hlt
    obtain ⟨d, hd⟩ : ∃ d, lenV vx - i = d + 1 := ⟨lenV vx - i - 1, by omega⟩
    have IH' : ∀ tm', gp 0 tm' = vx → gp 1 tm' = .fn (.func g) [] cap → gp 6 tm' = iv .i64 (lenV vx) → gp 240 tm' = .bad → gp 7 tm' = iv .i64 ((i : Int) + 1) → PostIndexFunc (idxR (fun j => pz (intV s' vx j)) d (i + 1)) s' (r.code fiIndexFunc uIndexFunc_6 tm' s') := by
      intro tm' k0 k1 k6 k240 k7
      have k7' : gp 7 tm' = iv .i64 ((i + 1 : Nat) : Int) := k7
      rw [show d = lenV vx - (i + 1) by omega]
      exact IH tm' s' (by rw [k7', h7, toI_iv, toI_iv]; omega) ⟨rfl, k0, k1, k6, k240, i + 1, by omega, k7'⟩ (i + 1) (by omega) k7'
    rw [hd, idxR]
    by_cases g1 : pz (intV s' vx i) = true
    · simp [lpIndexFunc_6, allIndexFunc, gp_sp, h0, h1, h6, h7, lss_ii, hp, hP, callV_fn, hcall, nat_iv, hlt, g1]
      exact .inr ⟨by omega, _, rfl, by simp [gp_sp, h240], by simp [gp_sp]⟩
    · simp [lpIndexFunc_6, allIndexFunc, gp_sp, h0, h1, h6, h7, lss_ii, add_ii, hw, hp, hP, callV_fn, hcall, nat_iv, hlt, g1]
      apply IH' <;> simp [gp_sp, h0, h1, h6, h240]
  · have e : i = lenV vx := by omega
    subst e
    simp [lpIndexFunc_6, allIndexFunc, gp_sp, h6, h7, lss_ii, nat_iv, idxR]
    exact .inl ⟨rfl, _, rfl, by simp [gp_sp, h240]⟩
/-- slices.IndexFunc, at a closure that only reads -/
theorem indexFunc_ok {vx : V} {g : Nat} {cap : List V} {pz : Int → Bool} {s : S} (hx : Ints s vx) (hg : ∀ z, CallX Tryz.prog g (iv .i64 z :: cap) s (.bool (pz z)) s) :
    CallX Tryz.prog 68 [vx, .fn (.func g) [] cap] s (iv .i64 (idxR (fun j => pz (intV s vx j)) (lenV vx) 0)) s := by
  refine fn_call pcOk0.1 pcOk0.2 (Rq_ok pc0 (QIndexFunc g cap pz s) (QCIndexFunc vx s pz)) ?_
  have hL := loopIndexFunc hx hg
  generalize Rq Tryz.prog _ _ = r at hL ⊢
  have hL' : ∀ tm a, cIndexFunc_6.run r tm s = a → gp 0 tm = vx → gp 1 tm = .fn (.func g) [] cap → gp 6 tm = iv .i64 (lenV vx) → gp 240 tm = .bad → gp 7 tm = iv .i64 0 → PostIndexFunc (idxR (fun j => pz (intV s vx j)) (lenV vx) 0) s a :=
    fun tm a e k0 k1 k6 k2 k3 => e ▸ hL tm s ⟨rfl, k0, k1, k6, k2, 0, by omega, k3⟩ 0 (by omega) k3
  simp [allIndexFunc, gp_sp, hx.1.len, nat_iv]
  generalize hA : cIndexFunc_6.run r _ s = a
  rcases hL' _ _ hA (by simp [gp_sp]) (by simp [gp_sp]) (by simp [gp_sp]) (by simp [gp_sp]) (by simp [gp_sp]) with ⟨hz, tm', rfl, k1⟩ | ⟨hz, tm', rfl, k1, k2⟩
  · simp [blockA_ext, gp_sp, k1, hz, neg_iv]
  · simp [k1, k2]
/-- slices.ContainsFunc -/
theorem containsFunc_ok {vx : V} {g : Nat} {cap : List V} {pz : Int → Bool} {s : S} (hx : Ints s vx) (hg : ∀ z, CallX Tryz.prog g (iv .i64 z :: cap) s (.bool (pz z)) s) :
    CallX Tryz.prog 40 [vx, .fn (.func g) [] cap] s (.bool (decide (0 ≤ idxR (fun j => pz (intV s vx j)) (lenV vx) 0))) s := by
  have hI := indexFunc_ok hx hg
  refine fn_call pcOk0.1 pcOk0.2 (Rq_ok pc0 (fun f a t v t' => f = 68 → t = s → a = [vx, .fn (.func g) [] cap] → v = iv .i64 (idxR (fun j => pz (intV s vx j)) (lenV vx) 0) ∧ t' = s) (fun _ _ _ _ _ => True)) ?_
  obtain ⟨v, t, e, q⟩ := Rq_call (P := Tryz.prog) (Q := fun f a t v t' => f = 68 → t = s → a = [vx, .fn (.func g) [] cap] → v = iv .i64 (idxR (fun j => pz (intV s vx j)) (lenV vx) 0) ∧ t' = s) (QC := fun _ _ _ _ _ => True) ⟨_, _, hI, fun _ _ _ => ⟨rfl, rfl⟩⟩
  obtain ⟨rfl, rfl⟩ := q rfl rfl rfl
  generalize Rq Tryz.prog _ _ = r at e ⊢
  simp [allContainsFunc, gp_sp, e, geq_ii, nat_iv]
end Go.Proofs.YtmplkbipoacmmaaGreatDoor.oev

namespace Go.Proofs.YtmplkbipoacmmaaGreatDoor.oev
open Go.Ev Go.RowKit
set_option maxRecDepth 100000
/-! the contracts -/
def okSym (lim : Int) (w : List Int) : Prop := ∀ x, x ∈ w → 1 ≤ x ∧ x ≤ lim
def okWord (w : List Int) : Prop := w.length ≤ 200 ∧ okSym 500 w
/-- row i is as the chapter wants it -/
def okRow (F T : Nat → List Int) (i : Nat) : Prop := 1 ≤ (F i).length ∧ (F i).length ≤ 20 ∧ (T i).length ≤ 20 ∧ okSym 500 (F i) ∧ okSym 500 (T i) ∧ ∀ k, k < i → F i ≠ F k
def okRows (n : Nat) (F T : Nat → List Int) : Prop := 1 ≤ n ∧ n ≤ 20 ∧ ∀ i, i < n → okRow F T i
def okTab (s : S) (v : V) : Prop := okRows (lenV v) (fromV s v) (toV s v)
open Classical in
noncomputable def K : Nat → Ct
  | 15 => ⟨fun a s => ∃ x y, a = [x, y] ∧ Ints s x ∧ Ints s y, fun a s v s' => ∀ x y, a = [x, y] → s' = s ∧ ∃ z, v = iv .i64 z ∧ (z = 0 ↔ word s x = word s y)⟩
  | 25 => ⟨fun a s => ∃ x y, a = [x, y] ∧ Ints s x ∧ Ints s y, fun a s v s' => ∀ x y, a = [x, y] → s' = s ∧ v = .bool (decide (word s x = word s y))⟩
  | 17 => ⟨fun a s => ∃ x, a = [x] ∧ Ints s x, fun a s v s' => ∀ x, a = [x] → s' = s ∧ v = .bool (decide (okWord (word s x)))⟩
  | 24 => ⟨fun a s => ∃ x z, a = [x, iv .i64 z] ∧ Ints s x, fun a s v s' => ∀ x z, a = [x, iv .i64 z] → Ext s s' ∧ v = .bool (decide (okSym z (word s x)))⟩
  | 8 => ⟨fun a s => ∃ x, a = [x] ∧ Tab s x, fun a s v s' => ∀ x, a = [x] → s' = s ∧ v = .bool (decide (30 < lenV x))⟩
  | 10 => ⟨fun a s => ∃ x, a = [x] ∧ Tab s x, fun a s v s' => ∀ x, a = [x] → Ext s s' ∧ v = .bool (decide (okTab s x))⟩
  | 11 => ⟨fun a s => ∃ x, a = [x] ∧ Tab s x, fun a s v s' => ∀ x, a = [x] → Ext s s' ∧ v = .bool (decide (okTab s x))⟩
  | 9 => ⟨fun a _ => a = [], fun _ s v s' => s' = s ∧ v = .bool true⟩
  | _ => ⟨fun _ _ => False, fun _ _ _ _ => True⟩
theorem fn_k {L : Nat → Lt} {f : Nat} {a : List V} {s s' : S} {v : V} (h : (fnC pc0 f).run (Rk Tryz.prog K L) a s = .ret v s') : CallX Tryz.prog f a s v s' := fn_call pcOk0.1 pcOk0.2 (Rk_ok pc0 K L) h
abbrev noL : Nat → Lt := fun _ => ⟨fun _ _ => True, fun _ _ _ => True⟩
theorem wrap1 {i n : Nat} (h : i < n) (hn : n ≤ 9223372036854775807) : IntKind.i64.wrap ((i : Int) + 1) = (i : Int) + 1 := wrap64 (by omega) (by omega)
/-! Compare -/
theorem cmpR_zero (x y : Nat → Int) : ∀ n i, cmpR x y n i = 0 ↔ ∀ j, i ≤ j → j < i + n → x j = y j
  | 0, i => by simp [cmpR]; omega
  | n + 1, i => by
    rw [cmpR]
    by_cases h1 : x i < y i
    · rw [if_pos h1]; exact ⟨fun h => by omega, fun h => by have := h i (by omega) (by omega); omega⟩
    · rw [if_neg h1]
      by_cases h2 : y i < x i
      · rw [if_pos h2]; exact ⟨fun h => by omega, fun h => by have := h i (by omega) (by omega); omega⟩
      · rw [if_neg h2, cmpR_zero x y n (i + 1)]
        constructor
        · intro h j h3 h4
          rcases Nat.eq_or_lt_of_le h3 with rfl | h5
          · omega
          · exact h j (by omega) (by omega)
        · exact fun h j h3 h4 => h j (by omega) (by omega)
theorem Compare_ok : Holds Tryz.prog K 15 := by
  rintro a s ⟨x, y, rfl, hx, hy⟩
  refine ⟨_, _, compare_ok hx hy, ?_⟩
  intro x' y' e
  cases e
  refine ⟨rfl, _, rfl, ?_⟩
  rw [word_eq]
  unfold cmpW
  split
  · rename_i hl
    rw [cmpR_zero]
    exact ⟨fun h => ⟨hl, fun j hj => h j (by omega) (by omega)⟩, fun h j _ hj => h.2 j (by omega)⟩
  · rename_i hl
    split <;> exact ⟨fun h => by omega, fun h => absurd h.1 hl⟩
/-! Equal -/
def ltEqual (vx vy : V) (s : S) : Lt := ⟨fun tm s' => s' = s ∧ gp 0 tm = vx ∧ gp 1 tm = vy ∧ gp 7 tm = iv .i64 (lenV vx) ∧ gp 240 tm = .bad ∧ ∃ i : Nat, i ≤ lenV vx ∧ gp 8 tm = iv .i64 i ∧ ∀ j, j < i → intV s vx j = intV s vy j,
  fun _ _ a => LP 0 4 (.bool false) (∀ j, j < lenV vx → intV s vx j = intV s vy j) (fun _ s' => s' = s) a⟩
theorem loopEqual {vx vy : V} {s : S} (hx : Ints s vx) (hy : Ints s vy) (hl : lenV vx = lenV vy) : ∀ tm s', (ltEqual vx vy s).pre tm s' → (ltEqual vx vy s).post tm s' (cEqual_14.run (Rk Tryz.prog K fun _ => ltEqual vx vy s) tm s') := by
  refine loop_k (L := fun _ => ltEqual vx vy s) pcOk0.1 pcOk0.2 szEqual_14 (fun tm _ => lenV vx - (toI (gp 8 tm)).toNat) (fun _ _ _ _ (h : LP _ _ _ _ _ _) => h.nb) ?_
  rintro tm s' ⟨rfl, h0, h1, h7, h240, i, hi, h8, hj⟩ IH
  show LP _ _ _ _ _ (cEqual_14.run _ tm s')
  generalize Rk Tryz.prog _ _ = r at IH ⊢
  by_cases hlt : i < lenV vx
  · have hw := wrap1 hlt hx.2.1
    obtain ⟨p, hp, hP⟩ := hx.at_ hlt
    obtain ⟨q, hq, hQ⟩ := hy.at_ (hl ▸ hlt)
    by_cases g : intV s' vx i = intV s' vy i
    · simp [lpEqual_14, allEqual, gp_sp, h0, h1, h7, h8, lss_ii, neq_ii, add_ii, hw, hp, hq, hP, hQ, nat_iv, hlt, g]
      refine IH _ _ (mu_lt h8 (by simp [gp_sp]) hlt) ⟨rfl, ?_, ?_, ?_, ?_, i + 1, by omega, ?_, fun j h => ?_⟩
      · simp [gp_sp, h0]
      · simp [gp_sp, h1]
      · simp [gp_sp, h7]
      · simp [gp_sp, h240]
      · simp [gp_sp]
      · rcases Nat.lt_or_ge j i with h' | h'
        · exact hj j h'
        · rw [show j = i by omega]; exact g
    · simp [lpEqual_14, allEqual, gp_sp, h0, h1, h7, h8, lss_ii, neq_ii, hp, hq, hP, hQ, nat_iv, hlt, g]
      exact .inr ⟨fun h => g (h i hlt), _, _, rfl, by simp [gp_sp, h240], by simp [gp_sp], rfl⟩
  · simp [lpEqual_14, allEqual, gp_sp, h7, h8, lss_ii, nat_iv, hlt]
    exact .inl ⟨fun j h => hj j (by omega), _, _, rfl, by simp [gp_sp, h240], rfl⟩
open Classical in
theorem Equal_ok : Holds Tryz.prog K 25 := by
  rintro a s ⟨x, y, rfl, hx, hy⟩
  suffices h : CallX Tryz.prog 25 [x, y] s (.bool (decide (word s x = word s y))) s from ⟨_, _, h, fun x' y' e => by cases e; exact ⟨rfl, rfl⟩⟩
  refine fn_k (L := fun _ => ltEqual x y s) ?_
  by_cases hl : lenV x = lenV y
  · have hL := loopEqual hx hy hl
    generalize Rk Tryz.prog _ _ = r at hL ⊢
    simp only [word_eq, hl, true_and]
    simp [allEqual, gp_sp, hx.1.len, hy.1.len, neq_ii, nat_iv, hl]
    generalize hA : cEqual_14.run r _ s = a
    have := hA ▸ hL _ _ ⟨rfl, by simp [gp_sp], by simp [gp_sp], by simp [gp_sp, hl], by simp [gp_sp], 0, by omega, by simp [gp_sp], fun _ h => by omega⟩
    rw [← hl]
    rcases this with ⟨hg, tm', s', rfl, k1, rfl⟩ | ⟨hg, tm', s', rfl, k1, k2, rfl⟩
    · rw [decide_eq_true hg]; simp [blockA_ext, gp_sp, k1]
    · rw [decide_eq_false hg]; simp [k1, k2]
  · have h2 : ¬ word s x = word s y := fun h => hl (word_eq.1 h).1
    have hl' : ¬ (lenV x : Int) = lenV y := by omega
    simp only [h2]
    generalize Rk Tryz.prog _ _ = r
    simp [allEqual, gp_sp, hx.1.len, hy.1.len, neq_ii, nat_iv, hl']
end Go.Proofs.YtmplkbipoacmmaaGreatDoor.oev

namespace Go.Proofs.YtmplkbipoacmmaaGreatDoor.oev
open Go.Ev Go.RowKit
set_option maxRecDepth 100000
/-! Word -/
theorem okSym_iff {s : S} {v : V} {lim : Int} : okSym lim (word s v) ↔ ∀ j, j < lenV v → 1 ≤ intV s v j ∧ intV s v j ≤ lim :=
  ⟨fun h j hj => h _ (word_mem.2 ⟨j, hj, rfl⟩), fun h x hx => by obtain ⟨j, hj, rfl⟩ := word_mem.1 hx; exact h j hj⟩
def ltRWord (vx : V) (s : S) : Lt := ⟨fun tm s' => s' = s ∧ gp 0 tm = vx ∧ gp 240 tm = .bad ∧ ∃ i : Nat, i ≤ lenV vx ∧ gp 3 tm = iv .i64 i ∧ ∀ j, j < i → 1 ≤ intV s vx j ∧ intV s vx j ≤ 500,
  fun _ _ a => LP 0 2 (.bool false) (∀ j, j < lenV vx → 1 ≤ intV s vx j ∧ intV s vx j ≤ 500) (fun _ s' => s' = s) a⟩
theorem loopRWord {vx : V} {s : S} (hx : Ints s vx) : ∀ tm s', (ltRWord vx s).pre tm s' → (ltRWord vx s).post tm s' (cRWord_14.run (Rk Tryz.prog K fun _ => ltRWord vx s) tm s') := by
  refine loop_k (L := fun _ => ltRWord vx s) pcOk0.1 pcOk0.2 szRWord_14 (fun tm _ => lenV vx - (toI (gp 3 tm)).toNat) (fun _ _ _ _ (h : LP _ _ _ _ _ _) => h.nb) ?_
  rintro tm s' ⟨rfl, h0, h240, i, hi, h3, hj⟩ IH
  show LP _ _ _ _ _ (cRWord_14.run _ tm s')
  generalize Rk Tryz.prog _ _ = r at IH ⊢
  by_cases hlt : i < lenV vx
  · have hw := wrap1 hlt hx.2.1
    obtain ⟨p, hp, hP⟩ := hx.at_ hlt
    by_cases g1 : intV s' vx i < 1
    · simp [lpRWord_14, allRWord, gp_sp, h0, h3, hx.1.len, lss_ii, hp, hP, nat_iv, hlt, g1]
      exact .inr ⟨fun h => by have := h i hlt; omega, _, _, rfl, by simp [gp_sp, h240], by simp [gp_sp], rfl⟩
    · by_cases g2 : 500 < intV s' vx i
      · simp [lpRWord_14, allRWord, gp_sp, h0, h3, hx.1.len, lss_ii, gtr_ii, hp, hP, nat_iv, hlt, g1, g2]
        exact .inr ⟨fun h => by have := h i hlt; omega, _, _, rfl, by simp [gp_sp, h240], by simp [gp_sp], rfl⟩
      · simp [lpRWord_14, allRWord, gp_sp, h0, h3, hx.1.len, lss_ii, gtr_ii, add_ii, hw, hp, hP, nat_iv, hlt, g1, g2]
        refine IH _ _ (mu_lt h3 (by simp [gp_sp]) hlt) ⟨rfl, ?_, ?_, i + 1, by omega, ?_, fun j h => ?_⟩
        · simp [gp_sp, h0]
        · simp [gp_sp, h240]
        · simp [gp_sp]
        · rcases Nat.lt_or_ge j i with h' | h'
          · exact hj j h'
          · rw [show j = i by omega]; omega
  · simp [lpRWord_14, allRWord, gp_sp, h0, h3, hx.1.len, lss_ii, nat_iv, hlt]
    exact .inl ⟨fun j h => hj j (by omega), _, _, rfl, by simp [gp_sp, h240], rfl⟩
open Classical in
theorem RWord_ok : Holds Tryz.prog K 17 := by
  rintro a s ⟨x, rfl, hx⟩
  suffices h : CallX Tryz.prog 17 [x] s (.bool (decide (okWord (word s x)))) s from ⟨_, _, h, fun x' e => by cases e; exact ⟨rfl, rfl⟩⟩
  refine fn_k (L := fun _ => ltRWord x s) ?_
  by_cases hl : 200 < lenV x
  · have h2 : ¬ okWord (word s x) := fun h => by have := h.1; rw [word_len] at this; omega
    have hl' : (200 : Int) < lenV x := by omega
    rw [decide_eq_false h2]
    generalize Rk Tryz.prog _ _ = r
    simp [allRWord, gp_sp, hx.1.len, gtr_ii, nat_iv, hl']
  · have hL := loopRWord hx
    generalize Rk Tryz.prog _ _ = r at hL ⊢
    have hl' : ¬ (200 : Int) < lenV x := by omega
    have e : okWord (word s x) ↔ ∀ j, j < lenV x → 1 ≤ intV s x j ∧ intV s x j ≤ 500 := by
      unfold okWord
      rw [okSym_iff, word_len]
      exact ⟨fun h => h.2, fun h => ⟨by omega, h⟩⟩
    simp [allRWord, gp_sp, hx.1.len, gtr_ii, nat_iv, hl']
    generalize hA : cRWord_14.run r _ s = a
    have := hA ▸ hL _ _ ⟨rfl, by simp [gp_sp], by simp [gp_sp], 0, by omega, by simp [gp_sp], fun _ h => by omega⟩
    rcases this with ⟨hg, tm', s', rfl, k1, rfl⟩ | ⟨hg, tm', s', rfl, k1, k2, rfl⟩
    · rw [decide_eq_true (e.2 hg)]; simp [blockA_ext, gp_sp, k1]
    · rw [decide_eq_false (mt e.1 hg)]; simp [k1, k2]
/-! symbols -/
theorem box_load (s : S) (el : Nat) (x : V) (hx : x ≠ .bad) (k : V → S → A) : xLoad false 1 (.ptr s.nx 0 0) (addB s (.row [x] 1 el false 0 0 0)) k = k x (addB s (.row [x] 1 el false 0 0 0)) :=
  (new_pt s el 1 [x] rfl).load1 Nat.zero_lt_one hx k
open Classical in
theorem Symbols_ok : Holds Tryz.prog K 24 := by
  rintro a s ⟨vx, lim, rfl, hx⟩
  suffices h : CallX Tryz.prog 24 [vx, iv .i64 lim] s (.bool (decide (okSym lim (word s vx)))) (addB s (.row [iv .i64 lim] 1 3 false 0 0 0)) from
    ⟨_, _, h, fun x' z e => by obtain ⟨e1, e2, _⟩ := (by simpa using e : vx = x' ∧ iv .i64 lim = iv .i64 z ∧ True); subst e1; rw [iv_inj e2]; exact ⟨ext_addB _ _, rfl⟩⟩
  have hE := hx.ext (ext_addB s (.row [iv .i64 lim] 1 3 false 0 0 0))
  generalize hs1 : addB s (.row [iv .i64 lim] 1 3 false 0 0 0) = s1 at hE
  have hC := containsFunc_ok (g := 41) (cap := [.ptr s.nx 0 0]) (pz := fun z => decide (z < 1 ∨ lim < z)) hE.1 (fun z => by
    subst hs1
    exact out_ok (box_load s 3 _ (iv_ne _ _)))
  refine fn_call pcOk0.1 pcOk0.2 (Rq_ok pc0 (fun f a t v t' => f = 40 → t = s1 → a = [vx, .fn (.func 41) [] [.ptr s.nx 0 0]] → v = .bool (decide (0 ≤ idxR (fun j => decide (intV s1 vx j < 1 ∨ lim < intV s1 vx j)) (lenV vx) 0)) ∧ t' = s1) (fun _ _ _ _ _ => True)) ?_
  obtain ⟨v, t, e, q⟩ := Rq_call (P := Tryz.prog) (Q := fun f a t v t' => f = 40 → t = s1 → a = [vx, .fn (.func 41) [] [.ptr s.nx 0 0]] → v = .bool (decide (0 ≤ idxR (fun j => decide (intV s1 vx j < 1 ∨ lim < intV s1 vx j)) (lenV vx) 0)) ∧ t' = s1) (QC := fun _ _ _ _ _ => True) ⟨_, _, hC, fun _ _ _ => ⟨rfl, rfl⟩⟩
  obtain ⟨rfl, rfl⟩ := q rfl rfl rfl
  generalize Rq Tryz.prog _ _ = r at e ⊢
  have hR : (0 ≤ idxR (fun j => decide (intV t vx j < 1 ∨ lim < intV t vx j)) (lenV vx) 0) ↔ ¬ okSym lim (word s vx) := by
    rw [idxR_lt, okSym_iff]
    constructor
    · rintro ⟨j, _, h2, h3⟩ h
      have := h j (by omega)
      rw [hE.2] at h3
      simp at h3
      omega
    · intro h
      by_cases hex : ∃ j, j < lenV vx ∧ ¬ (1 ≤ intV s vx j ∧ intV s vx j ≤ lim)
      · obtain ⟨j, h1, h2⟩ := hex
        exact ⟨j, by omega, by omega, by rw [hE.2]; simp; omega⟩
      · exact absurd (fun j hj => by
          by_cases g : 1 ≤ intV s vx j ∧ intV s vx j ≤ lim
          · exact g
          · exact absurd ⟨j, hj, g⟩ hex) h
  by_cases h2 : okSym lim (word s vx)
  · have h3 := mt hR.1 (fun h => h h2)
    simp only [h3, decide_false] at e
    simp [allSymbols, gp_sp, cellsC_iv, newRow_add, hs1, h2, e]
  · have h3 := hR.2 h2
    simp only [h3, decide_true] at e
    simp [allSymbols, gp_sp, cellsC_iv, newRow_add, hs1, h2, e]
open Classical in
theorem Large_ok : Holds Tryz.prog K 8 := by
  rintro a s ⟨x, rfl, hx⟩
  suffices h : CallX Tryz.prog 8 [x] s (.bool (decide (30 < lenV x))) s from ⟨_, _, h, fun x' e => by cases e; exact ⟨rfl, rfl⟩⟩
  refine fn_k (L := noL) ?_
  generalize Rk Tryz.prog _ _ = r
  by_cases h : 30 < lenV x
  · have h' : (30 : Int) < lenV x := by omega
    rw [decide_eq_true h]
    simp [allLarge, gp_sp, hx.1.len, gtr_ii, nat_iv, h']
  · have h' : ¬ (30 : Int) < lenV x := by omega
    rw [decide_eq_false h]
    simp [allLarge, gp_sp, hx.1.len, gtr_ii, nat_iv, h']
end Go.Proofs.YtmplkbipoacmmaaGreatDoor.oev

namespace Go.Proofs.YtmplkbipoacmmaaGreatDoor.oev
open Go.Ev Go.RowKit
set_option maxRecDepth 100000
/-- a variable that holds a row: where its two words are read -/
def Cv (s : S) (p x y : V) : Prop := ∃ q0 q1, (∀ c, xFieldAddr 0 p c = c q0) ∧ (∀ c, xFieldAddr 1 p c = c q1) ∧ ∀ s2, Ext s s2 → (∀ k : V → S → A, xLoad false 1 q0 s2 k = k x s2) ∧ ∀ k : V → S → A, xLoad false 1 q1 s2 k = k y s2
theorem Cv.ext {s s' : S} {p x y : V} (h : Cv s p x y) (e : Ext s s') : Cv s' p x y := by
  obtain ⟨q0, q1, h0, h1, h2⟩ := h
  exact ⟨q0, q1, h0, h1, fun s2 e2 => h2 s2 (e.trans e2)⟩
theorem cv_new (s : S) (el : Nat) (x y : V) (hx : x ≠ .bad) (hy : y ≠ .bad) : Cv (addB s (.row [x, y] 2 el false 0 0 0)) (.ptr s.nx 0 0) x y := by
  have hP := new_pt s el 2 [x, y] rfl
  refine ⟨.ptr s.nx 0 0, .ptr s.nx 0 1, fun c => rfl, fun c => rfl, fun s2 e => ⟨fun k => ?_, fun k => ?_⟩⟩
  · have := hP.ext e (fun a v o h => by cases h; show s.nx.toNat < s.nx.succ.toNat; rw [K.toNat_succ]; omega)
    exact this.load1 (by omega) hx k
  · have := hP.ext e (fun a v o h => by cases h; show s.nx.toNat < s.nx.succ.toNat; rw [K.toNat_succ]; omega)
    obtain ⟨p', e1, P1⟩ := this.field 1 (by omega)
    have e2 : p' = .ptr s.nx 0 1 := by
      have := e1 (fun v => .fin v s)
      exact (A.fin.inj this).1.symm
    subst e2
    exact P1.load1 (by omega) hy k
/-- the first i rows -/
def Sub (s : S) (v u : V) (i : Nat) : Prop := Tab s u ∧ lenV u = i ∧ ∀ j, j < i * 2 → cellV s u j = cellV s v j
theorem Sub.ext {s s' : S} {v u : V} {i : Nat} (h : Sub s v u i) (hv : Tab s v) (e : Ext s s') : Sub s' v u i :=
  ⟨(h.1.ext e).1, h.2.1, fun j hj => by rw [(h.1.ext e).2.1, (hv.ext e).2.1]; exact h.2.2 j hj⟩
theorem Tab.sub {s : S} {v : V} (h : Tab s v) {i : Nat} (hi : i ≤ lenV v) {k : IntKind} : ∃ u, (∀ el c, xSlice el 2 v none (some (iv k i)) none s c = c u) ∧ Sub s v u i := by
  obtain ⟨u, h1, h2, h3, h4⟩ := h.1.slice (lo := none) (hi := some (iv k i)) (a := 0) (b := i) (.inl ⟨rfl, rfl⟩) (.inr ⟨k, rfl⟩) (by omega) hi
  have h4' : ∀ j, j < i * 2 → cellV s u j = cellV s v j := fun j hj => by
    have := h4 j (by omega)
    rwa [Nat.zero_mul, Nat.zero_add] at this
  refine ⟨u, h1, ⟨h2, by rw [h3]; have := h.2.1; omega, fun j hj => ?_⟩, by rw [h3]; omega, h4'⟩
  rw [h3] at hj
  rw [h4' _ (by omega), h4' _ (by omega)]
  exact h.2.2 j (by omega)
def ltValid (v : V) (s : S) : Nat → Lt
  | 32 => ⟨fun tm s' => ∃ i u T, i < lenV v ∧ Ext s s' ∧ gp 0 tm = v ∧ gp 8 tm = v ∧ gp 9 tm = iv .i64 (lenV v) ∧ gp 10 tm = iv .i64 i ∧ gp 240 tm = .bad ∧ Cv s' (gp 4 tm) (cellV s v (i * 2)) T ∧ gp 13 tm = u ∧ Sub s' v u i ∧ gp 14 tm = iv .i64 i ∧
      ∃ k : Nat, k ≤ i ∧ gp 15 tm = iv .i64 k ∧ ∀ j, j < k → fromV s v i ≠ fromV s v j,
    fun tm _ a => ∀ i : Nat, i < lenV v → gp 10 tm = iv .i64 i → LP 2 2 (.bool false) (∀ k, k < i → fromV s v i ≠ fromV s v k) (fun tm' s'' => Ext s s'' ∧ gp 0 tm' = v ∧ gp 8 tm' = v ∧ gp 9 tm' = iv .i64 (lenV v) ∧ gp 10 tm' = iv .i64 i) a⟩
  | _ => ⟨fun tm s' => Ext s s' ∧ gp 0 tm = v ∧ gp 8 tm = v ∧ gp 9 tm = iv .i64 (lenV v) ∧ gp 240 tm = .bad ∧ ∃ i : Nat, i ≤ lenV v ∧ gp 10 tm = iv .i64 i ∧ ∀ j, j < i → okRow (fromV s v) (toV s v) j,
    fun _ _ a => LP 0 2 (.bool false) (∀ i, i < lenV v → okRow (fromV s v) (toV s v) i) (fun _ s'' => Ext s s'') a⟩
theorem iv_nat_inj {k : IntKind} {a b : Nat} (h : iv k (a : Int) = iv k (b : Int)) : a = b := by have := iv_inj h; omega
theorem loopValid1 {v : V} {s : S} (hv : Tab s v) : ∀ tm s', (ltValid v s 32).pre tm s' → (ltValid v s 32).post tm s' (cValid_36.run (Rk Tryz.prog K (ltValid v s)) tm s') := by
  refine loop_k (L := ltValid v s) pcOk0.1 pcOk0.2 szValid_36 (fun tm _ => (toI (gp 14 tm)).toNat - (toI (gp 15 tm)).toNat) (fun tm s' a h1 h2 => by obtain ⟨i, _, _, hi, _, _, _, _, h10, _⟩ := h1; exact (h2 i hi h10).nb) ?_
  rintro tm s' ⟨i, u, T, hi, hE, h0, h8, h9, h10, h240, hC, h13, hU, h14, k, hk, h15, hj⟩ IH i' hi' h10'
  obtain rfl : i = i' := iv_nat_inj (h10.symm.trans h10')
  show LP _ _ _ _ _ (cValid_36.run _ tm s')
  have hEq := Rk_kept (L := ltValid v s) Equal_ok
  generalize Rk Tryz.prog _ _ = r at IH hEq ⊢
  have hv' := hv.ext hE
  by_cases hlt : k < i
  · have hw := wrap1 hlt (by have := hv.2.1; omega)
    have hlu : k < lenV u := by rw [hU.2.1]; exact hlt
    obtain ⟨p, q0, q1, hp, -, -, -, -, hL⟩ := hU.1.fields hlu
    have hx0 := hU.1.2.2 k hlu
    generalize hFk : cellV s' u (k * 2) = Fk at hL hx0
    generalize hTk : cellV s' u (k * 2 + 1) = Tk at hL hx0
    have hFk' : cellV s v (k * 2) = Fk := by rw [← hFk, hU.2.2 _ (by omega), hv'.2.1]
    have hEn : Ext s' (addB s' (.row [Fk, Tk] 2 34 false 0 0 0)) := ext_addB _ _
    have hst := store_new s' 34 2 [V.nil 1, V.nil 1] [Fk, Tk] rfl rfl
    have hD := cv_new s' 34 Fk Tk hx0.1.ne hx0.2.ne
    generalize hs1 : addB s' (.row [Fk, Tk] 2 34 false 0 0 0) = s1 at hEn hst hD
    obtain ⟨c0, c1, hc0, -, hcl⟩ := hC.ext hEn
    obtain ⟨d0, d1, hd0, -, hdl⟩ := hD
    have hcl := (hcl s1 (Ext.refl _)).1
    have hdl := (hdl s1 (Ext.refl _)).1
    have hIi := ((hv.2.2 i hi).1.ext (hE.trans hEn)).1
    have hIk := (hx0.1.ext hEn).1
    obtain ⟨w, t, he, hpost⟩ := hEq [cellV s v (i * 2), Fk] s1 ⟨_, _, rfl, hIi, hIk⟩
    obtain ⟨rfl, rfl⟩ := hpost _ _ rfl
    have hw1 : word t (cellV s v (i * 2)) = fromV s v i := (hv.2.2 i hi).1.word (hE.trans hEn)
    have hw2 : word t Fk = fromV s v k := by rw [← hFk']; exact (hv.2.2 k (by omega)).1.word (hE.trans hEn)
    rw [hw1, hw2] at he
    by_cases g : fromV s v i = fromV s v k
    · simp [g] at he
      simp [lpValid_36, allValid, gp_sp, h13, h14, h15, lss_ii, hp, hL, newRow_add, hst, hc0, hd0, hcl, hdl, he, nat_iv, hlt]
      exact .inr ⟨fun h => h k hlt g, _, _, rfl, by simp [gp_sp, h240], by simp [gp_sp], hE.trans hEn, by simp [gp_sp, h0], by simp [gp_sp, h8], by simp [gp_sp, h9], by simp [gp_sp, h10]⟩
    · simp [g] at he
      simp [lpValid_36, allValid, gp_sp, h13, h14, h15, lss_ii, add_ii, hw, hp, hL, newRow_add, hst, hc0, hd0, hcl, hdl, he, nat_iv, hlt]
      refine IH _ _ (mu_lt2 h14 h15 (by simp [gp_sp, h14]) (by simp [gp_sp]) hlt) ⟨i, u, T, hi, hE.trans hEn, ?_, ?_, ?_, ?_, ?_, ?_, ?_, hU.ext hv'.1 hEn, ?_, k + 1, hlt, ?_, fun j hjk => ?_⟩ i hi ?_
      · simp [gp_sp, h0]
      · simp [gp_sp, h8]
      · simp [gp_sp, h9]
      · simp [gp_sp, h10]
      · simp [gp_sp, h240]
      · simp [gp_sp]; exact hC.ext hEn
      · simp [gp_sp, h13]
      · simp [gp_sp, h14]
      · simp [gp_sp]
      · rcases Nat.lt_or_ge j k with h' | h'
        · exact hj j h'
        · rw [show j = k by omega]; exact g
      · simp [gp_sp, h10]
  · simp [lpValid_36, allValid, gp_sp, h14, h15, lss_ii, nat_iv, hlt]
    exact .inl ⟨fun j h => hj j (by omega), _, _, rfl, by simp [gp_sp, h240], hE, by simp [gp_sp, h0], by simp [gp_sp, h8], by simp [gp_sp, h9], by simp [gp_sp, h10]⟩

theorem loopValid0 {v : V} {s : S} (hv : Tab s v) : ∀ tm s', (ltValid v s 98).pre tm s' → (ltValid v s 98).post tm s' (cValid_14.run (Rk Tryz.prog K (ltValid v s)) tm s') := by
  refine loop_k (L := ltValid v s) pcOk0.1 pcOk0.2 szValid_14 (fun tm _ => lenV v - (toI (gp 10 tm)).toNat) (fun tm s' a h1 (h2 : LP _ _ _ _ _ _) => h2.nb) ?_
  rintro tm s' ⟨hE, h0, h8, h9, h240, i, hi, h10, hj⟩ IH
  show LP _ _ _ _ _ (cValid_14.run _ tm s')
  have hSy := Rk_kept (L := ltValid v s) Symbols_ok
  have hIn := loopValid1 hv
  generalize Rk Tryz.prog _ _ = r at IH hSy hIn ⊢
  have hv' := hv.ext hE
  by_cases hlt : i < lenV v
  · have hw := wrap1 hlt hv.2.1
    obtain ⟨p, q0, q1, hp, -, -, -, -, hL⟩ := hv'.1.fields hlt
    have hx := hv'.1.2.2 i hlt
    have hx0 := hv.2.2 i hlt
    rw [hv'.2.1, hv'.2.1] at hL hx
    have hF : fromV s v i = word s (cellV s v (i * 2)) := rfl
    have hT : toV s v i = word s (cellV s v (i * 2 + 1)) := rfl
    generalize hF0 : cellV s v (i * 2) = F at hL hx hx0 hF
    generalize cellV s v (i * 2 + 1) = T at hL hx hx0 hT
    have hEn : Ext s' (addB s' (.row [F, T] 2 34 false 0 0 0)) := ext_addB _ _
    have hst := store_new s' 34 2 [V.nil 1, V.nil 1] [F, T] rfl rfl
    have hD := cv_new s' 34 F T hx.1.ne hx.2.ne
    generalize hs1 : addB s' (.row [F, T] 2 34 false 0 0 0) = s1 at hEn hst hD
    have hE1 := hE.trans hEn
    have hI1 := (hx0.1.ext hE1).1
    have hI1' := (hx0.2.ext hE1).1
    have hR : okRow (fromV s v) (toV s v) i ↔ 1 ≤ lenV F ∧ lenV F ≤ 20 ∧ lenV T ≤ 20 ∧ okSym 500 (word s F) ∧ okSym 500 (word s T) ∧ ∀ k, k < i → fromV s v i ≠ fromV s v k := by
      unfold okRow; rw [hF, hT, word_len, word_len]
    obtain ⟨c0, c1, hc0, hc1, hcl⟩ := hD
    have hl1 := hcl s1 (Ext.refl _)
    by_cases g1 : lenV F < 1
    · have g1' : (lenV F : Int) < 1 := by omega
      simp [lpValid_14, allValid, gp_sp, h8, h9, h10, lss_ii, hp, hL, newRow_add, hst, hc0, hl1.1, hI1.1.len, nat_iv, hlt, g1']
      exact .inr ⟨fun h => by have := (hR.1 (h i hlt)).1; omega, _, _, rfl, by simp [gp_sp, h240], by simp [gp_sp], hE1⟩
    have g1' : ¬ (lenV F : Int) < 1 := by omega
    by_cases g2 : 20 < lenV F
    · have g2' : (20 : Int) < lenV F := by omega
      simp [lpValid_14, allValid, gp_sp, h8, h9, h10, lss_ii, gtr_ii, hp, hL, newRow_add, hst, hc0, hl1.1, hI1.1.len, nat_iv, hlt, g1', g2']
      exact .inr ⟨fun h => by have := (hR.1 (h i hlt)).2.1; omega, _, _, rfl, by simp [gp_sp, h240], by simp [gp_sp], hE1⟩
    have g2' : ¬ (20 : Int) < lenV F := by omega
    by_cases g3 : 20 < lenV T
    · have g3' : (20 : Int) < lenV T := by omega
      simp [lpValid_14, allValid, gp_sp, h8, h9, h10, lss_ii, gtr_ii, hp, hL, newRow_add, hst, hc0, hc1, hl1.1, hl1.2, hI1.1.len, hI1'.1.len, nat_iv, hlt, g1', g2', g3']
      exact .inr ⟨fun h => by have := (hR.1 (h i hlt)).2.2.1; omega, _, _, rfl, by simp [gp_sp, h240], by simp [gp_sp], hE1⟩
    have g3' : ¬ (20 : Int) < lenV T := by omega
    obtain ⟨w, s2, he1, hpost⟩ := hSy [F, iv .i64 500] s1 ⟨F, 500, rfl, hI1⟩
    obtain ⟨hE2, rfl⟩ := hpost _ _ rfl
    rw [hx0.1.word hE1] at he1
    by_cases g4 : okSym 500 (word s F)
    case neg =>
      simp only [g4, decide_false] at he1
      simp [lpValid_14, allValid, gp_sp, h8, h9, h10, lss_ii, gtr_ii, hp, hL, newRow_add, hst, hc0, hc1, hl1.1, hl1.2, hI1.1.len, hI1'.1.len, nat_iv, hlt, g1', g2', g3', he1]
      exact .inr ⟨fun h => g4 (hR.1 (h i hlt)).2.2.2.1, _, _, rfl, by simp [gp_sp, h240], by simp [gp_sp], hE1.trans hE2⟩
    simp only [g4, decide_true] at he1
    have hl2 := hcl s2 hE2
    obtain ⟨w, s3, he2, hpost⟩ := hSy [T, iv .i64 500] s2 ⟨T, 500, rfl, (hI1'.ext hE2).1⟩
    obtain ⟨hE3, rfl⟩ := hpost _ _ rfl
    rw [hx0.2.word (hE1.trans hE2)] at he2
    have hE3' := (hE1.trans hE2).trans hE3
    by_cases g5 : okSym 500 (word s T)
    case neg =>
      simp only [g5, decide_false] at he2
      simp [lpValid_14, allValid, gp_sp, h8, h9, h10, lss_ii, gtr_ii, hp, hL, newRow_add, hst, hc0, hc1, hl1.1, hl1.2, hl2.2, hI1.1.len, hI1'.1.len, nat_iv, hlt, g1', g2', g3', he1, he2]
      exact .inr ⟨fun h => g5 (hR.1 (h i hlt)).2.2.2.2.1, _, _, rfl, by simp [gp_sp, h240], by simp [gp_sp], hE3'⟩
    simp only [g5, decide_true] at he2
    have hv3 := hv.ext hE3'
    obtain ⟨u, hu, hU⟩ := Tab.sub hv3.1 (i := i) (by omega) (k := .i64)
    have hul : lenV u = i := hU.2.1
    simp [lpValid_14, allValid, gp_sp, h0, h8, h9, h10, lss_ii, gtr_ii, hp, hL, newRow_add, hst, hc0, hc1, hl1.1, hl1.2, hl2.2, hI1.1.len, hI1'.1.len, nat_iv, hlt, g1', g2', g3', he1, he2, hu, hU.1.1.len, hul]
    generalize hA : cValid_36.run r _ s3 = a
    have := (hA ▸ hIn _ _ ⟨i, u, T, hlt, hE3', by simp [gp_sp, h0], by simp [gp_sp, h8], by simp [gp_sp, h9], by simp [gp_sp, h10], by simp [gp_sp, h240], by simp [gp_sp]; rw [hF0]; exact (Cv.ext ⟨c0, c1, hc0, hc1, hcl⟩ (hE2.trans hE3)), by simp [gp_sp], hU, by simp [gp_sp], 0, by omega, by simp [gp_sp], fun _ h => by omega⟩) i hlt (by simp [gp_sp, h10])
    rcases this with ⟨hg, tm', s4, rfl, k1, k2, k3, k4, k5, k6⟩ | ⟨hg, tm', s4, rfl, k1, kr, k2, k3, k4, k5, k6⟩
    · simp [blockA_ext, gp_sp, allValid, k6, nat_iv, add_ii, hw]
      refine IH _ _ (mu_lt h10 (by simp [gp_sp]) hlt) ⟨k2, ?_, ?_, ?_, ?_, i + 1, by omega, ?_, fun j h => ?_⟩
      · simp [gp_sp, k3]
      · simp [gp_sp, k4]
      · simp [gp_sp, k5]
      · simp [gp_sp, k1]
      · simp [gp_sp]
      · rcases Nat.lt_or_ge j i with h' | h'
        · exact hj j h'
        · rw [show j = i by omega]; exact hR.2 ⟨by omega, by omega, by omega, g4, g5, hg⟩
    · simp
      exact .inr ⟨fun h => hg (hR.1 (h i hlt)).2.2.2.2.2, _, _, rfl, k1, kr, k2⟩
  · simp [lpValid_14, allValid, gp_sp, h9, h10, lss_ii, nat_iv, hlt]
    exact .inl ⟨fun j h => hj j (by omega), _, _, rfl, by simp [gp_sp, h240], hE⟩
open Classical in
theorem Valid_ok : Holds Tryz.prog K 10 := by
  rintro a s ⟨v, rfl, hv⟩
  suffices h : ∃ s', CallX Tryz.prog 10 [v] s (.bool (decide (okTab s v))) s' ∧ Ext s s' by
    obtain ⟨s', h1, h2⟩ := h
    exact ⟨_, s', h1, fun x' e => by cases e; exact ⟨h2, rfl⟩⟩
  have hL := loopValid0 hv
  by_cases g1 : lenV v < 1
  · have g1' : (lenV v : Int) < 1 := by omega
    rw [decide_eq_false (fun h : okTab s v => by have := h.1; omega)]
    refine ⟨s, fn_k (L := noL) ?_, Ext.refl _⟩
    generalize Rk Tryz.prog _ _ = r
    simp [allValid, gp_sp, hv.1.len, lss_ii, nat_iv, g1']
  have g1' : ¬ (lenV v : Int) < 1 := by omega
  by_cases g2 : 20 < lenV v
  · have g2' : (20 : Int) < lenV v := by omega
    rw [decide_eq_false (fun h : okTab s v => by have := h.2.1; omega)]
    refine ⟨s, fn_k (L := noL) ?_, Ext.refl _⟩
    generalize Rk Tryz.prog _ _ = r
    simp [allValid, gp_sp, hv.1.len, lss_ii, gtr_ii, nat_iv, g1', g2']
  have g2' : ¬ (20 : Int) < lenV v := by omega
  have hrun : ∃ s', (fnC pc0 10).run (Rk Tryz.prog K (ltValid v s)) [v] s = .ret (.bool (decide (okTab s v))) s' ∧ Ext s s' := by
    generalize Rk Tryz.prog _ _ = r at hL ⊢
    simp [allValid, gp_sp, hv.1.len, lss_ii, gtr_ii, nat_iv, g1', g2']
    generalize hA : cValid_14.run r _ s = a
    have := hA ▸ hL _ _ ⟨Ext.refl _, by simp [gp_sp], by simp [gp_sp], by simp [gp_sp], by simp [gp_sp], 0, by omega, by simp [gp_sp], fun _ h => by omega⟩
    rcases this with ⟨hg, tm', s', rfl, k1, k2⟩ | ⟨hg, tm', s', rfl, k1, k2, k3⟩
    · rw [decide_eq_true (show okTab s v from ⟨by omega, by omega, hg⟩)]
      exact ⟨s', by simp [blockA_ext, gp_sp, k1], k2⟩
    · rw [decide_eq_false (fun h : okTab s v => hg h.2.2)]
      exact ⟨s', by simp [k1, k2], k3⟩
  obtain ⟨s', h1, h2⟩ := hrun
  exact ⟨s', fn_k h1, h2⟩
end Go.Proofs.YtmplkbipoacmmaaGreatDoor.oev

namespace Go.Proofs.YtmplkbipoacmmaaGreatDoor.oev
open Go.Ev Go.RowKit
set_option maxRecDepth 100000
theorem okWord_iff {w : List Int} (h : w.length ≤ 20) : okWord w ↔ okSym 500 w := ⟨fun h => h.2, fun g => ⟨by omega, g⟩⟩
def ltRValid (v : V) (s : S) : Nat → Lt
  | 36 => ⟨fun tm s' => ∃ i : Nat, i < lenV v ∧ s' = s ∧ gp 0 tm = v ∧ gp 3 tm = iv .i64 i ∧ gp 240 tm = .bad ∧ ∃ k : Nat, k ≤ i ∧ gp 4 tm = iv .i64 k ∧ ∀ j, j < k → fromV s v i ≠ fromV s v j,
    fun tm _ a => ∀ i : Nat, i < lenV v → gp 3 tm = iv .i64 i → LP 2 2 (.bool false) (∀ k, k < i → fromV s v i ≠ fromV s v k) (fun tm' s'' => s'' = s ∧ gp 0 tm' = v ∧ gp 3 tm' = iv .i64 i) a⟩
  | _ => ⟨fun tm s' => s' = s ∧ gp 0 tm = v ∧ gp 240 tm = .bad ∧ ∃ i : Nat, i ≤ lenV v ∧ gp 3 tm = iv .i64 i ∧ ∀ j, j < i → okRow (fromV s v) (toV s v) j,
    fun _ _ a => LP 0 2 (.bool false) (∀ i, i < lenV v → okRow (fromV s v) (toV s v) i) (fun _ s'' => s'' = s) a⟩
theorem loopRValid1 {v : V} {s : S} (hv : Tab s v) : ∀ tm s', (ltRValid v s 36).pre tm s' → (ltRValid v s 36).post tm s' (cRValid_34.run (Rk Tryz.prog K (ltRValid v s)) tm s') := by
  refine loop_k (L := ltRValid v s) pcOk0.1 pcOk0.2 szRValid_34 (fun tm _ => (toI (gp 3 tm)).toNat - (toI (gp 4 tm)).toNat) (fun tm s' a h1 h2 => by obtain ⟨i, hi, _, _, h3, _⟩ := h1; exact (h2 i hi h3).nb) ?_
  rintro tm s' ⟨i, hi, rfl, h0, h3, h240, k, hk, h4, hj⟩ IH i' hi' h3'
  obtain rfl : i = i' := iv_nat_inj (h3.symm.trans h3')
  show LP _ _ _ _ _ (cRValid_34.run _ tm s')
  have hEq := Rk_kept (L := ltRValid v s') Compare_ok
  generalize Rk Tryz.prog _ _ = r at IH hEq ⊢
  by_cases hlt : k < i
  · have hw := wrap1 hlt (by have := hv.2.1; omega)
    obtain ⟨p, q0, q1, hp, hq0, -, hL, -, -⟩ := hv.fields hi
    obtain ⟨p', q0', q1', hp', hq0', -, hL', -, -⟩ := hv.fields (i := k) (by omega)
    obtain ⟨w, t, he, hpost⟩ := hEq [cellV s' v (i * 2), cellV s' v (k * 2)] s' ⟨_, _, rfl, (hv.2.2 i hi).1, (hv.2.2 k (by omega)).1⟩
    obtain ⟨rfl, z, rfl, hz⟩ := hpost _ _ rfl
    by_cases g : fromV t v i = fromV t v k
    · have hz0 : z = 0 := hz.2 g
      simp [lpRValid_34, allRValid, gp_sp, det_call, h0, h3, h4, lss_ii, eql_ii, hp, hp', hq0, hq0', hL, hL', he, nat_iv, hlt, hz0]
      exact .inr ⟨fun h => h k hlt g, _, _, rfl, by simp [gp_sp, h240], by simp [gp_sp], rfl, by simp [gp_sp, h0], by simp [gp_sp, h3]⟩
    · have hz0 : ¬ z = 0 := fun h => g (hz.1 h)
      simp [lpRValid_34, allRValid, gp_sp, det_call, h0, h3, h4, lss_ii, eql_ii, add_ii, hw, hp, hp', hq0, hq0', hL, hL', he, nat_iv, hlt, hz0]
      refine IH _ _ (mu_lt2 h3 h4 (by simp [gp_sp, h3]) (by simp [gp_sp]) hlt) ⟨i, hi, rfl, ?_, ?_, ?_, k + 1, hlt, ?_, fun j hjk => ?_⟩ i hi ?_
      · simp [gp_sp, h0]
      · simp [gp_sp, h3]
      · simp [gp_sp, h240]
      · simp [gp_sp]
      · rcases Nat.lt_or_ge j k with h' | h'
        · exact hj j h'
        · rw [show j = k by omega]; exact g
      · simp [gp_sp, h3]
  · simp [lpRValid_34, allRValid, gp_sp, h3, h4, lss_ii, nat_iv, hlt]
    exact .inl ⟨fun j h => hj j (by omega), _, _, rfl, by simp [gp_sp, h240], rfl, by simp [gp_sp, h0], by simp [gp_sp, h3]⟩
theorem loopRValid0 {v : V} {s : S} (hv : Tab s v) : ∀ tm s', (ltRValid v s 109).pre tm s' → (ltRValid v s 109).post tm s' (cRValid_14.run (Rk Tryz.prog K (ltRValid v s)) tm s') := by
  refine loop_k (L := ltRValid v s) pcOk0.1 pcOk0.2 szRValid_14 (fun tm _ => lenV v - (toI (gp 3 tm)).toNat) (fun tm s' a h1 (h2 : LP _ _ _ _ _ _) => h2.nb) ?_
  rintro tm s' ⟨rfl, h0, h240, i, hi, h3, hj⟩ IH
  show LP _ _ _ _ _ (cRValid_14.run _ tm s')
  have hSy := Rk_kept (L := ltRValid v s') RWord_ok
  have hIn := loopRValid1 hv
  generalize Rk Tryz.prog _ _ = r at IH hSy hIn ⊢
  by_cases hlt : i < lenV v
  · have hw := wrap1 hlt hv.2.1
    obtain ⟨p, q0, q1, hp, hq0, hq1, hL0, hL1, -⟩ := hv.fields hlt
    have hx := hv.2.2 i hlt
    have hF : fromV s' v i = word s' (cellV s' v (i * 2)) := rfl
    have hT : toV s' v i = word s' (cellV s' v (i * 2 + 1)) := rfl
    generalize cellV s' v (i * 2) = F at hL0 hx hF
    generalize cellV s' v (i * 2 + 1) = T at hL1 hx hT
    have hR : okRow (fromV s' v) (toV s' v) i ↔ 1 ≤ lenV F ∧ lenV F ≤ 20 ∧ lenV T ≤ 20 ∧ okSym 500 (word s' F) ∧ okSym 500 (word s' T) ∧ ∀ k, k < i → fromV s' v i ≠ fromV s' v k := by
      unfold okRow; rw [hF, hT, word_len, word_len]
    by_cases g1 : lenV F < 1
    · have g1' : (lenV F : Int) < 1 := by omega
      simp [lpRValid_14, allRValid, gp_sp, h0, h3, lss_ii, hv.1.len, hp, hq0, hL0, hx.1.1.len, nat_iv, hlt, g1']
      exact .inr ⟨fun h => by have := (hR.1 (h i hlt)).1; omega, _, _, rfl, by simp [gp_sp, h240], by simp [gp_sp], rfl⟩
    have g1' : ¬ (lenV F : Int) < 1 := by omega
    by_cases g2 : 20 < lenV F
    · have g2' : (20 : Int) < lenV F := by omega
      simp [lpRValid_14, allRValid, gp_sp, h0, h3, lss_ii, gtr_ii, hv.1.len, hp, hq0, hL0, hx.1.1.len, nat_iv, hlt, g1', g2']
      exact .inr ⟨fun h => by have := (hR.1 (h i hlt)).2.1; omega, _, _, rfl, by simp [gp_sp, h240], by simp [gp_sp], rfl⟩
    have g2' : ¬ (20 : Int) < lenV F := by omega
    by_cases g3 : 20 < lenV T
    · have g3' : (20 : Int) < lenV T := by omega
      simp [lpRValid_14, allRValid, gp_sp, h0, h3, lss_ii, gtr_ii, hv.1.len, hp, hq0, hq1, hL0, hL1, hx.1.1.len, hx.2.1.len, nat_iv, hlt, g1', g2', g3']
      exact .inr ⟨fun h => by have := (hR.1 (h i hlt)).2.2.1; omega, _, _, rfl, by simp [gp_sp, h240], by simp [gp_sp], rfl⟩
    have g3' : ¬ (20 : Int) < lenV T := by omega
    obtain ⟨w, s2, he1, hpost⟩ := hSy [F] s' ⟨F, rfl, hx.1⟩
    obtain ⟨rfl, rfl⟩ := hpost _ rfl
    obtain ⟨w, s2', he2, hpost⟩ := hSy [T] s2 ⟨T, rfl, hx.2⟩
    obtain ⟨rfl, rfl⟩ := hpost _ rfl
    rw [show okWord (word s2' F) = okSym 500 (word s2' F) from propext (okWord_iff (by rw [word_len]; omega))] at he1
    rw [show okWord (word s2' T) = okSym 500 (word s2' T) from propext (okWord_iff (by rw [word_len]; omega))] at he2
    by_cases g4 : okSym 500 (word s2' F)
    case neg =>
      simp only [g4, decide_false] at he1
      simp [lpRValid_14, allRValid, gp_sp, h0, h3, lss_ii, gtr_ii, hv.1.len, hp, hq0, hq1, hL0, hL1, hx.1.1.len, hx.2.1.len, nat_iv, hlt, g1', g2', g3', he1]
      exact .inr ⟨fun h => g4 (hR.1 (h i hlt)).2.2.2.1, _, _, rfl, by simp [gp_sp, h240], by simp [gp_sp], rfl⟩
    simp only [g4, decide_true] at he1
    by_cases g5 : okSym 500 (word s2' T)
    case neg =>
      simp only [g5, decide_false] at he2
      simp [lpRValid_14, allRValid, gp_sp, h0, h3, lss_ii, gtr_ii, hv.1.len, hp, hq0, hq1, hL0, hL1, hx.1.1.len, hx.2.1.len, nat_iv, hlt, g1', g2', g3', he1, he2]
      exact .inr ⟨fun h => g5 (hR.1 (h i hlt)).2.2.2.2.1, _, _, rfl, by simp [gp_sp, h240], by simp [gp_sp], rfl⟩
    simp only [g5, decide_true] at he2
    simp [lpRValid_14, allRValid, gp_sp, h0, h3, lss_ii, gtr_ii, hv.1.len, hp, hq0, hq1, hL0, hL1, hx.1.1.len, hx.2.1.len, nat_iv, hlt, g1', g2', g3', he1, he2]
    generalize hA : cRValid_34.run r _ s2' = a
    have := (hA ▸ hIn _ _ ⟨i, hlt, rfl, by simp [gp_sp, h0], by simp [gp_sp, h3], by simp [gp_sp, h240], 0, by omega, by simp [gp_sp], fun _ h => by omega⟩) i hlt (by simp [gp_sp, h3])
    rcases this with ⟨hg, tm', s4, rfl, k1, rfl, k3, k4⟩ | ⟨hg, tm', s4, rfl, k1, kr, rfl, k3, k4⟩
    · simp [blockA_ext, k4, add_ii, hw]
      refine IH _ _ (mu_lt h3 (by simp [gp_sp]) hlt) ⟨rfl, ?_, ?_, i + 1, by omega, ?_, fun j h => ?_⟩
      · simp [gp_sp, k3]
      · simp [gp_sp, k1]
      · simp [gp_sp]
      · rcases Nat.lt_or_ge j i with h' | h'
        · exact hj j h'
        · rw [show j = i by omega]; exact hR.2 ⟨by omega, by omega, by omega, g4, g5, hg⟩
    · simp
      exact .inr ⟨fun h => hg (hR.1 (h i hlt)).2.2.2.2.2, _, _, rfl, k1, kr, rfl⟩
  · simp [lpRValid_14, allRValid, gp_sp, h0, h3, hv.1.len, lss_ii, nat_iv, hlt]
    exact .inl ⟨fun j h => hj j (by omega), _, _, rfl, by simp [gp_sp, h240], rfl⟩
open Classical in
theorem RValid_ok : Holds Tryz.prog K 11 := by
  rintro a s ⟨v, rfl, hv⟩
  suffices h : CallX Tryz.prog 11 [v] s (.bool (decide (okTab s v))) s from ⟨_, _, h, fun x' e => by cases e; exact ⟨Ext.refl _, rfl⟩⟩
  have hL := loopRValid0 hv
  by_cases g1 : lenV v < 1
  · have g1' : (lenV v : Int) < 1 := by omega
    rw [decide_eq_false (fun h : okTab s v => by have := h.1; omega)]
    refine fn_k (L := noL) ?_
    generalize Rk Tryz.prog _ _ = r
    simp [allRValid, gp_sp, hv.1.len, lss_ii, nat_iv, g1']
  have g1' : ¬ (lenV v : Int) < 1 := by omega
  by_cases g2 : 20 < lenV v
  · have g2' : (20 : Int) < lenV v := by omega
    rw [decide_eq_false (fun h : okTab s v => by have := h.2.1; omega)]
    refine fn_k (L := noL) ?_
    generalize Rk Tryz.prog _ _ = r
    simp [allRValid, gp_sp, hv.1.len, lss_ii, gtr_ii, nat_iv, g1', g2']
  have g2' : ¬ (20 : Int) < lenV v := by omega
  refine fn_k (L := ltRValid v s) ?_
  generalize Rk Tryz.prog _ _ = r at hL ⊢
  simp [allRValid, gp_sp, hv.1.len, lss_ii, gtr_ii, nat_iv, g1', g2']
  generalize hA : cRValid_14.run r _ s = a
  have := hA ▸ hL _ _ ⟨rfl, by simp [gp_sp], by simp [gp_sp], 0, by omega, by simp [gp_sp], fun _ h => by omega⟩
  rcases this with ⟨hg, tm', s', rfl, k1, rfl⟩ | ⟨hg, tm', s', rfl, k1, k2, rfl⟩
  · rw [decide_eq_true (show okTab _ v from ⟨by omega, by omega, hg⟩)]
    simp [blockA_ext, gp_sp, k1]
  · rw [decide_eq_false (fun h : okTab _ v => hg h.2.2)]
    simp [k1, k2]
end Go.Proofs.YtmplkbipoacmmaaGreatDoor.oev

namespace Go.Proofs.YtmplkbipoacmmaaGreatDoor.oev
open Go.Ev Go.RowKit
set_option maxRecDepth 100000
theorem eql_bb (cst : Bool) (a b : Bool) (c : V → A) : xBin ⟨0, []⟩ cst .eql (.bool a) (.bool b) c = c (.bool (a == b)) := by
  cases a <;> cases b <;> rfl
/-- the law's function answers true -/
theorem LValid_ok (hEx : Holds Tryz.prog K 9) {s : S} {v : V} (hv : Tab s v) : ∃ s', CallX Tryz.prog 3 [v] s (.bool true) s' := by
  have hLa := Rk_kept (L := noL) Large_ok
  have hVa := Rk_kept (L := noL) Valid_ok
  have hRV := Rk_kept (L := noL) RValid_ok
  have hE := Rk_kept (L := noL) hEx
  suffices h : ∃ s', (fnC pc0 3).run (Rk Tryz.prog K noL) [v] s = .ret (.bool true) s' from ⟨_, fn_k h.choose_spec⟩
  generalize Rk Tryz.prog _ _ = r at hLa hVa hRV hE ⊢
  obtain ⟨w, s1, e1, hp⟩ := hLa [v] s ⟨v, rfl, hv⟩
  obtain ⟨rfl, rfl⟩ := hp _ rfl
  by_cases g : 30 < lenV v
  · simp only [g, decide_true] at e1
    obtain ⟨w, s2, e2, hp⟩ := hE [] s1 rfl
    obtain ⟨rfl, rfl⟩ := hp
    exact ⟨s2, by simp [allLValid, gp_sp, e1, e2]⟩
  · simp only [g, decide_false] at e1
    obtain ⟨w, s2, e2, hp⟩ := hVa [v] s1 ⟨v, rfl, hv⟩
    obtain ⟨hE1, rfl⟩ := hp _ rfl
    have hv2 := hv.ext hE1
    obtain ⟨w, s3, e3, hp⟩ := hRV [v] s2 ⟨v, rfl, hv2.1⟩
    obtain ⟨hE2, rfl⟩ := hp _ rfl
    have e : okTab s2 v ↔ okTab s1 v := by
      unfold okTab okRows
      refine and_congr_right fun _ => and_congr_right fun _ => forall_congr' fun i => ?_
      refine imp_congr_right fun hi => ?_
      unfold okRow
      rw [hv2.2.2.1 i hi, hv2.2.2.2 i hi]
      refine and_congr_right fun _ => and_congr_right fun _ => and_congr_right fun _ => and_congr_right fun _ => and_congr_right fun _ => forall_congr' fun k => imp_congr_right fun hk => ?_
      rw [hv2.2.2.1 k (by omega)]
    rw [show okTab s2 v = okTab s1 v from propext e] at e3
    obtain ⟨w, s4, e4, hp⟩ := hE [] s3 rfl
    obtain ⟨rfl, rfl⟩ := hp
    exact ⟨s4, by simp [allLValid, gp_sp, e1, e2, e3, e4, eql_bb]⟩
end Go.Proofs.YtmplkbipoacmmaaGreatDoor.oev

