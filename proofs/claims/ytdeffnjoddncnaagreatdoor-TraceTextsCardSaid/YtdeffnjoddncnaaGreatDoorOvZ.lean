/- The contracts of the functions that the statements reach, for all arguments. No statement of the seat stands here. Conditions: the arguments are as their types say. By an AI agent. -/
import Derived.Test.YtdeffnjoddncnaaGreatDoorOvU3
namespace Go.Proofs.YtdeffnjoddncnaaGreatDoor.oev
open Go.Ev Go.RowKit
set_option maxRecDepth 100000
section
variable (q : EK) (cst : Bool) (k : IntKind) (c : V → Go.Ev.A)
theorem mul_ii (a b : Int) : xBin q cst .mul (iv k a) (iv k b) c = c (iv k (k.wrap (a * b))) := by
 cases a <;> cases b <;> simp only [iv]
 ·rw [xBin_nn]; show natR k _ c = _; rw [natR_eq]; rfl
 ·rw [xBin_np]; exact wrapV_eq k _ c
 ·rw [xBin_pn]; exact wrapV_eq k _ c
 ·rw [xBin_pp]; exact wrapV_eq k _ c
theorem isZ_pos {b : Nat} (h : 0 < b) : isZ (b : Int) = false := by
 cases b with
 | zero => omega
 | succ n => rfl
theorem rem_ip (a : Int) {b : Nat} (hb : 0 < b) : xBin q cst .rem (iv k a) (iv k (b : Int)) c = c (iv k (a.tmod b)) := by
 cases a with
 | ofNat a => exact rem_nat q cst k hb c
 | negSucc a =>
  show xBin q cst .rem (.neg k a) (.nat k b) c = _
  rw [xBin_pn]
  show (Bool.rec (motive := fun _ => Go.Ev.A) (genI .rem k (.neg k a) (.nat k b) c) (.bad 36) (isZ (b : Int)) : Go.Ev.A) = _
  rw [isZ_pos hb]
  show ofI k (Int.tmod (toI (.neg k a)) (toI (.nat k b))) c = _
  rw [ofI_iv]; rfl
theorem quo_ip (a : Int) {b : Nat} (hb : 0 < b) : xBin q cst .quo (iv k a) (iv k (b : Int)) c = c (iv k (k.wrap (a.tdiv b))) := by
 cases a with
 | ofNat a =>
  show xBin q cst .quo (.nat k a) (.nat k b) c = _
  rw [xBin_nn]
  show (Bool.rec (motive := fun _ => Go.Ev.A) (natR k (Nat.div a b) c) (.bad 33) (Nat.beq b 0)) = _
  rw [show Nat.beq b 0 = false by cases b with | zero => omega | succ n => rfl]
  show natR k _ c = _
  rw [natR_eq]; rfl
 | negSucc a =>
  show xBin q cst .quo (.neg k a) (.nat k b) c = _
  rw [xBin_pn]
  show (Bool.rec (motive := fun _ => Go.Ev.A) (genI .quo k (.neg k a) (.nat k b) c) (.bad 35) (isZ (b : Int)) : Go.Ev.A) = _
  rw [isZ_pos hb]
  exact wrapV_eq k _ c
theorem max_nn (a b : Nat) : foldMin false [iv k (a : Int)] (iv k (b : Int)) c = c (iv k ((max b a : Nat) : Int)) := by
 show min2 false (.nat k b) (.nat k a) c = _
 show (Bool.rec (motive := fun _ => Go.Ev.A) (.bad 105) (min3 false (Nat.blt a b) (.nat k b) (.nat k a) c) (kbeq k k)) = _
 rw [kbeq_refl, blt_decide]
 by_cases h : a < b
 ·rw [decide_eq_true h, Nat.max_eq_left (by omega)]; rfl
 ·rw [decide_eq_false h, Nat.max_eq_right (by omega)]; rfl
end
def cont (b : Nat) : Prop := 128 ≤ b ∧ b < 192
instance (b : Nat) : Decidable (cont b) := inferInstanceAs (Decidable (_ ∧ _))
def ptN (b0 b1 b2 b3 : Nat) : Nat × Nat :=
 if b0 < 128 then (b0, 1)
 else if (192 ≤ b0 ∧ b0 < 224 ∧ cont b1) ∧ 128 ≤ (b0 - 192) * 64 + b1 - 128 then ((b0 - 192) * 64 + b1 - 128, 2)
 else if (224 ≤ b0 ∧ b0 < 240 ∧ cont b1 ∧ cont b2) ∧ 2048 ≤ (b0 - 224) * 4096 + (b1 - 128) * 64 + b2 - 128 ∧ ((b0 - 224) * 4096 + (b1 - 128) * 64 + b2 - 128 < 55296 ∨ 57343 < (b0 - 224) * 4096 + (b1 - 128) * 64 + b2 - 128) then ((b0 - 224) * 4096 + (b1 - 128) * 64 + b2 - 128, 3)
 else if (240 ≤ b0 ∧ b0 < 248 ∧ cont b1 ∧ cont b2 ∧ cont b3) ∧ 65536 ≤ (b0 - 240) * 262144 + (b1 - 128) * 4096 + (b2 - 128) * 64 + b3 - 128 ∧ (b0 - 240) * 262144 + (b1 - 128) * 4096 + (b2 - 128) * 64 + b3 - 128 ≤ 1114111 then ((b0 - 240) * 262144 + (b1 - 128) * 4096 + (b2 - 128) * 64 + b3 - 128, 4)
 else (0, 0)
def ptF (l : List Nat) (i : Nat) : Nat × Nat := if l.length ≤ i then (0, 0) else ptN (l.getD i 0) (l.getD (i + 1) 0) (l.getD (i + 2) 0) (l.getD (i + 3) 0)
def pcs : Nat → List Nat → List (List Nat)
 | 0, _ => []
 | n + 1, l => if l = [] then [] else l.take (max (ptF l 0).2 1) :: pcs n (l.drop (max (ptF l 0).2 1))
def okP (l : List Nat) : Bool := decide (0 < (ptF l 0).2 ∧ (ptF l 0).2 = l.length)
def PosS (l : List (List Nat)) (x : List Nat) (k : Int) : Prop := (k = -1 ∧ x ∉ l) ∨ ∃ j : Nat, k = j ∧ l[j]? = some x ∧ ∀ i, i < j → l[i]? ≠ some x
open Classical in
noncomputable def K2 : Nat → Ct
 | 147 => ⟨fun a _ => ∃ l, ∃ i : Nat, a = [.str l, iv .i64 (i : Int)] ∧ Byts l, fun a s v s' => ∀ l, ∀ i : Nat, a = [.str l, iv .i64 (i : Int)] → s' = s ∧ v = iv .i64 (l.getD i 0 : Nat)⟩
 | 148 => ⟨fun a _ => ∃ l, ∃ i : Nat, a = [.str l, iv .i64 (i : Int)] ∧ Byts l, fun a s v s' => ∀ l, ∀ i : Nat, a = [.str l, iv .i64 (i : Int)] → s' = s ∧ v = .bool (decide (cont (l.getD i 0)))⟩
 | 125 => ⟨fun a _ => ∃ l, ∃ i : Nat, a = [.str l, iv .i64 (i : Int)] ∧ Byts l ∧ i ≤ 1048576, fun a s v s' => ∀ l, ∀ i : Nat, a = [.str l, iv .i64 (i : Int)] → s' = s ∧ v = .ls 1 [iv .i64 ((ptF l i).1 : Nat), iv .i64 ((ptF l i).2 : Nat)]⟩
 | 87 => ⟨fun a _ => ∃ l, a = [.str l] ∧ Byts l ∧ l.length ≤ 16384, fun a s v s' => ∀ l, a = [.str l] → Ext s s' ∧ Gw 9 s s' v ((pcs l.length l).map V.str)⟩
 | 88 => ⟨fun a _ => ∃ l, a = [.str l] ∧ Byts l, fun a s v s' => ∀ l, a = [.str l] → s' = s ∧ v = .bool (okP l)⟩
 | 65 => ⟨fun a _ => ∃ l, a = [.str l] ∧ Byts l, fun a s v s' => ∀ l, a = [.str l] → Ext s s' ∧ ∃ y z, v = .ls 1 [y, z, iv .i64 (if 16384 < l.length then 2 else if okU l.length l = true then 0 else 3)]⟩
 | 50 => ⟨fun a _ => ∃ l, a = [.str l] ∧ Byts l, fun a s v s' => ∀ l, a = [.str l] → Ext s s' ∧ v = .bool (isNm l)⟩
 | 51 => ⟨fun a s => ∃ t l, a = [t, .str l] ∧ Strs s t, fun a s v s' => ∀ t l, a = [t, .str l] → s' = s ∧ ∃ k : Int, v = iv .i64 k ∧ PosS (names s t) l k⟩
 | 23 => ⟨fun a s => ∃ t, a = [t] ∧ Strs s t, fun a s v s' => ∀ t, a = [t] → Ext s s' ∧ v = .bool (decide (okT (names s t)))⟩
 | 52 => ⟨fun a s => ∃ t x, a = [t, x] ∧ Strs s t ∧ Ints s x, fun a s v s' => ∀ t x, a = [t, x] → s' = s ∧ v = .bool (decide (lenV x ≤ 200 ∧ inR s x (lenV t)))⟩
 | 24 => ⟨fun a s => ∃ t x, a = [t, x] ∧ Strs s t ∧ Ints s x, fun a s v s' => ∀ t x, a = [t, x] → Ext s s' ∧ v = if okX (names s t) (word s x) then .ls 1 [.str (txtW (names s t) (word s x)), iv .i64 0] else .ls 1 [.str [], iv .i64 1]⟩
 | 25 => ⟨fun a _ => ∃ z, a = [iv .i64 z] ∧ i64ok z, fun a s v s' => ∀ z, a = [iv .i64 z] → s' = s ∧ v = .str (itoa z)⟩
 | 8 => ⟨fun a s => ∃ v t, a = [v, t] ∧ Stp s v ∧ Strs s t ∧ ¬ manyP (stepsV s v), fun a s w s' => ∀ v t, a = [v, t] → Ext s s' ∧ w = textR (names s t) (stepsV s v)⟩
 | f => K f
theorem fn_k2 {L : Nat → Lt} {f : Nat} {a : List V} {s s' : S} {v : V} (h : (fnC pc0 f).run (Rk Tryz.prog K2 L) a s = .ret v s') : CallX Tryz.prog f a s v s' := fn_call pcOk0.1 pcOk0.2 (Rk_ok pc0 K2 L) h
theorem str_iv_inj {l l' : List Nat} {i i' : Nat} (e : [V.str l, iv .i64 (i : Int)] = [V.str l', iv .i64 (i' : Int)]) : l = l' ∧ i = i' := by
 simp only [List.cons.injEq, V.str.injEq, and_true] at e
 have := iv_inj e.2
 exact ⟨e.1, by omega⟩
theorem R1at_ok : Holds Tryz.prog K2 147 := by
 rintro a s ⟨l, i, rfl, hB⟩
 suffices h : (fnC pc0 147).run (Rk Tryz.prog K2 noL) [.str l, iv .i64 (i : Int)] s = .ret (iv .i64 (l.getD i 0 : Nat)) s from
  ⟨_, _, fn_k2 h, fun l' i' e => by obtain ⟨rfl, rfl⟩ := str_iv_inj e; exact ⟨rfl, rfl⟩⟩
 generalize Rk Tryz.prog _ _ = r
 by_cases h : i < l.length
 ·have hc : ∀ c : V → Go.Ev.A, xIntConv .i64 (iv .u8 (l.getD i 0 : Nat)) c = c (iv .i64 (l.getD i 0 : Nat)) := fun c => conv_nat .i64 .u8 (by have := hB.at_ i; show _ < 9223372036854775808; omega) c
  have hx := idxS_s l .i64 h
  generalize l.getD i 0 = b at *
  simp [allR1at, gp_sp, lenT_s, lss_ii, nat_iv, h, hx, hc]
 ·have e : l.getD i 0 = 0 := by rw [List.getD_eq_getElem?_getD, List.getElem?_eq_none (by omega)]; rfl
  rw [e]
  simp [allR1at, gp_sp, lenT_s, lss_ii, nat_iv, h]
theorem at_call {r : R} {s : S} (h : ∀ a s, (K2 147).pre a s → ∃ v s', r.call 147 a s = .ret v s' ∧ (K2 147).post a s v s') {l : List Nat} (hB : Byts l) (i : Nat) : r.call 147 [.str l, iv .i64 (i : Int)] s = .ret (iv .i64 (l.getD i 0 : Nat)) s := by
 obtain ⟨v, s', h1, h2⟩ := h _ s ⟨l, i, rfl, hB⟩
 obtain ⟨rfl, rfl⟩ := h2 _ _ rfl
 exact h1
theorem R1more_ok : Holds Tryz.prog K2 148 := by
 rintro a s ⟨l, i, rfl, hB⟩
 suffices h : (fnC pc0 148).run (Rk Tryz.prog K2 noL) [.str l, iv .i64 (i : Int)] s = .ret (.bool (decide (cont (l.getD i 0)))) s from
  ⟨_, _, fn_k2 h, fun l' i' e => by obtain ⟨rfl, rfl⟩ := str_iv_inj e; exact ⟨rfl, rfl⟩⟩
 have hA := Rk_kept (L := noL) R1at_ok
 generalize Rk Tryz.prog _ _ = r at hA ⊢
 have ha := at_call (s := s) hA hB i
 unfold cont
 generalize l.getD i 0 = b at *
 by_cases h1 : 128 ≤ b
 ·have h1' : (128 : Int) ≤ b := by omega
  by_cases h2 : b < 192
  ·have h2' : (b : Int) < 192 := by omega
   simp [allR1more, gp_sp, ha, geq_ii, lss_ii, nat_iv, h1, h2, h1', h2']
  ·have h2' : ¬ (b : Int) < 192 := by omega
   simp [allR1more, gp_sp, ha, geq_ii, lss_ii, nat_iv, h1, h2, h1', h2']
 ·have h1' : ¬ (128 : Int) ≤ b := by omega
  simp [allR1more, gp_sp, ha, geq_ii, nat_iv, h1, h1']
theorem ptN_1 {b0 b1 b2 b3 : Nat} (h : b0 < 128) : ptN b0 b1 b2 b3 = (b0, 1) := by unfold ptN; rw [if_pos h]
theorem ptN_2 {b0 b1 b2 b3 : Nat} (h0 : 192 ≤ b0) (h1 : b0 < 224) (hc : cont b1) (hp : 128 ≤ (b0 - 192) * 64 + b1 - 128) : ptN b0 b1 b2 b3 = ((b0 - 192) * 64 + b1 - 128, 2) := by
 unfold ptN; rw [if_neg (by omega), if_pos ⟨⟨h0, h1, hc⟩, hp⟩]
theorem ptN_2n {b0 b1 b2 b3 : Nat} (h0 : 192 ≤ b0) (h1 : b0 < 224) (hc : ¬ (cont b1 ∧ 128 ≤ (b0 - 192) * 64 + b1 - 128)) : ptN b0 b1 b2 b3 = (0, 0) := by
 unfold ptN; rw [if_neg (by omega), if_neg (fun h => hc ⟨h.1.2.2, h.2⟩), if_neg (fun h => by have := h.1.1; omega), if_neg (fun h => by have := h.1.1; omega)]
theorem ptN_3 {b0 b1 b2 b3 : Nat} (h0 : 224 ≤ b0) (h1 : b0 < 240) (hc : cont b1) (hd : cont b2) (hp : 2048 ≤ (b0 - 224) * 4096 + (b1 - 128) * 64 + b2 - 128 ∧ ((b0 - 224) * 4096 + (b1 - 128) * 64 + b2 - 128 < 55296 ∨ 57343 < (b0 - 224) * 4096 + (b1 - 128) * 64 + b2 - 128)) : ptN b0 b1 b2 b3 = ((b0 - 224) * 4096 + (b1 - 128) * 64 + b2 - 128, 3) := by
 unfold ptN; rw [if_neg (by omega), if_neg (fun h => by have := h.1.2.1; omega), if_pos ⟨⟨h0, h1, hc, hd⟩, hp⟩]
theorem ptN_3n {b0 b1 b2 b3 : Nat} (h0 : 224 ≤ b0) (h1 : b0 < 240) (hc : ¬ ((cont b1 ∧ cont b2) ∧ 2048 ≤ (b0 - 224) * 4096 + (b1 - 128) * 64 + b2 - 128 ∧ ((b0 - 224) * 4096 + (b1 - 128) * 64 + b2 - 128 < 55296 ∨ 57343 < (b0 - 224) * 4096 + (b1 - 128) * 64 + b2 - 128))) : ptN b0 b1 b2 b3 = (0, 0) := by
 unfold ptN; rw [if_neg (by omega), if_neg (fun h => by have := h.1.2.1; omega), if_neg (fun h => hc ⟨h.1.2.2, h.2⟩), if_neg (fun h => by have := h.1.1; omega)]
theorem ptN_4 {b0 b1 b2 b3 : Nat} (h0 : 240 ≤ b0) (h1 : b0 < 248) (hc : cont b1) (hd : cont b2) (he : cont b3) (hp : 65536 ≤ (b0 - 240) * 262144 + (b1 - 128) * 4096 + (b2 - 128) * 64 + b3 - 128 ∧ (b0 - 240) * 262144 + (b1 - 128) * 4096 + (b2 - 128) * 64 + b3 - 128 ≤ 1114111) : ptN b0 b1 b2 b3 = ((b0 - 240) * 262144 + (b1 - 128) * 4096 + (b2 - 128) * 64 + b3 - 128, 4) := by
 unfold ptN; rw [if_neg (by omega), if_neg (fun h => by have := h.1.2.1; omega), if_neg (fun h => by have := h.1.2.1; omega), if_pos ⟨⟨h0, h1, hc, hd, he⟩, hp⟩]
theorem ptN_4n {b0 b1 b2 b3 : Nat} (h0 : 240 ≤ b0) (h1 : b0 < 248) (hc : ¬ ((cont b1 ∧ cont b2 ∧ cont b3) ∧ 65536 ≤ (b0 - 240) * 262144 + (b1 - 128) * 4096 + (b2 - 128) * 64 + b3 - 128 ∧ (b0 - 240) * 262144 + (b1 - 128) * 4096 + (b2 - 128) * 64 + b3 - 128 ≤ 1114111)) : ptN b0 b1 b2 b3 = (0, 0) := by
 unfold ptN; rw [if_neg (by omega), if_neg (fun h => by have := h.1.2.1; omega), if_neg (fun h => by have := h.1.2.1; omega), if_neg (fun h => hc ⟨h.1.2.2, h.2⟩)]
theorem ptN_0 {b0 b1 b2 b3 : Nat} (h : (128 ≤ b0 ∧ b0 < 192) ∨ 248 ≤ b0) : ptN b0 b1 b2 b3 = (0, 0) := by
 unfold ptN; rw [if_neg (by omega), if_neg (fun h => by have := h.1; omega), if_neg (fun h => by have := h.1; omega), if_neg (fun h => by have := h.1; omega)]
theorem R1Point_ok : Holds Tryz.prog K2 125 := by
 rintro a s ⟨l, i, rfl, hB, hi⟩
 suffices h : (fnC pc0 125).run (Rk Tryz.prog K2 noL) [.str l, iv .i64 (i : Int)] s = .ret (.ls 1 [iv .i64 ((ptF l i).1 : Nat), iv .i64 ((ptF l i).2 : Nat)]) s from
  ⟨_, _, fn_k2 h, fun l' i' e => by obtain ⟨rfl, rfl⟩ := str_iv_inj e; exact ⟨rfl, rfl⟩⟩
 have hA := Rk_kept (L := noL) R1at_ok
 have hM := Rk_kept (L := noL) R1more_ok
 generalize Rk Tryz.prog _ _ = r at hA hM ⊢
 have at_ : ∀ j : Nat, r.call 147 [.str l, iv .i64 (j : Int)] s = .ret (iv .i64 (l.getD j 0 : Nat)) s := fun j => at_call hA hB j
 have more_ : ∀ j : Nat, r.call 148 [.str l, iv .i64 (j : Int)] s = .ret (.bool (decide (cont (l.getD j 0)))) s := fun j => by
  obtain ⟨v, s', h1, h2⟩ := hM _ s ⟨l, j, rfl, hB⟩
  obtain ⟨rfl, rfl⟩ := h2 _ _ rfl
  exact h1
 have a0 := at_ i
 have a1 := at_ (i + 1)
 have a2 := at_ (i + 2)
 have a3 := at_ (i + 3)
 have m1 := more_ (i + 1)
 have m2 := more_ (i + 2)
 have m3 := more_ (i + 3)
 have l0 := hB.at_ i
 have l1 := hB.at_ (i + 1)
 have l2 := hB.at_ (i + 2)
 have l3 := hB.at_ (i + 3)
 clear at_ more_ hA hM
 unfold ptF
 generalize l.getD i 0 = b0 at *
 generalize l.getD (i + 1) 0 = b1 at *
 generalize l.getD (i + 2) 0 = b2 at *
 generalize l.getD (i + 3) 0 = b3 at *
 rw [show (((i + 1 : Nat) : Nat) : Int) = (i : Int) + 1 by omega] at a1 m1
 rw [show (((i + 2 : Nat) : Nat) : Int) = (i : Int) + 2 by omega] at a2 m2
 rw [show (((i + 3 : Nat) : Nat) : Int) = (i : Int) + 3 by omega] at a3 m3
 have w1 : IntKind.i64.wrap ((i : Int) + 1) = (i : Int) + 1 := wrap64 (by omega) (by omega)
 have w2 : IntKind.i64.wrap ((i : Int) + 2) = (i : Int) + 2 := wrap64 (by omega) (by omega)
 have w3 : IntKind.i64.wrap ((i : Int) + 3) = (i : Int) + 3 := wrap64 (by omega) (by omega)
 by_cases h : l.length ≤ i
 ·have h' : (l.length : Int) ≤ i := by omega
  rw [if_pos h]
  simp [allR1Point, gp_sp, a0, lenT_s, geq_ii, nat_iv, h']
 have h' : ¬ (l.length : Int) ≤ i := by omega
 rw [if_neg h]
 by_cases g1 : b0 < 128
 ·have g1' : (b0 : Int) < 128 := by omega
  rw [ptN_1 g1]
  simp [allR1Point, gp_sp, a0, lenT_s, geq_ii, lss_ii, nat_iv, h', g1']
 have g1' : ¬ (b0 : Int) < 128 := by omega
 by_cases g2 : b0 < 192
 ·have e1 : ¬ (192 : Int) ≤ b0 := by omega
  have e2 : ¬ (224 : Int) ≤ b0 := by omega
  have e3 : ¬ (240 : Int) ≤ b0 := by omega
  rw [ptN_0 (.inl ⟨by omega, g2⟩)]
  simp [allR1Point, gp_sp, a0, lenT_s, geq_ii, lss_ii, nat_iv, h', g1', e1, e2, e3]
 by_cases g3 : b0 < 224
 ·have e1 : (192 : Int) ≤ b0 := by omega
  have e1' : (b0 : Int) < 224 := by omega
  have e2 : ¬ (224 : Int) ≤ b0 := by omega
  have e3 : ¬ (240 : Int) ≤ b0 := by omega
  by_cases c1 : cont b1
  ·have c1' := c1
   unfold cont at c1'
   have q1 : IntKind.i64.wrap ((b0 : Int) - 192) = (b0 : Int) - 192 := wrap64 (by omega) (by omega)
   have q2 : IntKind.i64.wrap (((b0 : Int) - 192) * 64) = ((b0 : Int) - 192) * 64 := wrap64 (by omega) (by omega)
   have q3 : IntKind.i64.wrap (((b0 : Int) - 192) * 64 + b1) = ((b0 : Int) - 192) * 64 + b1 := wrap64 (by omega) (by omega)
   have q4 : IntKind.i64.wrap (((b0 : Int) - 192) * 64 + b1 - 128) = ((b0 : Int) - 192) * 64 + b1 - 128 := wrap64 (by omega) (by omega)
   by_cases g : 128 ≤ (b0 - 192) * 64 + b1 - 128
   ·have g' : (128 : Int) ≤ ((b0 : Int) - 192) * 64 + b1 - 128 := by omega
    rw [ptN_2 (by omega) g3 c1 g, show (((b0 - 192) * 64 + b1 - 128 : Nat) : Int) = ((b0 : Int) - 192) * 64 + b1 - 128 by omega]
    simp [allR1Point, gp_sp, a0, a1, m1, lenT_s, geq_ii, lss_ii, add_ii, sub_ii, mul_ii, nat_iv, h', g1', e1, e1', w1, c1, q1, q2, q3, q4, g']
   ·have g' : ¬ (128 : Int) ≤ ((b0 : Int) - 192) * 64 + b1 - 128 := by omega
    rw [ptN_2n (by omega) g3 (fun h => g h.2)]
    simp [allR1Point, gp_sp, a0, a1, m1, lenT_s, geq_ii, lss_ii, add_ii, sub_ii, mul_ii, nat_iv, h', g1', e1, e1', e2, e3, w1, c1, q1, q2, q3, q4, g']
  ·rw [ptN_2n (by omega) g3 (fun h => c1 h.1)]
   simp [allR1Point, gp_sp, a0, m1, lenT_s, geq_ii, lss_ii, add_ii, nat_iv, h', g1', e1, e1', e2, e3, w1, c1]
 have e1 : (192 : Int) ≤ b0 := by omega
 have e1' : ¬ (b0 : Int) < 224 := by omega
 have e2 : (224 : Int) ≤ b0 := by omega
 by_cases g4 : b0 < 240
 ·have e2' : (b0 : Int) < 240 := by omega
  have e3 : ¬ (240 : Int) ≤ b0 := by omega
  by_cases c1 : cont b1
  ·by_cases c2 : cont b2
   ·have c1' := c1
    have c2' := c2
    unfold cont at c1' c2'
    have q1 : IntKind.i64.wrap ((b0 : Int) - 224) = (b0 : Int) - 224 := wrap64 (by omega) (by omega)
    have q2 : IntKind.i64.wrap (((b0 : Int) - 224) * 4096) = ((b0 : Int) - 224) * 4096 := wrap64 (by omega) (by omega)
    have q3 : IntKind.i64.wrap ((b1 : Int) - 128) = (b1 : Int) - 128 := wrap64 (by omega) (by omega)
    have q4 : IntKind.i64.wrap (((b1 : Int) - 128) * 64) = ((b1 : Int) - 128) * 64 := wrap64 (by omega) (by omega)
    have q5 : IntKind.i64.wrap (((b0 : Int) - 224) * 4096 + ((b1 : Int) - 128) * 64) = ((b0 : Int) - 224) * 4096 + ((b1 : Int) - 128) * 64 := wrap64 (by omega) (by omega)
    have q6 : IntKind.i64.wrap (((b0 : Int) - 224) * 4096 + ((b1 : Int) - 128) * 64 + b2) = ((b0 : Int) - 224) * 4096 + ((b1 : Int) - 128) * 64 + b2 := wrap64 (by omega) (by omega)
    have q7 : IntKind.i64.wrap (((b0 : Int) - 224) * 4096 + ((b1 : Int) - 128) * 64 + b2 - 128) = ((b0 : Int) - 224) * 4096 + ((b1 : Int) - 128) * 64 + b2 - 128 := wrap64 (by omega) (by omega)
    have hp : (((b0 - 224) * 4096 + (b1 - 128) * 64 + b2 - 128 : Nat) : Int) = ((b0 : Int) - 224) * 4096 + ((b1 : Int) - 128) * 64 + b2 - 128 := by omega
    generalize hpp : (b0 - 224) * 4096 + (b1 - 128) * 64 + b2 - 128 = p at *
    replace q7 := q7.trans hp.symm
    by_cases g : 2048 ≤ p
    ·have g' : (2048 : Int) ≤ p := by omega
     by_cases k : p < 55296
     ·have k' : (p : Int) < 55296 := by omega
      rw [ptN_3 (by omega) g4 c1 c2 (by rw [hpp]; exact ⟨g, .inl k⟩), hpp]
      simp [allR1Point, gp_sp, a0, a1, a2, m1, m2, lenT_s, geq_ii, lss_ii, add_ii, sub_ii, mul_ii, nat_iv, h', g1', e1, e1', e2, e2', w1, w2, c1, c2, q1, q2, q3, q4, q5, q6, q7, g', k']
     ·have k' : ¬ (p : Int) < 55296 := by omega
      by_cases j : 57343 < p
      ·have j' : (57343 : Int) < p := by omega
       rw [ptN_3 (by omega) g4 c1 c2 (by rw [hpp]; exact ⟨g, .inr j⟩), hpp]
       simp [allR1Point, gp_sp, a0, a1, a2, m1, m2, lenT_s, geq_ii, lss_ii, gtr_ii, add_ii, sub_ii, mul_ii, nat_iv, h', g1', e1, e1', e2, e2', w1, w2, c1, c2, q1, q2, q3, q4, q5, q6, q7, g', k', j']
      ·have j' : ¬ (57343 : Int) < p := by omega
       rw [ptN_3n (by omega) g4 (by rw [hpp]; exact fun h => by omega)]
       simp [allR1Point, gp_sp, a0, a1, a2, m1, m2, lenT_s, geq_ii, lss_ii, gtr_ii, add_ii, sub_ii, mul_ii, nat_iv, h', g1', e1, e1', e2, e2', e3, w1, w2, c1, c2, q1, q2, q3, q4, q5, q6, q7, g', k', j']
    ·have g' : ¬ (2048 : Int) ≤ p := by omega
     rw [ptN_3n (by omega) g4 (by rw [hpp]; exact fun h => by omega)]
     simp [allR1Point, gp_sp, a0, a1, a2, m1, m2, lenT_s, geq_ii, lss_ii, add_ii, sub_ii, mul_ii, nat_iv, h', g1', e1, e1', e2, e2', e3, w1, w2, c1, c2, q1, q2, q3, q4, q5, q6, q7, g']
   ·rw [ptN_3n (by omega) g4 (fun h => c2 h.1.2)]
    simp [allR1Point, gp_sp, a0, m1, m2, lenT_s, geq_ii, lss_ii, add_ii, nat_iv, h', g1', e1, e1', e2, e2', e3, w1, w2, c1, c2]
  ·rw [ptN_3n (by omega) g4 (fun h => c1 h.1.1)]
   simp [allR1Point, gp_sp, a0, m1, lenT_s, geq_ii, lss_ii, add_ii, nat_iv, h', g1', e1, e1', e2, e2', e3, w1, c1]
 have e2' : ¬ (b0 : Int) < 240 := by omega
 have e3 : (240 : Int) ≤ b0 := by omega
 by_cases g5 : b0 < 248
 ·have e3' : (b0 : Int) < 248 := by omega
  by_cases c1 : cont b1
  ·by_cases c2 : cont b2
   ·by_cases c3 : cont b3
    ·have c1' := c1
     have c2' := c2
     have c3' := c3
     unfold cont at c1' c2' c3'
     have q1 : IntKind.i64.wrap ((b0 : Int) - 240) = (b0 : Int) - 240 := wrap64 (by omega) (by omega)
     have q2 : IntKind.i64.wrap (((b0 : Int) - 240) * 262144) = ((b0 : Int) - 240) * 262144 := wrap64 (by omega) (by omega)
     have q3 : IntKind.i64.wrap ((b1 : Int) - 128) = (b1 : Int) - 128 := wrap64 (by omega) (by omega)
     have q4 : IntKind.i64.wrap (((b1 : Int) - 128) * 4096) = ((b1 : Int) - 128) * 4096 := wrap64 (by omega) (by omega)
     have q5 : IntKind.i64.wrap (((b0 : Int) - 240) * 262144 + ((b1 : Int) - 128) * 4096) = ((b0 : Int) - 240) * 262144 + ((b1 : Int) - 128) * 4096 := wrap64 (by omega) (by omega)
     have q3' : IntKind.i64.wrap ((b2 : Int) - 128) = (b2 : Int) - 128 := wrap64 (by omega) (by omega)
     have q4' : IntKind.i64.wrap (((b2 : Int) - 128) * 64) = ((b2 : Int) - 128) * 64 := wrap64 (by omega) (by omega)
     have q5' : IntKind.i64.wrap (((b0 : Int) - 240) * 262144 + ((b1 : Int) - 128) * 4096 + ((b2 : Int) - 128) * 64) = ((b0 : Int) - 240) * 262144 + ((b1 : Int) - 128) * 4096 + ((b2 : Int) - 128) * 64 := wrap64 (by omega) (by omega)
     have q6 : IntKind.i64.wrap (((b0 : Int) - 240) * 262144 + ((b1 : Int) - 128) * 4096 + ((b2 : Int) - 128) * 64 + b3) = ((b0 : Int) - 240) * 262144 + ((b1 : Int) - 128) * 4096 + ((b2 : Int) - 128) * 64 + b3 := wrap64 (by omega) (by omega)
     have q7 : IntKind.i64.wrap (((b0 : Int) - 240) * 262144 + ((b1 : Int) - 128) * 4096 + ((b2 : Int) - 128) * 64 + b3 - 128) = ((b0 : Int) - 240) * 262144 + ((b1 : Int) - 128) * 4096 + ((b2 : Int) - 128) * 64 + b3 - 128 := wrap64 (by omega) (by omega)
     have hp : (((b0 - 240) * 262144 + (b1 - 128) * 4096 + (b2 - 128) * 64 + b3 - 128 : Nat) : Int) = ((b0 : Int) - 240) * 262144 + ((b1 : Int) - 128) * 4096 + ((b2 : Int) - 128) * 64 + b3 - 128 := by omega
     generalize hpp : (b0 - 240) * 262144 + (b1 - 128) * 4096 + (b2 - 128) * 64 + b3 - 128 = p at *
     replace q7 := q7.trans hp.symm
     by_cases g : 65536 ≤ p
     ·have g' : (65536 : Int) ≤ p := by omega
      by_cases k : p ≤ 1114111
      ·have k' : (p : Int) ≤ 1114111 := by omega
       rw [ptN_4 (by omega) g5 c1 c2 c3 (by rw [hpp]; exact ⟨g, k⟩), hpp]
       simp [allR1Point, gp_sp, a0, a1, a2, a3, m1, m2, m3, lenT_s, geq_ii, leq_ii, lss_ii, add_ii, sub_ii, mul_ii, nat_iv, h', g1', e1, e1', e2, e2', e3, e3', w1, w2, w3, c1, c2, c3, q1, q2, q3, q4, q5, q3', q4', q5', q6, q7, g', k']
      ·have k' : ¬ (p : Int) ≤ 1114111 := by omega
       rw [ptN_4n (by omega) g5 (by rw [hpp]; exact fun h => by omega)]
       simp [allR1Point, gp_sp, a0, a1, a2, a3, m1, m2, m3, lenT_s, geq_ii, leq_ii, lss_ii, add_ii, sub_ii, mul_ii, nat_iv, h', g1', e1, e1', e2, e2', e3, e3', w1, w2, w3, c1, c2, c3, q1, q2, q3, q4, q5, q3', q4', q5', q6, q7, g', k']
     ·have g' : ¬ (65536 : Int) ≤ p := by omega
      rw [ptN_4n (by omega) g5 (by rw [hpp]; exact fun h => by omega)]
      simp [allR1Point, gp_sp, a0, a1, a2, a3, m1, m2, m3, lenT_s, geq_ii, lss_ii, add_ii, sub_ii, mul_ii, nat_iv, h', g1', e1, e1', e2, e2', e3, e3', w1, w2, w3, c1, c2, c3, q1, q2, q3, q4, q5, q3', q4', q5', q6, q7, g']
    ·rw [ptN_4n (by omega) g5 (fun h => c3 h.1.2.2)]
     simp [allR1Point, gp_sp, a0, m1, m2, m3, lenT_s, geq_ii, lss_ii, add_ii, nat_iv, h', g1', e1, e1', e2, e2', e3, e3', w1, w2, w3, c1, c2, c3]
   ·rw [ptN_4n (by omega) g5 (fun h => c2 h.1.2.1)]
    simp [allR1Point, gp_sp, a0, m1, m2, lenT_s, geq_ii, lss_ii, add_ii, nat_iv, h', g1', e1, e1', e2, e2', e3, e3', w1, w2, c1, c2]
  ·rw [ptN_4n (by omega) g5 (fun h => c1 h.1.1)]
   simp [allR1Point, gp_sp, a0, m1, lenT_s, geq_ii, lss_ii, add_ii, nat_iv, h', g1', e1, e1', e2, e2', e3, e3', w1, c1]
 ·have e3' : ¬ (b0 : Int) < 248 := by omega
  rw [ptN_0 (.inr (by omega))]
  simp [allR1Point, gp_sp, a0, lenT_s, geq_ii, lss_ii, nat_iv, h', g1', e1, e1', e2, e2', e3, e3']
theorem pt_dc {b0 b1 b2 b3 n : Nat} (hn : 0 < n) (h0 : b0 < 256) (h1 : b1 < 256) (h2 : b2 < 256) (h3 : b3 < 256) (z1 : n ≤ 1 → b1 = 0) (z2 : n ≤ 2 → b2 = 0) (z3 : n ≤ 3 → b3 = 0) :
  ((ptN b0 b1 b2 b3).2 = 0 ↔ ((dcN b0 b1 b2 b3 n).1 = 65533 ∧ (dcN b0 b1 b2 b3 n).2 ≤ 1)) ∧ max (ptN b0 b1 b2 b3).2 1 = (dcN b0 b1 b2 b3 n).2 := by
 by_cases g1 : b0 < 128
 ·rw [ptN_1 g1]; unfold dcN; rw [if_pos g1]; simp; omega
 by_cases g2 : b0 < 192
 ·rw [ptN_0 (.inl ⟨by omega, g2⟩)]; unfold dcN; rw [if_neg g1, if_neg (by omega), if_neg (by omega), if_neg (by omega)]; simp
 by_cases g3 : b0 < 224
 ·by_cases c : cont b1 ∧ 128 ≤ (b0 - 192) * 64 + b1 - 128
  ·rw [ptN_2 (by omega) g3 c.1 c.2]
   obtain ⟨⟨c1, c2⟩, c3⟩ := c
   unfold dcN; rw [if_neg g1, if_pos (by omega), if_pos (by omega)]; simp
  ·rw [ptN_2n (by omega) g3 c]
   unfold cont at c
   unfold dcN; rw [if_neg g1]
   split
   ·rw [if_neg (by omega)]; simp
   ·rw [if_neg (by omega), if_neg (by omega)]; simp
 by_cases g4 : b0 < 240
 ·by_cases c : (cont b1 ∧ cont b2) ∧ 2048 ≤ (b0 - 224) * 4096 + (b1 - 128) * 64 + b2 - 128 ∧ ((b0 - 224) * 4096 + (b1 - 128) * 64 + b2 - 128 < 55296 ∨ 57343 < (b0 - 224) * 4096 + (b1 - 128) * 64 + b2 - 128)
  ·rw [ptN_3 (by omega) g4 c.1.1 c.1.2 c.2]
   obtain ⟨⟨⟨c1, c2⟩, ⟨c3, c4⟩⟩, c5⟩ := c
   unfold dcN; rw [if_neg g1, if_neg (by omega), if_pos (by omega), if_pos (by omega)]; simp
  ·rw [ptN_3n (by omega) g4 c]
   unfold cont at c
   unfold dcN; rw [if_neg g1, if_neg (by omega)]
   split
   ·rw [if_neg (by omega)]; simp
   ·rw [if_neg (by omega)]; simp
 by_cases g5 : b0 < 248
 ·by_cases c : (cont b1 ∧ cont b2 ∧ cont b3) ∧ 65536 ≤ (b0 - 240) * 262144 + (b1 - 128) * 4096 + (b2 - 128) * 64 + b3 - 128 ∧ (b0 - 240) * 262144 + (b1 - 128) * 4096 + (b2 - 128) * 64 + b3 - 128 ≤ 1114111
  ·rw [ptN_4 (by omega) g5 c.1.1 c.1.2.1 c.1.2.2 c.2]
   obtain ⟨⟨⟨c1, c2⟩, ⟨c3, c4⟩, ⟨c6, c7⟩⟩, c5⟩ := c
   unfold dcN; rw [if_neg g1, if_neg (by omega), if_neg (by omega), if_pos (by omega), if_pos (by omega)]; simp
  ·rw [ptN_4n (by omega) g5 c]
   unfold cont at c
   unfold dcN; rw [if_neg g1, if_neg (by omega), if_neg (by omega)]
   split
   ·rw [if_neg (by omega)]; simp
   ·simp
 ·rw [ptN_0 (.inr (by omega))]; unfold dcN; rw [if_neg g1, if_neg (by omega), if_neg (by omega), if_neg (by omega)]; simp
theorem getD_out {l : List Nat} {i : Nat} (h : l.length ≤ i) : l.getD i 0 = 0 := by rw [List.getD_eq_getElem?_getD, List.getElem?_eq_none h]; rfl
theorem pt_dcL {l : List Nat} (hl : l ≠ []) (hB : Byts l) : ((ptF l 0).2 = 0 ↔ ((dcL l).1 = 65533 ∧ (dcL l).2 ≤ 1)) ∧ max (ptF l 0).2 1 = (dcL l).2 := by
 have hn : 0 < l.length := List.length_pos_iff.2 hl
 unfold ptF
 rw [if_neg (by omega), dcL_N]
 exact pt_dc hn (hB.at_ _) (hB.at_ _) (hB.at_ _) (hB.at_ _) (fun h => getD_out (by omega)) (fun h => getD_out (by omega)) (fun h => getD_out (by omega))
theorem pt_le {b0 b1 b2 b3 n : Nat} (hn : 0 < n) (z1 : n ≤ 1 → b1 = 0) (z2 : n ≤ 2 → b2 = 0) (z3 : n ≤ 3 → b3 = 0) : (ptN b0 b1 b2 b3).2 ≤ n := by
 unfold ptN cont
 (repeat' split) <;> dsimp only <;> omega
theorem pt_cut {b0 b1 b2 b3 c1 c2 c3 : Nat} (n : Nat) (hn : n = max (ptN b0 b1 b2 b3).2 1) (z1 : c1 = if 1 < n then b1 else 0) (z2 : c2 = if 2 < n then b2 else 0) (z3 : c3 = if 3 < n then b3 else 0) (h0 : b0 < 256) : (ptN b0 c1 c2 c3).2 = (ptN b0 b1 b2 b3).2 := by
 by_cases g1 : b0 < 128
 ·rw [ptN_1 g1, ptN_1 g1]
 by_cases g2 : b0 < 192
 ·rw [ptN_0 (.inl ⟨by omega, g2⟩), ptN_0 (.inl ⟨by omega, g2⟩)]
 by_cases g3 : b0 < 224
 ·by_cases c : cont b1 ∧ 128 ≤ (b0 - 192) * 64 + b1 - 128
  ·rw [ptN_2 (by omega) g3 c.1 c.2] at hn ⊢
   have : n = 2 := by rw [hn]; rfl
   subst this
   have : c1 = b1 := z1
   subst this
   rw [ptN_2 (by omega) g3 c.1 c.2]
  ·rw [ptN_2n (by omega) g3 c] at hn ⊢
   have : n = 1 := by rw [hn]; rfl
   subst this
   have : c1 = 0 := z1
   subst this
   rw [ptN_2n (by omega) g3 (fun h => by have := h.1.1; omega)]
 by_cases g4 : b0 < 240
 ·by_cases c : (cont b1 ∧ cont b2) ∧ 2048 ≤ (b0 - 224) * 4096 + (b1 - 128) * 64 + b2 - 128 ∧ ((b0 - 224) * 4096 + (b1 - 128) * 64 + b2 - 128 < 55296 ∨ 57343 < (b0 - 224) * 4096 + (b1 - 128) * 64 + b2 - 128)
  ·rw [ptN_3 (by omega) g4 c.1.1 c.1.2 c.2] at hn ⊢
   have : n = 3 := by rw [hn]; rfl
   subst this
   have : c1 = b1 := z1
   subst this
   have : c2 = b2 := z2
   subst this
   rw [ptN_3 (by omega) g4 c.1.1 c.1.2 c.2]
  ·rw [ptN_3n (by omega) g4 c] at hn ⊢
   have : n = 1 := by rw [hn]; rfl
   subst this
   have : c1 = 0 := z1
   subst this
   rw [ptN_3n (by omega) g4 (fun h => by have := h.1.1.1; omega)]
 by_cases g5 : b0 < 248
 ·by_cases c : (cont b1 ∧ cont b2 ∧ cont b3) ∧ 65536 ≤ (b0 - 240) * 262144 + (b1 - 128) * 4096 + (b2 - 128) * 64 + b3 - 128 ∧ (b0 - 240) * 262144 + (b1 - 128) * 4096 + (b2 - 128) * 64 + b3 - 128 ≤ 1114111
  ·rw [ptN_4 (by omega) g5 c.1.1 c.1.2.1 c.1.2.2 c.2] at hn ⊢
   have : n = 4 := by rw [hn]; rfl
   subst this
   have : c1 = b1 := z1
   subst this
   have : c2 = b2 := z2
   subst this
   have : c3 = b3 := z3
   subst this
   rw [ptN_4 (by omega) g5 c.1.1 c.1.2.1 c.1.2.2 c.2]
  ·rw [ptN_4n (by omega) g5 c] at hn ⊢
   have : n = 1 := by rw [hn]; rfl
   subst this
   have : c1 = 0 := z1
   subst this
   rw [ptN_4n (by omega) g5 (fun h => by have := h.1.1.1; omega)]
 ·rw [ptN_0 (.inr (by omega)), ptN_0 (.inr (by omega))]
theorem ptF_le {l : List Nat} : (ptF l 0).2 ≤ l.length := by
 unfold ptF
 split
 ·exact Nat.zero_le _
 ·exact pt_le (by omega) (fun h => getD_out (by omega)) (fun h => getD_out (by omega)) (fun h => getD_out (by omega))
theorem ptF_cut {l : List Nat} (hl : l ≠ []) (hB : Byts l) : (ptF (l.take (max (ptF l 0).2 1)) 0).2 = (ptF l 0).2 := by
 have hn : 0 < l.length := List.length_pos_iff.2 hl
 have hle := ptF_le (l := l)
 have e : ptF l 0 = ptN (l.getD 0 0) (l.getD (0 + 1) 0) (l.getD (0 + 2) 0) (l.getD (0 + 3) 0) := by unfold ptF; rw [if_neg (by omega)]
 generalize hm : max (ptF l 0).2 1 = m
 rw [e] at hm ⊢
 unfold ptF
 rw [if_neg (by rw [List.length_take]; omega)]
 have tk : ∀ i, (l.take m).getD i 0 = if i < m then l.getD i 0 else 0 := fun i => by
  rw [List.getD_eq_getElem?_getD, List.getElem?_take]
  split <;> simp [List.getD_eq_getElem?_getD]
 rw [show (l.take m).getD 0 0 = l.getD 0 0 by rw [tk, if_pos (by omega)]]
 exact pt_cut m hm.symm (tk 1) (tk 2) (tk 3) (hB.at_ 0)
theorem okP_piece {l : List Nat} (hl : l ≠ []) (hB : Byts l) : okP (l.take (max (ptF l 0).2 1)) = decide (0 < (ptF l 0).2) := by
 have hle := ptF_le (l := l)
 have hn : 0 < l.length := List.length_pos_iff.2 hl
 unfold okP
 rw [ptF_cut hl hB, List.length_take, decide_eq_decide]
 omega
theorem okU_fuel_step {n : Nat} {l : List Nat} (hl : l ≠ []) : okU (n + 1) l = if (dcL l).1 = 65533 ∧ (dcL l).2 ≤ 1 then false else okU n (l.drop (dcL l).2) := by
 show (if l = [] then true else _) = _
 rw [if_neg hl]
theorem pcs_ok : ∀ (n : Nat) (l : List Nat), l.length ≤ n → Byts l → (pcs n l).all okP = okU n l := by
 intro n
 induction n with
 | zero => intro l _ _; rfl
 | succ n ih =>
  intro l h hB
  by_cases hl : l = []
  ·subst hl; rfl
  ·have h1 := pt_dcL hl hB
   rw [okU_fuel_step hl]
   show (if l = [] then [] else l.take (max (ptF l 0).2 1) :: pcs n (l.drop (max (ptF l 0).2 1))).all okP = _
   rw [if_neg hl, List.all_cons, okP_piece hl hB, ih _ (by rw [List.length_drop]; omega) (hB.drop _), ← h1.2]
   by_cases g : (ptF l 0).2 = 0
   ·rw [h1.2, if_pos (h1.1.1 g)]; simp [g]
   ·rw [h1.2, if_neg (fun h => g (h1.1.2 h)), decide_eq_true (by omega), ← h1.2]; rfl
theorem pcs_fuel : ∀ (n m : Nat) (l : List Nat), l.length ≤ n → l.length ≤ m → pcs n l = pcs m l := by
 intro n
 induction n with
 | zero => intro m l h _; rw [List.length_eq_zero_iff.1 (Nat.le_zero.1 h)]; cases m <;> rfl
 | succ n ih =>
  intro m l h1 h2
  by_cases hl : l = []
  ·subst hl; cases m <;> rfl
  ·cases m with
   | zero => exact absurd (List.length_eq_zero_iff.1 (Nat.le_zero.1 h2)) hl
   | succ m =>
    unfold pcs
    rw [if_neg hl, if_neg hl, ih m (l.drop (max (ptF l 0).2 1)) (by rw [List.length_drop]; omega) (by rw [List.length_drop]; omega)]
theorem pcs_step {l : List Nat} (hl : l ≠ []) : pcs l.length l = l.take (max (ptF l 0).2 1) :: pcs (l.drop (max (ptF l 0).2 1)).length (l.drop (max (ptF l 0).2 1)) := by
 have hn : 0 < l.length := List.length_pos_iff.2 hl
 obtain ⟨m, hm⟩ : ∃ m, l.length = m + 1 := ⟨l.length - 1, by omega⟩
 rw [hm]
 show (if l = [] then [] else _) = _
 rw [if_neg hl, pcs_fuel m _ (l.drop (max (ptF l 0).2 1)) (by rw [List.length_drop]; omega) (Nat.le_refl _)]
theorem ptF_drop (l : List Nat) (i : Nat) : ptF l i = ptF (l.drop i) 0 := by
 unfold ptF
 have e : ∀ j, (l.drop i).getD (0 + j) 0 = l.getD (i + j) 0 := fun j => by rw [List.getD_eq_getElem?_getD, List.getD_eq_getElem?_getD, List.getElem?_drop, Nat.zero_add]
 have e0 := e 0
 simp only [Nat.add_zero] at e0
 rw [e0, e 1, e 2, e 3, List.length_drop]
 by_cases h : l.length ≤ i
 ·rw [if_pos h, if_pos (by omega)]
 ·rw [if_neg h, if_neg (by omega)]
theorem Gw.sl {el : Nat} {b s : S} {v : V} {l : List V} (h : Gw el b s v l) : Sl s 1 v ∧ lenV v = l.length ∧ ∀ j, j < l.length → cellV s v j = l.getD j .bad := by
 rcases h with ⟨rfl, rfl⟩ | ⟨a, n, mn, rfl, h1, h2, h3, h4, h5⟩
 ·exact ⟨.inl (.inl rfl), rfl, fun j hj => by cases hj⟩
 ·refine ⟨.inr ⟨a, n, 0, n, .inr ⟨0, rfl⟩, h2, l, n, el, true, mn, 0, 0, h4, h5, rdOk_or.2 (.inl ⟨rfl, h3.2, Nat.le_refl _, by omega⟩)⟩, h5.symm, fun j _ => by simp [cellV, h4, cellsB]⟩
theorem Gw.at_ {el : Nat} {b s : S} {v : V} {l : List V} (h : Gw el b s v l) {i : Nat} (hi : i < l.length) (hne : l.getD i .bad ≠ .bad) : ∃ p, (∀ k c, xIdxAddrS 1 v (iv k (i : Int)) c = c p) ∧ ∀ k : V → S → Go.Ev.A, xLoad false 1 p s k = k (l.getD i .bad) s := by
 obtain ⟨h1, h2, h3⟩ := h.sl
 obtain ⟨p, g1, g2⟩ := h1.idx (i := (i : Int)) (by omega) (by omega)
 have e : cellV s v ((i : Int).toNat * 1 + 0) = l.getD i .bad := by simp only [Int.toNat_natCast, Nat.mul_one, Nat.add_zero]; exact h3 i hi
 refine ⟨p, g1, fun k => ?_⟩
 rw [g2.load1 (by omega) (by rw [e]; exact hne), e]
def ltPcs (l : List Nat) (s : S) : Lt := ⟨fun tm s' => Ext s s' ∧ gp 0 tm = .str l ∧ gp 240 tm = .bad ∧ ∃ (i : Nat) (d : List (List Nat)), gp 4 tm = iv .i64 (i : Int) ∧ i ≤ l.length ∧ d.length ≤ i ∧ Gw 9 s s' (gp 3 tm) (d.map V.str) ∧ pcs l.length l = d ++ pcs (l.drop i).length (l.drop i),
 fun _ _ a => ∃ tm' s', a = .ext 0 tm' s' ∧ gp 240 tm' = .bad ∧ Ext s s' ∧ Gw 9 s s' (gp 3 tm') ((pcs l.length l).map V.str)⟩
theorem loopPcs {l : List Nat} {s : S} (hB : Byts l) (h16 : l.length ≤ 16384) : ∀ tm s', (ltPcs l s).pre tm s' → (ltPcs l s).post tm s' (cR1Pieces_8.run (Rk Tryz.prog K2 fun _ => ltPcs l s) tm s') := by
 refine loop_k (L := fun _ => ltPcs l s) pcOk0.1 pcOk0.2 szR1Pieces_8 (fun tm _ => l.length - (toI (gp 4 tm)).toNat) (fun _ _ _ _ h => by obtain ⟨_, _, rfl, _⟩ := h; exact fun h => h) ?_
 rintro tm s' ⟨hE, h0, h240, i, d, h4, hi, hdi, hG, hd⟩ IH
 show ∃ tm'' s'', cR1Pieces_8.run _ tm s' = .ext 0 tm'' s'' ∧ _
 have hP := Rk_kept (L := fun _ => ltPcs l s) R1Point_ok
 generalize Rk Tryz.prog _ _ = r at IH hP ⊢
 by_cases hlt : i < l.length
 ·obtain ⟨w, t, he, hp⟩ := hP [.str l, iv .i64 (i : Int)] s' ⟨l, i, rfl, hB, by omega⟩
  obtain ⟨rfl, rfl⟩ := hp _ _ rfl
  have hne : l.drop i ≠ [] := fun h => by have := congrArg List.length h; simp at this; omega
  have hle := ptF_le (l := l.drop i)
  rw [← ptF_drop, List.length_drop] at hle
  have hst := pcs_step hne
  rw [← ptF_drop] at hst
  generalize (ptF l i).1 = p at *
  generalize (ptF l i).2 = n at *
  have hm := max_nn .i64 (c := fun v : V => Go.Ev.A.bad 0) n 1
  have hmx : ∀ c : V → Go.Ev.A, foldMin false [V.nat .i64 1] (iv .i64 (n : Int)) c = c (iv .i64 ((max n 1 : Nat) : Int)) := fun c => max_nn .i64 c 1 n
  generalize hmm : max n 1 = m at *
  have hm1 : 1 ≤ m ∧ m ≤ l.length - i := by omega
  have w1 : IntKind.i64.wrap ((i : Int) + m) = (i : Int) + m := wrap64 (by omega) (by omega)
  have hsl : ∀ c : V → Go.Ev.A, xSliceT (.str l) (some (iv .i64 (i : Int))) (some (iv .i64 ((i : Int) + m))) c = c (.str ((l.drop i).take m)) := fun c => by
   rw [sliceT_s l (a := i) (b := i + m) (.inr ⟨.i64, rfl⟩) (.inr ⟨.i64, by simp⟩) (by omega) (by omega), Nat.add_sub_cancel_left]
  obtain ⟨v', s4, ha, hE4, hG4, hnx4, hfr⟩ := hG.app1 hE (x := .str ((l.drop i).take m)) (fun h => by cases h) (by simp; omega)
  have hcell : ∀ (x : List Nat) (c : List V → Go.Ev.A), cellsC 1 (.str x) c = c [.str x] := fun x c => rfl
  have hupd : ∀ (x : V) (c : List V → Go.Ev.A), updL [x] 0 [.str []] c = c [x] := fun x c => rfl
  have hrep : ∀ (c : List V → Go.Ev.A), repL [(V.str [])] 1 c = c [.str []] := fun c => rfl
  simp [lpR1Pieces_8, allR1Pieces, gp_sp, lenT_s, h0, h4, lss_ii, nat_iv, hlt, he, hrep, newRow_add]
  simp [nat_iv] at hmx
  simp [hmx, w1, hsl, gp_sp, h0, h4, hcell, hupd, ha, add_ii]
  refine IH _ _ (by simp [gp_sp, h4, toI_iv]; omega) ⟨hE4, by simp [gp_sp, h0], by simp [gp_sp, h240], i + m, d ++ [(l.drop i).take m], by simp [gp_sp], by omega, by simp; omega, by simp [gp_sp]; simpa using hG4, ?_⟩
  rw [hd, hst, List.drop_drop]; simp
 ·simp [lpR1Pieces_8, allR1Pieces, gp_sp, lenT_s, h0, h4, lss_ii, nat_iv, hlt]
  refine ⟨_, _, ⟨rfl, rfl⟩, by simp [gp_sp, h240], hE, ?_⟩
  have : l.drop i = [] := List.drop_eq_nil_of_le (by omega)
  rw [hd, this]
  simpa [gp_sp, pcs] using hG
theorem R1Pieces_ok : Holds Tryz.prog K2 87 := by
 rintro a s ⟨l, rfl, hB, h16⟩
 have hL := loopPcs (s := s) hB h16
 suffices h : ∃ v s', (fnC pc0 87).run (Rk Tryz.prog K2 fun _ => ltPcs l s) [.str l] s = .ret v s' ∧ Ext s s' ∧ Gw 9 s s' v ((pcs l.length l).map V.str) by
  obtain ⟨v, s', h1, h2⟩ := h
  exact ⟨v, s', fn_k2 h1, fun l' e => by cases e; exact h2⟩
 generalize Rk Tryz.prog _ _ = r at hL ⊢
 simp [allR1Pieces, nat_iv]
 generalize hA : cR1Pieces_8.run r _ _ = x
 have := hA ▸ hL _ _ ⟨Ext.refl s, by simp [gp_sp], by simp [gp_sp], 0, [], by simp [gp_sp], Nat.zero_le _, Nat.le_refl _, by simp [gp_sp]; exact .inl ⟨rfl, rfl⟩, by simp⟩
 obtain ⟨tm', s', rfl, k1, hE, hG⟩ := this
 exact ⟨gp 3 tm', s', by simp [blockA_ext, gp_sp, k1], hE, hG⟩
theorem R1Valid_ok : Holds Tryz.prog K2 88 := by
 rintro a s ⟨l, rfl, hB⟩
 suffices h : (fnC pc0 88).run (Rk Tryz.prog K2 noL) [.str l] s = .ret (.bool (okP l)) s from
  ⟨_, _, fn_k2 h, fun l' e => by cases e; exact ⟨rfl, rfl⟩⟩
 have hP := Rk_kept (L := noL) R1Point_ok
 generalize Rk Tryz.prog _ _ = r at hP ⊢
 obtain ⟨w, t, he, hp⟩ := hP [.str l, iv .i64 ((0 : Nat) : Int)] s ⟨l, 0, rfl, hB, by omega⟩
 obtain ⟨rfl, rfl⟩ := hp _ _ rfl
 unfold okP
 generalize ptF l 0 = q at *
 simp at he
 by_cases h1 : 0 < q.2
 ·have h1' : (0 : Int) < q.2 := by omega
  simp [allR1Valid, gp_sp, he, gtr_ii, eql_ii, lenT_s, nat_iv, h1]
  omega
 ·have h1' : ¬ (0 : Int) < q.2 := by omega
  simp [allR1Valid, gp_sp, he, gtr_ii, nat_iv, h1]
def AllP (ps : List (List Nat)) : Prop := ps.all okP = true
def ltSpl (ps : List (List Nat)) (s : S) : Lt := ⟨fun tm s' => Ext s s' ∧ (∃ b, Gw 9 b s' (gp 5 tm) (ps.map V.str)) ∧ gp 240 tm = .bad ∧ ∃ i m : Nat, gp 7 tm = iv .i64 (i : Int) ∧ i ≤ ps.length ∧ gp 6 tm = iv .i64 (m : Int) ∧ m ≤ i * 16384 ∧ (ps.take i).all okP = true,
 fun _ _ a => LP 0 4 (iv .i64 3) (AllP ps) (fun _ s' => Ext s s') a⟩
theorem pcs_mem : ∀ (n : Nat) (l : List Nat), ∀ x ∈ pcs n l, x.length ≤ l.length ∧ ∀ b ∈ x, b ∈ l := by
 intro n
 induction n with
 | zero => intro l x hx; cases hx
 | succ n ih =>
  intro l x hx
  unfold pcs at hx
  by_cases hl : l = []
  ·rw [if_pos hl] at hx; cases hx
  ·rw [if_neg hl] at hx
   rcases List.mem_cons.1 hx with rfl | hx
   ·exact ⟨by rw [List.length_take]; omega, fun b hb => List.mem_of_mem_take hb⟩
   ·have := ih _ x hx
    exact ⟨by have h1 := this.1; rw [List.length_drop] at h1; omega, fun b hb => List.mem_of_mem_drop (this.2 b hb)⟩
theorem pcs_count : ∀ (n : Nat) (l : List Nat), (pcs n l).length ≤ n := by
 intro n
 induction n with
 | zero => intro l; exact Nat.le_refl _
 | succ n ih =>
  intro l
  unfold pcs
  split
  ·exact Nat.zero_le _
  ·rw [List.length_cons]; have := ih (l.drop (max (ptF l 0).2 1)); omega
theorem all_take {f : List Nat → Bool} {l : List (List Nat)} {i : Nat} (h : (l.take i).all f = true) {x : List Nat} (hx : l[i]? = some x) (hf : f x = true) : (l.take (i + 1)).all f = true := by
 rw [List.take_add_one, hx, List.all_append, h]; simp [hf]
theorem loopSpl {ps : List (List Nat)} {s : S} (hc : ps.length ≤ 16384) (hm : ∀ x ∈ ps, x.length ≤ 16384 ∧ Byts x) : ∀ tm s', (ltSpl ps s).pre tm s' → (ltSpl ps s).post tm s' (cR1Split_18.run (Rk Tryz.prog K2 fun _ => ltSpl ps s) tm s') := by
 refine loop_k (L := fun _ => ltSpl ps s) pcOk0.1 pcOk0.2 szR1Split_18 (fun tm _ => ps.length - (toI (gp 7 tm)).toNat) (fun _ _ _ _ (h : LP _ _ _ _ _ _) => h.nb) ?_
 rintro tm s' ⟨hE, ⟨b, hG⟩, h240, i, m, h7, hi, h6, hm', hok⟩ IH
 show LP _ _ _ _ _ (cR1Split_18.run _ tm s')
 have hV := Rk_kept (L := fun _ => ltSpl ps s) R1Valid_ok
 generalize Rk Tryz.prog _ _ = r at IH hV ⊢
 have hlen : ∀ c : V → Go.Ev.A, xLenS (gp 5 tm) c = c (iv .i64 (ps.length : Int)) := fun c => by rw [hG.len, List.length_map]
 by_cases hlt : i < ps.length
 ·obtain ⟨x, hx⟩ : ∃ x, ps[i]? = some x := ⟨_, List.getElem?_eq_getElem hlt⟩
  have hxm := hm x (List.mem_of_getElem? hx)
  have hg : (ps.map V.str).getD i .bad = .str x := by rw [List.getD_eq_getElem?_getD, List.getElem?_map, hx]; rfl
  obtain ⟨p, hp, hP⟩ := hG.at_ (i := i) (by rw [List.length_map]; exact hlt) (by rw [hg]; exact fun h => by cases h)
  rw [hg] at hP
  obtain ⟨w, t, he, hpp⟩ := hV [.str x] s' ⟨x, rfl, hxm.2⟩
  obtain ⟨rfl, rfl⟩ := hpp _ rfl
  have hxn : ∀ b c, xUn .not (.bool b) c = c (.bool !b) := fun b c => by cases b <;> rfl
  have w1 : IntKind.i64.wrap ((i : Int) + 1) = (i : Int) + 1 := wrap64 (by omega) (by omega)
  have w2 : IntKind.i64.wrap ((m : Int) + x.length) = (m : Int) + x.length := wrap64 (by omega) (by omega)
  generalize h5 : gp 5 tm = v at *
  by_cases g : okP x = true
  ·rw [g] at he
   simp [lpR1Split_18, allR1Split, gp_sp, h5, h6, h7, hlen, lss_ii, add_ii, hp, hP, he, lenT_s, hxn, w1, w2, nat_iv, hlt]
   refine IH _ _ (mu_lt h7 (by simp [gp_sp]) hlt) ⟨hE, ⟨b, by simp [gp_sp, h5]; exact hG⟩, by simp [gp_sp, h240], i + 1, m + x.length, by simp [gp_sp], by omega, by simp [gp_sp], ?_, all_take hok hx g⟩
   have := hxm.1
   rw [Nat.add_mul]; omega
  ·rw [show okP x = false by simpa using g] at he
   simp [lpR1Split_18, allR1Split, gp_sp, h5, h7, hlen, lss_ii, hp, hP, he, hxn, nat_iv, hlt]
   exact .inr ⟨fun h => g (List.all_eq_true.1 h x (List.mem_of_getElem? hx)), _, _, rfl, by simp [gp_sp, h240], by simp [gp_sp], hE⟩
 ·simp [lpR1Split_18, allR1Split, gp_sp, h7, hlen, lss_ii, nat_iv, hlt]
  rw [List.take_of_length_le (by omega)] at hok
  exact .inl ⟨hok, _, _, rfl, by simp [gp_sp, h240], hE⟩
theorem R1Split_ok : Holds Tryz.prog K2 65 := by
 rintro a s ⟨l, rfl, hB⟩
 by_cases h16 : 16384 < l.length
 ·suffices h : ∃ y z, (fnC pc0 65).run (Rk Tryz.prog K2 noL) [.str l] s = .ret (.ls 1 [y, z, iv .i64 2]) s by
   obtain ⟨y, z, h⟩ := h
   exact ⟨_, s, fn_k2 h, fun l' e => by cases e; exact ⟨Ext.refl _, y, z, by rw [if_pos h16]⟩⟩
  generalize Rk Tryz.prog _ _ = r
  have h16' : (16384 : Int) < l.length := by omega
  exact ⟨.nil 1, iv .i64 0, by simp [allR1Split, gp_sp, lenT_s, gtr_ii, nat_iv, h16']⟩
 ·have h16' : ¬ (16384 : Int) < l.length := by omega
  have hcnt := pcs_count l.length l
  have hmem := pcs_mem l.length l
  have hokP := pcs_ok l.length l (Nat.le_refl _) hB
  generalize hps : pcs l.length l = ps at *
  have hL := loopSpl (ps := ps) (s := s) (by omega) (fun x hx => ⟨by have := (hmem x hx).1; omega, fun b hb => hB b ((hmem x hx).2 b hb)⟩)
  suffices h : ∃ y z s', (fnC pc0 65).run (Rk Tryz.prog K2 fun _ => ltSpl ps s) [.str l] s = .ret (.ls 1 [y, z, iv .i64 (if okU l.length l = true then 0 else 3)]) s' ∧ Ext s s' by
   obtain ⟨y, z, s', h1, h2⟩ := h
   exact ⟨_, s', fn_k2 h1, fun l' e => by cases e; exact ⟨h2, y, z, by rw [if_neg h16]⟩⟩
  have hP := Rk_kept (L := fun _ => ltSpl ps s) R1Pieces_ok
  generalize Rk Tryz.prog _ _ = r at hL hP ⊢
  obtain ⟨v, s1, he, hp⟩ := hP [.str l] s ⟨l, rfl, hB, by omega⟩
  obtain ⟨hE, hG⟩ := hp _ rfl
  rw [hps] at hG
  simp [allR1Split, gp_sp, lenT_s, gtr_ii, nat_iv, h16', he]
  generalize hA : cR1Split_18.run r _ _ = x
  have := hA ▸ hL _ _ ⟨hE, ⟨s, by simp [gp_sp]; exact hG⟩, by simp [gp_sp], 0, 0, by simp [gp_sp], Nat.zero_le _, by simp [gp_sp], Nat.le_refl _, rfl⟩
  rw [← hokP]
  unfold AllP at this
  rcases this with ⟨hg, tm', s', rfl, k1, hE'⟩ | ⟨hg, tm', s', rfl, k1, k2, hE'⟩
  ·rw [if_pos (show ps.all okP = true from hg)]; exact ⟨gp 5 tm', iv .i64 0, s', by simp [blockA_ext, gp_sp, k1], hE'⟩
  ·rw [if_neg (show ¬ ps.all okP = true from hg)]; exact ⟨gp 2 tm', gp 3 tm', s', by simp [k1, k2], hE'⟩
theorem R5Named_ok : Holds Tryz.prog K2 50 := by
 rintro a s ⟨l, rfl, hB⟩
 suffices h : ∃ s', (fnC pc0 50).run (Rk Tryz.prog K2 noL) [.str l] s = .ret (.bool (isNm l)) s' ∧ Ext s s' by
  obtain ⟨s', h1, h2⟩ := h
  exact ⟨_, s', fn_k2 h1, fun l' e => by cases e; exact ⟨h2, rfl⟩⟩
 have hP := Rk_kept (L := noL) R1Split_ok
 generalize Rk Tryz.prog _ _ = r at hP ⊢
 obtain ⟨w, s1, he, hp⟩ := hP [.str l] s ⟨l, rfl, hB⟩
 obtain ⟨hE, y, z, rfl⟩ := hp _ rfl
 refine ⟨s1, ?_, hE⟩
 have e2 : ∀ (x y z : V) (c : V → Go.Ev.A), xExtract 2 (.ls 1 [x, y, z]) c = c z := fun _ _ _ _ => rfl
 have hnil : l ≠ [] ↔ 1 ≤ l.length := by cases l <;> simp
 unfold isNm
 by_cases h1 : 1 ≤ l.length
 ·have h1' : (1 : Int) ≤ l.length := by omega
  by_cases h2 : l.length ≤ 40
  ·have h2' : (l.length : Int) ≤ 40 := by omega
   rw [if_neg (by omega)] at he
   by_cases h3 : okU l.length l = true
   ·rw [if_pos h3] at he
    simp [allR5Named, gp_sp, he, e2, lenT_s, geq_ii, leq_ii, eql_ii, nat_iv, h1', h2, h2', h3, hnil, h1]
   ·rw [if_neg h3] at he
    simp [allR5Named, gp_sp, he, e2, lenT_s, geq_ii, leq_ii, eql_ii, nat_iv, h1', h2', h3]
  ·have h2' : ¬ (l.length : Int) ≤ 40 := by omega
   simp [allR5Named, gp_sp, he, e2, lenT_s, geq_ii, leq_ii, nat_iv, h1', h2, h2']
 ·have h1' : ¬ (1 : Int) ≤ l.length := by omega
  simp [allR5Named, gp_sp, he, e2, lenT_s, geq_ii, nat_iv, h1', hnil, h1]
theorem ct_inj {p p' : V} {f : (V → Go.Ev.A) → Go.Ev.A} (h : ∀ c, f c = c p) (h' : ∀ c, f c = c p') : p = p' := by
 have h1 := (h fun v => .nrm (sp 0 v T.new) ⟨.lf, .h⟩).symm.trans (h' fun v => .nrm (sp 0 v T.new) ⟨.lf, .h⟩)
 injection h1 with h1
 have := congrArg (gp 0) h1
 simpa [gp_sp] using this
def PosP (t : V) (l : List Nat) (s : S) (a : Go.Ev.A) : Prop := (∃ tm', a = .ext 0 tm' s ∧ gp 240 tm' = .bad ∧ l ∉ names s t) ∨ ∃ (j : Nat) (tm' : T), a = .ret tm' s ∧ gp 240 tm' = .bad ∧ gp 4 tm' = iv .i64 (j : Int) ∧ (names s t)[j]? = some l ∧ ∀ i, i < j → (names s t)[i]? ≠ some l
def ltPos (t : V) (l : List Nat) (s : S) : Lt := ⟨fun tm s' => s' = s ∧ gp 0 tm = t ∧ gp 1 tm = .str l ∧ gp 240 tm = .bad ∧ ∃ i : Nat, gp 5 tm = iv .i64 (i : Int) ∧ i ≤ lenV t ∧ ∀ j, j < i → (names s t)[j]? ≠ some l,
 fun _ _ a => PosP t l s a⟩
theorem loopPos {t : V} {l : List Nat} {s : S} (ht : Strs s t) : ∀ tm s', (ltPos t l s).pre tm s' → (ltPos t l s).post tm s' (cR5Pos_6.run (Rk Tryz.prog K2 fun _ => ltPos t l s) tm s') := by
 refine loop_k (L := fun _ => ltPos t l s) pcOk0.1 pcOk0.2 szR5Pos_6 (fun tm _ => lenV t - (toI (gp 5 tm)).toNat) (fun _ _ _ _ (h : PosP _ _ _ _) => by rcases h with ⟨_, rfl, _⟩ | ⟨_, _, rfl, _⟩ <;> exact fun h => h) ?_
 rintro tm s' ⟨rfl, h0, h1, h240, i, h5, hi, hj⟩ IH
 show PosP _ _ _ (cR5Pos_6.run _ tm s')
 generalize Rk Tryz.prog _ _ = r at IH ⊢
 by_cases hlt : i < lenV t
 ·obtain ⟨p, hp, hP⟩ := ht.at_ hlt
  have hg := names_get (s := s') hlt
  have hw := wrapS hlt ht.2.1
  generalize strL (cellV s' t i) = x at *
  have heq : ∀ (x : List Nat) (c : V → Go.Ev.A), xBin ⟨8, []⟩ false .eql (.str x) (.str l) c = c (.bool (decide (x = l))) := fun x c => by
   show fB (eqS x l) c = _
   rw [fB_eq, eqS_eq]
  by_cases g : x = l
  ·simp [lpR5Pos_6, allR5Pos, gp_sp, h0, h1, h5, ht.1.len, lss_ii, hp, hP, heq, nat_iv, hlt, g]
   exact .inr ⟨i, _, rfl, by simp [gp_sp, h240], by simp [gp_sp], by rw [hg, g], hj⟩
  ·simp [lpR5Pos_6, allR5Pos, gp_sp, h0, h1, h5, ht.1.len, lss_ii, add_ii, hw, hp, hP, heq, nat_iv, hlt, g]
   exact IH _ _ (mu_lt h5 (by simp [gp_sp]) hlt) ⟨rfl, by simp [gp_sp, h0], by simp [gp_sp, h1], by simp [gp_sp, h240], i + 1, by simp [gp_sp], by omega, fun j h => by
    rcases Nat.lt_or_ge j i with h' | h'
    ·exact hj j h'
    ·rw [show j = i by omega, hg]; exact fun h => g (Option.some.inj h)⟩
 ·simp [lpR5Pos_6, allR5Pos, gp_sp, h0, h5, ht.1.len, lss_ii, nat_iv, hlt]
  refine .inl ⟨_, rfl, by simp [gp_sp, h240], fun h => ?_⟩
  obtain ⟨j, h1, h2⟩ := List.getElem_of_mem h
  rw [names_len] at h1
  exact hj j (by omega) (by rw [List.getElem?_eq_getElem (by rw [names_len]; exact h1), h2])
theorem R5Pos_ok : Holds Tryz.prog K2 51 := by
 rintro a s ⟨t, l, rfl, ht⟩
 have hL := loopPos (l := l) ht
 suffices h : ∃ k : Int, (fnC pc0 51).run (Rk Tryz.prog K2 fun _ => ltPos t l s) [t, .str l] s = .ret (iv .i64 k) s ∧ PosS (names s t) l k by
  obtain ⟨k, h1, h2⟩ := h
  exact ⟨_, s, fn_k2 h1, fun t' l' e => by cases e; exact ⟨rfl, k, rfl, h2⟩⟩
 generalize Rk Tryz.prog _ _ = r at hL ⊢
 simp [allR5Pos, nat_iv]
 generalize hA : cR5Pos_6.run r _ _ = x
 have := hA ▸ hL _ _ ⟨rfl, by simp [gp_sp], by simp [gp_sp], by simp [gp_sp], 0, by simp [gp_sp], Nat.zero_le _, fun j h => by omega⟩
 rcases this with ⟨tm', rfl, k1, k2⟩ | ⟨j, tm', rfl, k1, k2, k3, k4⟩
 ·exact ⟨-1, by simp [blockA_ext, gp_sp, k1, neg_iv], .inl ⟨rfl, k2⟩⟩
 ·exact ⟨j, by simp [k1, k2], .inr ⟨j, rfl, k3, k4⟩⟩
def GoodT (ns : List (List Nat)) : Prop := ∀ (i : Nat) (x : List Nat), ns[i]? = some x → isNm x = true ∧ ∀ j : Nat, j < i → ns[j]? ≠ some x
theorem goodT_iff {ns : List (List Nat)} : GoodT ns ↔ ns.all isNm = true ∧ ns.Nodup := by
 constructor
 ·intro h
  refine ⟨List.all_eq_true.2 fun x hx => ?_, ?_⟩
  ·obtain ⟨i, h1, h2⟩ := List.getElem_of_mem hx
   exact (h i x (by rw [List.getElem?_eq_getElem h1, h2])).1
  ·unfold List.Nodup
   rw [List.pairwise_iff_getElem]
   intro i j hi hj hij e
   exact (h j _ (List.getElem?_eq_getElem hj)).2 i hij (by rw [List.getElem?_eq_getElem hi, e])
 ·rintro ⟨h1, h2⟩ i x hx
  refine ⟨List.all_eq_true.1 h1 x (List.mem_of_getElem? hx), fun j hj e => ?_⟩
  unfold List.Nodup at h2
  rw [List.pairwise_iff_getElem] at h2
  obtain ⟨hi, hx'⟩ := List.getElem?_eq_some_iff.1 hx
  obtain ⟨hj', he'⟩ := List.getElem?_eq_some_iff.1 e
  exact h2 j i hj' hi hj (he'.trans hx'.symm)
def ltV5 (t : V) (s : S) : Lt := ⟨fun tm s' => Ext s s' ∧ gp 0 tm = t ∧ gp 240 tm = .bad ∧ ∃ i : Nat, gp 3 tm = iv .i64 (i : Int) ∧ i ≤ lenV t ∧ ∀ k x, k < i → (names s t)[k]? = some x → isNm x = true ∧ ∀ j, j < k → (names s t)[j]? ≠ some x,
 fun _ _ a => LP 0 2 (.bool false) (GoodT (names s t)) (fun _ s' => Ext s s') a⟩
theorem loopV5 {t : V} {s : S} (ht : Strs s t) : ∀ tm s', (ltV5 t s).pre tm s' → (ltV5 t s).post tm s' (cR5Valid_14.run (Rk Tryz.prog K2 fun _ => ltV5 t s) tm s') := by
 refine loop_k (L := fun _ => ltV5 t s) pcOk0.1 pcOk0.2 szR5Valid_14 (fun tm _ => lenV t - (toI (gp 3 tm)).toNat) (fun _ _ _ _ (h : LP _ _ _ _ _ _) => h.nb) ?_
 rintro tm s' ⟨hE, h0, h240, i, h3, hi, hk⟩ IH
 show LP _ _ _ _ _ (cR5Valid_14.run _ tm s')
 have hN := Rk_kept (L := fun _ => ltV5 t s) R5Named_ok
 have hP := Rk_kept (L := fun _ => ltV5 t s) R5Pos_ok
 generalize Rk Tryz.prog _ _ = r at IH hN hP ⊢
 by_cases hlt : i < lenV t
 ·obtain ⟨ht', hn'⟩ := ht.ext hE
  obtain ⟨p, hp, hL⟩ := ht'.at_ hlt
  have hg := names_get (s := s) hlt
  have hB := (ht.2.2 i hlt).2
  have hc : cellV s' t i = cellV s t i := (ht.1.ext hE).2 i
  rw [hc] at hL
  have hw := wrapS hlt ht.2.1
  generalize strL (cellV s t i) = x at *
  obtain ⟨w, s2, he, hpp⟩ := hN [.str x] s' ⟨x, rfl, hB⟩
  obtain ⟨hE2, rfl⟩ := hpp _ rfl
  by_cases g : isNm x = true
  ·rw [g] at he
   have hE3 := hE.trans hE2
   obtain ⟨ht2, hn2⟩ := ht.ext hE3
   obtain ⟨p2, hp2, hL2⟩ := ht2.at_ hlt
   obtain rfl := ct_inj (hp .i64) (hp2 .i64)
   have hc2 : strL (cellV s2 t i) = x := by
    have h1 := names_get (s := s2) hlt
    rw [hn2, hg] at h1
    exact (Option.some.inj h1).symm
   rw [hc2] at hL2
   obtain ⟨w, s3, he3, hpp⟩ := hP [t, .str x] s2 ⟨t, x, rfl, ht2⟩
   obtain ⟨rfl, k, rfl, hpos⟩ := hpp _ _ rfl
   rw [hn2] at hpos
   by_cases gk : k = i
   ·simp [lpR5Valid_14, allR5Valid, gp_sp, h0, h3, ht'.1.len, lss_ii, add_ii, neq_ii, hw, hp, hL, he, he3, hL2, nat_iv, hlt, gk]
    refine IH _ _ (mu_lt h3 (by simp [gp_sp]) hlt) ⟨hE3, by simp [gp_sp, h0], by simp [gp_sp, h240], i + 1, by simp [gp_sp], by omega, fun k' x' h hx' => ?_⟩
    rcases Nat.lt_or_ge k' i with h' | h'
    ·exact hk k' x' h' hx'
    ·rw [show k' = i by omega, hg] at hx'
     rw [← Option.some.inj hx']
     refine ⟨g, ?_⟩
     rcases hpos with ⟨h1, _⟩ | ⟨j, h1, _, h2⟩
     ·omega
     ·rw [show k' = j by omega]; exact h2
   ·simp [lpR5Valid_14, allR5Valid, gp_sp, h0, h3, ht'.1.len, lss_ii, neq_ii, hp, hL, he, he3, hL2, nat_iv, hlt, gk]
    refine .inr ⟨fun h => ?_, _, _, rfl, by simp [gp_sp, h240], by simp [gp_sp], hE3⟩
    rcases hpos with ⟨_, h1⟩ | ⟨j, h1, h2, h3⟩
    ·exact h1 (List.mem_of_getElem? hg)
    ·have : j < i := by
      rcases Nat.lt_trichotomy j i with h' | h' | h'
      ·exact h'
      ·omega
      ·exact absurd hg (h3 i h')
     exact (h i x hg).2 j this h2
  ·rw [show isNm x = false by simpa using g] at he
   simp [lpR5Valid_14, allR5Valid, gp_sp, h0, h3, ht'.1.len, lss_ii, hp, hL, he, nat_iv, hlt]
   exact .inr ⟨fun h => g (h i x hg).1, _, _, rfl, by simp [gp_sp, h240], by simp [gp_sp], hE.trans hE2⟩
 ·simp [lpR5Valid_14, allR5Valid, gp_sp, h0, h3, (ht.ext hE).1.1.len, lss_ii, nat_iv, hlt]
  refine .inl ⟨fun k x hx => hk k x ?_ hx, _, _, rfl, by simp [gp_sp, h240], hE⟩
  have := (List.getElem?_eq_some_iff.1 hx).1
  rw [names_len] at this; omega
open Classical in
theorem R5Valid_ok : Holds Tryz.prog K2 23 := by
 rintro a s ⟨t, rfl, ht⟩
 have hL := loopV5 ht
 suffices h : ∃ s', (fnC pc0 23).run (Rk Tryz.prog K2 fun _ => ltV5 t s) [t] s = .ret (.bool (decide (okT (names s t)))) s' ∧ Ext s s' by
  obtain ⟨s', h1, h2⟩ := h
  exact ⟨_, s', fn_k2 h1, fun t' e => by cases e; exact ⟨h2, rfl⟩⟩
 generalize Rk Tryz.prog _ _ = r at hL ⊢
 by_cases g1 : 500 < lenV t
 ·have g1' : (500 : Int) < lenV t := by omega
  refine ⟨s, ?_, Ext.refl _⟩
  rw [decide_eq_false (fun h => by have := h.1; rw [names_len] at this; omega)]
  simp [allR5Valid, gp_sp, ht.1.len, gtr_ii, nat_iv, g1']
 ·have g1' : ¬ (500 : Int) < lenV t := by omega
  simp [allR5Valid, gp_sp, ht.1.len, gtr_ii, nat_iv, g1']
  generalize hA : cR5Valid_14.run r _ _ = x
  have := hA ▸ hL _ _ ⟨Ext.refl s, by simp [gp_sp], by simp [gp_sp], 0, by simp [gp_sp], Nat.zero_le _, fun k x h => by omega⟩
  have hk : okT (names s t) ↔ GoodT (names s t) := by
   rw [goodT_iff]
   exact ⟨fun h => h.2, fun h => ⟨by rw [names_len]; omega, h⟩⟩
  rcases this with ⟨hg, tm', s', rfl, k1, hE⟩ | ⟨hg, tm', s', rfl, k1, k2, hE⟩
  ·exact ⟨s', by simp [blockA_ext, gp_sp, k1, hk.2 hg], hE⟩
  ·have hn : ¬ okT (names s t) := fun h => hg (hk.1 h)
   exact ⟨s', by simp [k1, k2, hn], hE⟩
def ltW5 (t x : V) (s : S) : Lt := ⟨fun tm s' => s' = s ∧ gp 0 tm = t ∧ gp 1 tm = x ∧ gp 240 tm = .bad ∧ ∃ i : Nat, gp 5 tm = iv .i64 (i : Int) ∧ i ≤ lenV x ∧ ∀ j, j < i → 1 ≤ intV s x j ∧ intV s x j ≤ (lenV t : Int),
 fun _ _ a => LP 0 4 (.bool false) (inR s x (lenV t)) (fun _ s' => s' = s) a⟩
theorem loopW5 {t x : V} {s : S} (ht : Strs s t) (hx : Ints s x) : ∀ tm s', (ltW5 t x s).pre tm s' → (ltW5 t x s).post tm s' (cR5Word_14.run (Rk Tryz.prog K2 fun _ => ltW5 t x s) tm s') := by
 refine loop_k (L := fun _ => ltW5 t x s) pcOk0.1 pcOk0.2 szR5Word_14 (fun tm _ => lenV x - (toI (gp 5 tm)).toNat) (fun _ _ _ _ (h : LP _ _ _ _ _ _) => h.nb) ?_
 rintro tm s' ⟨rfl, h0, h1, h240, i, h5, hi, hj⟩ IH
 show LP _ _ _ _ _ (cR5Word_14.run _ tm s')
 generalize Rk Tryz.prog _ _ = r at IH ⊢
 by_cases hlt : i < lenV x
 ·obtain ⟨p, hp, hP⟩ := hx.at_ hlt
  have hw := wrapS hlt hx.2.1
  obtain ⟨z, hz⟩ : ∃ z, z = intV s' x i := ⟨_, rfl⟩
  rw [← hz] at hP
  by_cases g1 : z < 1
  ·simp [lpR5Word_14, allR5Word, gp_sp, h1, h5, hx.1.len, lss_ii, hp, hP, nat_iv, hlt, g1]
   exact .inr ⟨fun h => by have := (h i hlt).1; omega, _, _, rfl, by simp [gp_sp, h240], by simp [gp_sp], rfl⟩
  by_cases g2 : (lenV t : Int) < z
  ·simp [lpR5Word_14, allR5Word, gp_sp, h0, h1, h5, hx.1.len, ht.1.len, lss_ii, gtr_ii, hp, hP, nat_iv, hlt, g1, g2]
   exact .inr ⟨fun h => by have := (h i hlt).2; omega, _, _, rfl, by simp [gp_sp, h240], by simp [gp_sp], rfl⟩
  ·simp [lpR5Word_14, allR5Word, gp_sp, h0, h1, h5, hx.1.len, ht.1.len, lss_ii, gtr_ii, add_ii, hw, hp, hP, nat_iv, hlt, g1, g2]
   exact IH _ _ (mu_lt h5 (by simp [gp_sp]) hlt) ⟨rfl, by simp [gp_sp, h0], by simp [gp_sp, h1], by simp [gp_sp, h240], i + 1, by simp [gp_sp], by omega, fun j h => by
    rcases Nat.lt_or_ge j i with h' | h'
    ·exact hj j h'
    ·rw [show j = i by omega]; exact ⟨by omega, by omega⟩⟩
 ·simp [lpR5Word_14, allR5Word, gp_sp, h1, h5, hx.1.len, lss_ii, nat_iv, hlt]
  exact .inl ⟨fun j h => hj j (by omega), _, _, rfl, by simp [gp_sp, h240], rfl⟩
open Classical in
theorem R5Word_ok : Holds Tryz.prog K2 52 := by
 rintro a s ⟨t, x, rfl, ht, hx⟩
 have hL := loopW5 ht hx
 suffices h : (fnC pc0 52).run (Rk Tryz.prog K2 fun _ => ltW5 t x s) [t, x] s = .ret (.bool (decide (lenV x ≤ 200 ∧ inR s x (lenV t)))) s from
  ⟨_, s, fn_k2 h, fun t' x' e => by cases e; exact ⟨rfl, rfl⟩⟩
 generalize Rk Tryz.prog _ _ = r at hL ⊢
 by_cases g1 : 200 < lenV x
 ·have g1' : (200 : Int) < lenV x := by omega
  rw [decide_eq_false (fun h => by have := h.1; omega)]
  simp [allR5Word, gp_sp, hx.1.len, gtr_ii, nat_iv, g1']
 ·have g1' : ¬ (200 : Int) < lenV x := by omega
  simp [allR5Word, gp_sp, hx.1.len, gtr_ii, nat_iv, g1']
  generalize hA : cR5Word_14.run r _ _ = y
  have := hA ▸ hL _ _ ⟨rfl, by simp [gp_sp], by simp [gp_sp], by simp [gp_sp], 0, by simp [gp_sp], Nat.zero_le _, fun k h => by omega⟩
  have g2 : lenV x ≤ 200 := by omega
  rcases this with ⟨hg, tm', s', rfl, k1, rfl⟩ | ⟨hg, tm', s', rfl, k1, k2, rfl⟩
  ·simp [blockA_ext, gp_sp, k1, hg, g2]
  ·simp [k1, k2, hg]
theorem u8s_app (a b : List Nat) : u8s (a ++ b) = u8s a ++ u8s b := by simp [u8s]
def ltT5 (t x : V) (s : S) : Lt := ⟨fun tm s' => Ext s s' ∧ gp 0 tm = t ∧ gp 1 tm = x ∧ gp 240 tm = .bad ∧ ∃ i : Nat, gp 7 tm = iv .i64 (i : Int) ∧ i ≤ lenV x ∧ Gw 5 s s' (gp 6 tm) (u8s (txtW (names s t) ((word s x).take i))),
 fun _ _ a => ∃ tm' s', a = .ext 0 tm' s' ∧ gp 240 tm' = .bad ∧ Ext s s' ∧ Gw 5 s s' (gp 6 tm') (u8s (txtW (names s t) (word s x)))⟩
theorem loopT5 {t x : V} {s : S} (ht : Strs s t) (hx : Ints s x) (hN : (names s t).all isNm = true) (hX : lenV x ≤ 200) (hR : inR s x (lenV t)) : ∀ tm s', (ltT5 t x s).pre tm s' → (ltT5 t x s).post tm s' (cR5Text_16.run (Rk Tryz.prog K2 fun _ => ltT5 t x s) tm s') := by
 refine loop_k (L := fun _ => ltT5 t x s) pcOk0.1 pcOk0.2 szR5Text_16 (fun tm _ => lenV x - (toI (gp 7 tm)).toNat) (fun _ _ _ _ h => by obtain ⟨_, _, rfl, _⟩ := h; exact fun h => h) ?_
 rintro tm s' ⟨hE, h0, h1, h240, i, h7, hi, hG⟩ IH
 show ∃ tm'' s'', cR5Text_16.run _ tm s' = .ext 0 tm'' s'' ∧ _
 generalize Rk Tryz.prog _ _ = r at IH ⊢
 generalize h6 : gp 6 tm = v at *
 by_cases hlt : i < lenV x
 ·obtain ⟨hx', hxi⟩ := hx.ext hE
  obtain ⟨ht', hn'⟩ := ht.ext hE
  obtain ⟨p, hp, hP⟩ := hx'.at_ hlt
  rw [hxi i] at hP
  have hw := wrapS hlt hx.2.1
  have hti := word_take (s := s) hlt
  have hr := hR i hlt
  obtain ⟨z, hz⟩ : ∃ z, z = intV s x i := ⟨_, rfl⟩
  rw [← hz] at hP hti hr
  obtain ⟨m, hm⟩ : ∃ m : Nat, z = (m : Int) + 1 := ⟨(z - 1).toNat, by omega⟩
  have hml : m < lenV t := by omega
  have hlt5 := ht.2.1
  have hw1 : IntKind.i64.wrap (z - 1) = (m : Int) := by rw [wrap64 (by omega) (by omega)]; omega
  obtain ⟨q2, hq2, hQ2⟩ := ht'.at_ hml
  have hc : cellV s' t m = cellV s t m := (ht.1.ext hE).2 m
  rw [hc] at hQ2
  have hgd : (names s t).getD (z.toNat - 1) [] = strL (cellV s t m) := by
   rw [List.getD_eq_getElem?_getD, show z.toNat - 1 = m by omega, names_get hml]; rfl
  have hl1 := txt_len hN ((word s x).take i)
  have hl2 := getD_len hN (z.toNat - 1)
  rw [hgd] at hl2
  have hl3 : ((word s x).take i).length = i := by rw [List.length_take, word_len]; omega
  obtain ⟨v', s2, ha, hE2, hG2, -, -⟩ := hG.appS hE (strL (cellV s t m)) (by rw [u8s_len]; omega)
  rw [← u8s_app, ← hgd, ← txt_snoc, ← hti] at hG2
  simp [lpR5Text_16, allR5Text, gp_sp, h0, h1, h6, h7, hx'.1.len, lss_ii, add_ii, sub_ii, hw, hw1, hp, hP, hq2, hQ2, ha, nat_iv, hlt]
  exact IH _ _ (mu_lt h7 (by simp [gp_sp]) hlt) ⟨hE2, by simp [gp_sp, h0], by simp [gp_sp, h1], by simp [gp_sp, h240], i + 1, by simp [gp_sp], by omega, by simp [gp_sp]; exact hG2⟩
 ·simp [lpR5Text_16, allR5Text, gp_sp, h1, h7, (hx.ext hE).1.1.len, lss_ii, nat_iv, hlt]
  rw [List.take_of_length_le (by rw [word_len]; omega)] at hG
  exact ⟨_, _, ⟨rfl, rfl⟩, by simp [gp_sp, h240], hE, by simp [gp_sp, h6]; exact hG⟩
theorem Gw.strOf {b s : S} {v : V} {w : List Nat} (h : Gw 5 b s v (u8s w)) (hB : Byts w) (c : V → Go.Ev.A) : xStrOf v s c = c (.str w) := by
 rcases h with ⟨rfl, e⟩ | ⟨a, n, mn, rfl, h1, h2, h3, h4, h5⟩
 ·have : w = [] := by cases w with
   | nil => rfl
   | cons x l => cases e
  subst this; rfl
 ·rw [u8s_len] at h5
  subst h5
  show readCells s a w.length 0 w.length (fun l => bytesC l fun b => c (.str b)) = _
  unfold readCells
  rw [hget_eq, h4]
  show (Bool.rec (motive := fun _ => Go.Ev.A) _ _ (rdOk w.length true mn w.length (Nat.add 0 w.length)) : Go.Ev.A) = _
  rw [show rdOk w.length true mn w.length (Nat.add 0 w.length) = true from rdOk_or.2 (.inl ⟨rfl, h3.2, Nat.le_refl _, by show 0 + w.length ≤ _; omega⟩)]
  show dropL 0 (u8s w) _ = _
  rw [dropL_eq]
  show takeK w.length _ _ = _
  have e : ((u8s w).drop 0).take w.length = u8s w := by rw [List.drop_zero, List.take_of_length_le (by rw [u8s_len]; exact Nat.le_refl _)]
  rw [takeK_eq _ _ _ (by rw [e]; intro x hx; unfold u8s at hx; obtain ⟨n, _, rfl⟩ := List.mem_map.1 hx; exact iv_ne _ _), e]
  exact bytesC_u8s w hB _
open Classical in
theorem R5Text_ok : Holds Tryz.prog K2 24 := by
 rintro a s ⟨t, x, rfl, ht, hx⟩
 suffices h : ∃ s', (fnC pc0 24).run (Rk Tryz.prog K2 fun _ => ltT5 t x s) [t, x] s = .ret (if okX (names s t) (word s x) then .ls 1 [.str (txtW (names s t) (word s x)), iv .i64 0] else .ls 1 [.str [], iv .i64 1]) s' ∧ Ext s s' by
  obtain ⟨s', h1, h2⟩ := h
  exact ⟨_, s', fn_k2 h1, fun t' x' e => by cases e; exact ⟨h2, rfl⟩⟩
 have hV := Rk_kept (L := fun _ => ltT5 t x s) R5Valid_ok
 have hW := Rk_kept (L := fun _ => ltT5 t x s) R5Word_ok
 have hL := fun h1 h2 h3 => loopT5 (t := t) (x := x) (s := s) ht hx h1 h2 h3
 generalize Rk Tryz.prog _ _ = r at hV hW hL ⊢
 obtain ⟨w, s1, e1, p1⟩ := hV [t] s ⟨t, rfl, ht⟩
 obtain ⟨hE1, rfl⟩ := p1 _ rfl
 by_cases g1 : okT (names s t)
 ·rw [decide_eq_true g1] at e1
  obtain ⟨ht1, hn1⟩ := ht.ext hE1
  obtain ⟨hx1, hxi⟩ := hx.ext hE1
  obtain ⟨w, s2, e2, p2⟩ := hW [t, x] s1 ⟨t, x, rfl, ht1, hx1⟩
  obtain ⟨rfl, rfl⟩ := p2 _ _ rfl
  have hin : inR s2 x (lenV t) ↔ inR s x (lenV t) := by unfold inR; simp [hxi]
  have hok : okX (names s t) (word s x) ↔ (lenV x ≤ 200 ∧ inR s x (lenV t)) := by
   unfold okX
   rw [word_len, names_len]
   refine ⟨fun h => ⟨h.2.1, fun j hj => h.2.2 _ (word_mem.2 ⟨j, hj, rfl⟩)⟩, fun h => ⟨g1, h.1, fun z hz => ?_⟩⟩
   obtain ⟨j, hj, rfl⟩ := word_mem.1 hz
   exact h.2 j hj
  by_cases g2 : lenV x ≤ 200 ∧ inR s x (lenV t)
  ·rw [decide_eq_true (by rw [hin]; exact g2)] at e2
   rw [if_pos (hok.2 g2)]
   simp [allR5Text, gp_sp, e1, e2, nat_iv]
   generalize hA : cR5Text_16.run r _ _ = y
   have := hA ▸ hL g1.2.1 g2.1 g2.2 _ _ ⟨hE1, by simp [gp_sp], by simp [gp_sp], by simp [gp_sp], 0, by simp [gp_sp], Nat.zero_le _, by simp [gp_sp]; exact .inl ⟨rfl, rfl⟩⟩
   obtain ⟨tm', s', rfl, k1, hE, hG⟩ := this
   have hst := hG.strOf (txt_byts (names_byts ht) _)
   exact ⟨s', by simp [blockA_ext, gp_sp, k1, hst], hE⟩
  ·rw [decide_eq_false (by rw [hin]; exact g2)] at e2
   rw [if_neg (fun h => g2 (hok.1 h))]
   exact ⟨s2, by simp [allR5Text, gp_sp, e1, e2, nat_iv], hE1⟩
 ·rw [decide_eq_false g1] at e1
  rw [if_neg (fun h => g1 h.1)]
  exact ⟨s1, by simp [allR5Text, gp_sp, e1, nat_iv], hE1⟩
theorem neg_i (k : IntKind) (a : Int) (c : V → Go.Ev.A) : xUn .neg (iv k a) c = c (iv k (k.wrap (0 - a))) := by
 cases a with
 | ofNat n => exact wrapV_eq k _ c
 | negSucc n => exact wrapV_eq k _ c
def dig0 (m : Nat) : List Nat := if m = 0 then [] else digs m
theorem digs_step (m : Nat) : digs m = dig0 (m / 10) ++ [48 + m % 10] := by
 rw [digs]
 by_cases h : m < 10
 ·rw [if_pos h]
  unfold dig0
  rw [if_pos (by omega), Nat.mod_eq_of_lt h]; rfl
 ·rw [if_neg h]
  unfold dig0
  rw [if_neg (by omega)]
theorem tenth (d : Nat) (hd : d < 10) (c : V → Go.Ev.A) : xSliceT (V.str [48, 49, 50, 51, 52, 53, 54, 55, 56, 57]) (some (iv .i64 (d : Int))) (some (iv .i64 ((d : Int) + 1))) c = c (.str [48 + d]) := by
 rw [sliceT_s _ (a := d) (b := d + 1) (.inr ⟨.i64, rfl⟩) (.inr ⟨.i64, by simp⟩) (by omega) (by simp; omega), Nat.add_sub_cancel_left]
 have : d = 0 ∨ d = 1 ∨ d = 2 ∨ d = 3 ∨ d = 4 ∨ d = 5 ∨ d = 6 ∨ d = 7 ∨ d = 8 ∨ d = 9 := by omega
 rcases this with rfl | rfl | rfl | rfl | rfl | rfl | rfl | rfl | rfl | rfl <;> rfl
def NumE (i o : Nat) (n : Nat) (s : S) (a : Go.Ev.A) : Prop := ∃ tm', a = .ext i tm' s ∧ gp 240 tm' = .bad ∧ gp o tm' = .str (digs n)
theorem NumE.nb {i o n : Nat} {s : S} {a : Go.Ev.A} (h : NumE i o n s a) : ¬ a.isBad := by obtain ⟨_, rfl, _⟩ := h; exact fun h => h
def emp (v : V) : Nat := match v with | .str [] => 1 | _ => 0
def ltNum (n : Nat) (s : S) : Nat → Lt
 | 27 => ⟨fun tm s' => s' = s ∧ gp 240 tm = .bad ∧ ∃ (m : Nat) (w : List Nat), gp 0 tm = iv .i64 (-(m : Int)) ∧ gp 3 tm = .str w ∧ digs n = dig0 m ++ w ∧ m ≤ n,
  fun _ _ a => NumE 0 3 n s a⟩
 | _ => ⟨fun tm s' => s' = s ∧ gp 240 tm = .bad ∧ ∃ (m : Nat) (w : List Nat), gp 0 tm = iv .i64 (m : Int) ∧ gp 4 tm = .str w ∧ ((w = [] ∧ m = n) ∨ (w ≠ [] ∧ digs n = dig0 m ++ w)) ∧ m ≤ n,
  fun _ _ a => NumE 2 4 n s a⟩
theorem digs20 {n : Nat} (h : n ≤ 9223372036854775808) : (digs n).length ≤ 20 := by
 have e : (10 : Nat) ^ 20 = 100000000000000000000 := by decide
 exact digs_len 20 n (by omega) (by rw [e]; omega)
theorem loopNum1 {n : Nat} {s : S} (hn : n ≤ 9223372036854775808) : ∀ tm s', (ltNum n s 27).pre tm s' → (ltNum n s 27).post tm s' (cR43num_10.run (Rk Tryz.prog K2 (ltNum n s)) tm s') := by
 refine loop_k (L := ltNum n s) pcOk0.1 pcOk0.2 szR43num_10 (fun tm _ => (toI (gp 0 tm)).natAbs) (fun _ _ _ _ (h : NumE _ _ _ _ _) => h.nb) ?_
 rintro tm s' ⟨rfl, h240, m, w, h0, h3, hd, hm⟩ IH
 show NumE 0 3 n s' (cR43num_10.run _ tm s')
 generalize Rk Tryz.prog _ _ = r at IH ⊢
 by_cases hlt : 0 < m
 ·have hlt' : -(m : Int) < 0 := by omega
  have hw20 := digs20 hn
  rw [hd, List.length_append] at hw20
  have hd2 := digs_step m
  have e1 : (-(m : Int)).tmod ((10 : Nat) : Int) = -((m % 10 : Nat) : Int) := by rw [Int.neg_tmod, ← Int.ofNat_tmod]
  have e2 : (-(m : Int)).tdiv ((10 : Nat) : Int) = -((m / 10 : Nat) : Int) := by rw [Int.neg_tdiv, ← Int.ofNat_tdiv]
  have r1 : ∀ c : V → Go.Ev.A, xBin ⟨9, []⟩ false .rem (iv .i64 (-(m : Int))) (iv .i64 10) c = c (iv .i64 (-((m % 10 : Nat) : Int))) := fun c => by
   rw [← e1]; exact rem_ip _ _ .i64 c _ (b := 10) (by omega)
  have r2 : ∀ c : V → Go.Ev.A, xBin ⟨9, []⟩ false .quo (iv .i64 (-(m : Int))) (iv .i64 10) c = c (iv .i64 (-((m / 10 : Nat) : Int))) := fun c => by
   have := quo_ip ⟨9, []⟩ false .i64 c (-(m : Int)) (b := 10) (by omega)
   rw [e2, wrap64 (by omega) (by omega)] at this
   exact this
  have hdd : m % 10 < 10 := Nat.mod_lt _ (by omega)
  have hle : m / 10 ≤ m := Nat.div_le_self _ _
  have hlt2 : m / 10 < m := Nat.div_lt_self hlt (by omega)
  generalize hq : m % 10 = d at *
  generalize hq2 : m / 10 = m2 at *
  have w1 : IntKind.i64.wrap (d : Int) = (d : Int) := wrap64 (by omega) (by omega)
  have w2 : IntKind.i64.wrap ((d : Int) + 1) = (d : Int) + 1 := wrap64 (by omega) (by omega)
  have hadd := addS [48 + d] w (by simp; omega)
  have hten := tenth d hdd
  simp [lpR43num_10, allR43num, gp_sp, h0, h3, lss_ii, nat_iv, hlt, r1, r2, neg_i, w1, w2, add_ii, hten, hadd]
  refine IH _ _ (by simp [gp_sp, h0, toI_iv]; omega) ⟨rfl, by simp [gp_sp, h240], m2, (48 + d) :: w, by simp [gp_sp], by simp [gp_sp], ?_, by omega⟩
  rw [hd, show dig0 m = digs m by unfold dig0; rw [if_neg (by omega)], hd2]; simp
 ·have hm0 : m = 0 := by omega
  subst hm0
  simp [lpR43num_10, allR43num, gp_sp, h0, lss_ii, nat_iv]
  exact ⟨_, rfl, by simp [gp_sp, h240], by simp [gp_sp, h3, hd, dig0]⟩
theorem loopNum2 {n : Nat} {s : S} (hn : n ≤ 9223372036854775807) : ∀ tm s', (ltNum n s 29).pre tm s' → (ltNum n s 29).post tm s' (cR43num_29.run (Rk Tryz.prog K2 (ltNum n s)) tm s') := by
  refine loop_k (L := ltNum n s) pcOk0.1 pcOk0.2 szR43num_29 (fun tm _ => 2 * (toI (gp 0 tm)).natAbs + emp (gp 4 tm)) (fun _ _ _ _ (h : NumE _ _ _ _ _) => h.nb) ?_
  rintro tm s' ⟨rfl, h240, m, w, h0, h4, hd, hm⟩ IH
  show NumE 2 4 n s' (cR43num_29.run _ tm s')
  generalize Rk Tryz.prog _ _ = r at IH ⊢
  have heq : ∀ (c : V → Go.Ev.A), xBin ⟨8, []⟩ true .eql (.str w) (.str []) c = c (.bool (decide (w = []))) := fun c => by
    show fB (eqS w []) c = _
    rw [fB_eq, eqS_eq]
  by_cases hgo : 0 < m ∨ w = []
  · have hw20 : w.length ≤ 20 := by
      have := digs20 (n := n) (by omega)
      rcases hd with ⟨h, _⟩ | ⟨_, h⟩
      · rw [h]; exact Nat.zero_le _
      · rw [h, List.length_append] at this; omega
    have hd2 := digs_step m
    have r1 : ∀ c : V → Go.Ev.A, xBin ⟨9, []⟩ false .rem (iv .i64 (m : Int)) (iv .i64 10) c = c (iv .i64 ((m % 10 : Nat) : Int)) := fun c => rem_nat _ _ .i64 (b := 10) (by omega) c
    have r2 : ∀ c : V → Go.Ev.A, xBin ⟨9, []⟩ false .quo (iv .i64 (m : Int)) (iv .i64 10) c = c (iv .i64 ((m / 10 : Nat) : Int)) := fun c => quo_nat _ _ .i64 (b := 10) (by omega) (show m < 9223372036854775808 by omega) c
    have hdd : m % 10 < 10 := Nat.mod_lt _ (by omega)
    have hle : m / 10 ≤ m := Nat.div_le_self _ _
    have hlt2 : 0 < m → m / 10 < m := fun h => Nat.div_lt_self h (by omega)
    generalize hq : m % 10 = d at *
    generalize hq2 : m / 10 = m2 at *
    have w2 : IntKind.i64.wrap ((d : Int) + 1) = (d : Int) + 1 := wrap64 (by omega) (by omega)
    have hadd := addS [48 + d] w (by simp; omega)
    have hten := tenth d hdd
    have key : ∀ t : T, gp 0 t = iv .i64 (m2 : Int) → gp 4 t = .str ((48 + d) :: w) → gp 240 t = .bad → (ltNum n s' 29).post t s' (r.code fiR43num uR43num_29 t s') := fun t t0 t4 t24 => by
      refine IH t s' ?_ ⟨rfl, t24, m2, (48 + d) :: w, t0, t4, .inr ⟨by simp, ?_⟩, by omega⟩
      · rw [t0, t4, h0, h4, toI_iv, toI_iv]
        show 2 * (m2 : Int).natAbs + 0 < _
        rcases hgo with h | h
        · have := hlt2 h
          omega
        · rw [h]; show _ < _ + 1; omega
      · rcases hd with ⟨h, h'⟩ | ⟨h, h'⟩
        · rw [h, ← h', hd2]
        · have : 0 < m := by rcases hgo with h1 | h1
                             · exact h1
                             · exact absurd h1 h
          rw [h', show dig0 m = digs m by unfold dig0; rw [if_neg (by omega)], hd2]; simp
    by_cases hpos : 0 < m
    · have hpos' : (0 : Int) < m := by omega
      simp [lpR43num_29, allR43num, gp_sp, h0, h4, gtr_ii, nat_iv, hpos, r1, r2, w2, add_ii, hten, hadd]
      exact key _ (by simp [gp_sp]) (by simp [gp_sp]) (by simp [gp_sp, h240])
    · have hw0 : w = [] := by rcases hgo with h | h
                              · exact absurd h hpos
                              · exact h
      have hpos' : ¬ (0 : Int) < m := by omega
      have heq' : ∀ (c : V → Go.Ev.A), xBin ⟨8, []⟩ true .eql (.str w) (.str []) c = c (.bool true) := fun c => by rw [heq, decide_eq_true hw0]
      simp [lpR43num_29, allR43num, gp_sp, h0, h4, gtr_ii, nat_iv, hpos, heq', r1, r2, w2, add_ii, hten, hadd]
      exact key _ (by simp [gp_sp]) (by simp [gp_sp]) (by simp [gp_sp, h240])
  · have hm0 : m = 0 := by omega
    have hw0 : w ≠ [] := fun h => hgo (.inr h)
    have heq' : ∀ (c : V → Go.Ev.A), xBin ⟨8, []⟩ true .eql (.str w) (.str []) c = c (.bool false) := fun c => by rw [heq, decide_eq_false hw0]
    subst hm0
    simp [lpR43num_29, allR43num, gp_sp, h0, h4, gtr_ii, nat_iv, heq']
    refine ⟨_, rfl, by simp [gp_sp, h240], ?_⟩
    rcases hd with ⟨h, _⟩ | ⟨_, h⟩
    · exact absurd h hw0
    · simp [gp_sp, h4, h, dig0]
theorem R43num_ok : Holds Tryz.prog K2 25 := by
 rintro a s ⟨z, rfl, hz⟩
 obtain ⟨hz1, hz2⟩ := hz
 have hL1 := loopNum1 (n := z.natAbs) (s := s) (by omega)
 suffices h : (fnC pc0 25).run (Rk Tryz.prog K2 (ltNum z.natAbs s)) [iv .i64 z] s = .ret (.str (itoa z)) s from
  ⟨_, s, fn_k2 h, fun z' e => by
   simp only [List.cons.injEq, and_true] at e
   obtain rfl := iv_inj e
   exact ⟨rfl, rfl⟩⟩
 unfold itoa
 by_cases hneg : z < 0
 ·rw [if_pos hneg]
  have h20 := digs20 (n := z.natAbs) (by omega)
  generalize Rk Tryz.prog _ _ = r at hL1 ⊢
  simp [allR43num, gp_sp, lss_ii, nat_iv, hneg]
  generalize hA : cR43num_10.run r _ _ = y
  have := hA ▸ hL1 _ _ ⟨rfl, by simp [gp_sp], z.natAbs, [], by simp [gp_sp]; congr 1; omega, by simp [gp_sp], by unfold dig0; rw [if_neg (by omega)]; simp, Nat.le_refl _⟩
  obtain ⟨tm', rfl, k1, k2⟩ := this
  have hadd := addS [45] (digs z.natAbs) (by simp; omega)
  simp [blockA_ext, gp_sp, k1, k2, hadd]
 ·rw [if_neg hneg]
  have hL2 := loopNum2 (n := z.natAbs) (s := s) (by omega)
  generalize Rk Tryz.prog _ _ = r at hL2 ⊢
  simp [allR43num, gp_sp, lss_ii, nat_iv, hneg]
  generalize hA : cR43num_29.run r _ _ = y
  have := hA ▸ hL2 _ _ ⟨rfl, by simp [gp_sp], z.natAbs, [], by simp [gp_sp]; congr 1; omega, by simp [gp_sp], .inl ⟨rfl, rfl⟩, Nat.le_refl _⟩
  obtain ⟨tm', rfl, k1, k2⟩ := this
  simp [blockA_ext, gp_sp, k1, k2]
theorem Stp.fld {s : S} {v : V} (h : Stp s v) {i : Nat} (hi : i < lenV v) : ∃ p q0 q1 q2 q3, (∀ k c, xIdxAddrS 4 v (iv k i) c = c p) ∧
  ((∀ c : V → Go.Ev.A, xFieldAddr 0 p c = c q0) ∧ ∀ k : V → S → Go.Ev.A, xLoad false 1 q0 s k = k (iv .i64 (toI (cellV s v (i * 4)))) s) ∧
  ((∀ c : V → Go.Ev.A, xFieldAddr 1 p c = c q1) ∧ ∀ k : V → S → Go.Ev.A, xLoad false 1 q1 s k = k (cellV s v (i * 4 + 1)) s) ∧
  ((∀ c : V → Go.Ev.A, xFieldAddr 2 p c = c q2) ∧ ∀ k : V → S → Go.Ev.A, xLoad false 1 q2 s k = k (cellV s v (i * 4 + 2)) s) ∧
  ((∀ c : V → Go.Ev.A, xFieldAddr 3 p c = c q3) ∧ ∀ k : V → S → Go.Ev.A, xLoad false 1 q3 s k = k (cellV s v (i * 4 + 3)) s) := by
 obtain ⟨p, hp, hP⟩ := h.at_ hi
 obtain ⟨⟨g0, g0'⟩, g1, g2, g3⟩ := h.2.2 i hi
 obtain ⟨q0, a0, b0⟩ := pt_fieldL hP 0 (by omega) (by show cellV s v (i * 4) ≠ .bad; rw [g0]; exact iv_ne _ _)
 obtain ⟨q1, a1, b1⟩ := pt_fieldL hP 1 (by omega) g1.ne
 obtain ⟨q2, a2, b2⟩ := pt_fieldL hP 2 (by omega) g2.ne
 obtain ⟨q3, a3, b3⟩ := pt_fieldL hP 3 (by omega) g3.ne
 exact ⟨p, q0, q1, q2, q3, hp, ⟨a0, fun k => by rw [b0, ← g0]; rfl⟩, ⟨a1, b1⟩, ⟨a2, b2⟩, ⟨a3, b3⟩⟩
def KeepR (tm tm' : T) : Prop := gp 0 tm' = gp 0 tm ∧ gp 1 tm' = gp 1 tm ∧ gp 7 tm' = gp 7 tm ∧ gp 8 tm' = gp 8 tm ∧ gp 240 tm' = gp 240 tm
def InR (b : S) (tm : T) (W full : List Nat) (a : Go.Ev.A) : Prop := ∃ tm' s' W', a = .ext 2 tm' s' ∧ KeepR tm tm' ∧ Ext b s' ∧ gp 6 tm' = .str W' ∧ W' <+: full ∧ (W' = full ∨ 16384 < W'.length) ∧ (W'.length ≤ W.length ∨ W'.length ≤ 16450)
theorem InR.nb {b : S} {tm : T} {W full : List Nat} {a : Go.Ev.A} (h : InR b tm W full a) : ¬ a.isBad := by obtain ⟨_, _, _, rfl, _⟩ := h; exact fun h => h
def ltRI (b : S) (v : V) : Lt := ⟨fun tm s' => Ext b s' ∧ gp 0 tm = v ∧ ∃ i : Nat, i < lenV v ∧ gp 8 tm = iv .i64 (i : Int) ∧ ∃ (k : Nat) (W : List Nat), k ≤ lenV (cellV b v (i * 4 + 3)) ∧ gp 13 tm = iv .i64 (k : Int) ∧ gp 6 tm = .str W ∧ W.length ≤ 40000,
 fun tm _ a => ∀ (i k : Nat) (W : List Nat), i < lenV v → gp 8 tm = iv .i64 (i : Int) → gp 13 tm = iv .i64 (k : Int) → gp 6 tm = .str W → InR b tm W (W ++ (((spansV b (cellV b v (i * 4 + 3))).drop k).map spanT).flatten) a⟩
def R43P (b : S) (v t : V) (a : Go.Ev.A) : Prop := ((∀ j, j < lenV v → okW b v t j) ∧ ∃ tm' s', a = .ext 0 tm' s' ∧ gp 240 tm' = .bad ∧ Ext b s' ∧ ((gp 7 tm' = .bool false ∧ gp 6 tm' = .str (txtS (names b t) (stepsV b v)) ∧ (txtS (names b t) (stepsV b v)).length ≤ 16384) ∨ (gp 7 tm' = .bool true ∧ 16384 < (txtS (names b t) (stepsV b v)).length))) ∨
 ((¬ ∀ j, j < lenV v → okW b v t j) ∧ ∃ tm' s', a = .ret tm' s' ∧ gp 240 tm' = .bad ∧ gp 4 tm' = .str [] ∧ gp 5 tm' = iv .i64 1 ∧ Ext b s')
theorem R43P.nb {b : S} {v t : V} {a : Go.Ev.A} (h : R43P b v t a) : ¬ a.isBad := by rcases h with ⟨_, _, _, rfl, _⟩ | ⟨_, _, _, rfl, _⟩ <;> exact fun h => h
def ltR (b : S) (v t : V) : Nat → Lt
 | 57 => ltRI b v
 | _ => ⟨fun tm s' => Ext b s' ∧ gp 0 tm = v ∧ gp 1 tm = t ∧ gp 240 tm = .bad ∧ ∃ i : Nat, i ≤ lenV v ∧ gp 8 tm = iv .i64 (i : Int) ∧ (∀ j, j < i → okW b v t j) ∧ ∃ W, gp 6 tm = .str W ∧ ((gp 7 tm = .bool false ∧ W = txtS (names b t) ((stepsV b v).take i) ∧ W.length ≤ 16384) ∨ (gp 7 tm = .bool true ∧ 16384 < (txtS (names b t) (stepsV b v)).length)),
  fun _ _ a => R43P b v t a⟩
theorem KeepR.trans {a b c : T} (h : KeepR a b) (k : KeepR b c) : KeepR a c := by
 obtain ⟨h1, h2, h3, h4, h5⟩ := h
 obtain ⟨k1, k2, k3, k4, k5⟩ := k
 exact ⟨k1.trans h1, k2.trans h2, k3.trans h3, k4.trans h4, k5.trans h5⟩
theorem loopRI {b : S} {v t : V} (hv : Stp b v) : ∀ tm s', (ltR b v t 57).pre tm s' → (ltR b v t 57).post tm s' (cR43Text_49.run (Rk Tryz.prog K2 (ltR b v t)) tm s') := by
 refine loop_k (L := ltR b v t) pcOk0.1 pcOk0.2 szR43Text_49 (fun tm _ => 9223372036854775808 - (toI (gp 13 tm)).toNat) (fun tm s' a h1 h2 => ?_) ?_
 ·obtain ⟨_, _, i, g1, g2, k, W, _, g4, g5, _⟩ := h1
  exact (h2 i k W g1 g2 g4 g5).nb
 rintro tm s' ⟨hE, h0, i, hi, h8, k, W, hk, h13, h6, hWl⟩ IH
 intro i' k' W' hi' h8' h13' h6'
 obtain rfl : i = i' := by have := iv_inj (h8.symm.trans h8'); omega
 obtain rfl : k = k' := by have := iv_inj (h13.symm.trans h13'); omega
 obtain rfl : W = W' := by have := h6.symm.trans h6'; injection this
 clear h8' h13' h6' hi'
 have hN := Rk_kept (L := ltR b v t) R43num_ok
 show InR b tm W _ (cR43Text_49.run _ tm s')
 generalize Rk Tryz.prog _ _ = r at IH hN ⊢
 obtain ⟨-, -, -, hsp⟩ := hv.2.2 i hi
 obtain ⟨hv', hvc, -⟩ := hv.ext hE
 obtain ⟨p, q0, q1, q2, q3, hp, -, -, -, a3, b3⟩ := hv'.fld hi
 rw [hvc] at b3
 generalize hc3 : cellV b v (i * 4 + 3) = sp' at *
 obtain ⟨hsp', hspv⟩ := hsp.ext hE
 have hlenle := hsp.2.1
 by_cases hlt : k < lenV sp'
 ·by_cases hle : W.length ≤ 16384
  ·have hle' : (W.length : Int) ≤ 16384 := by omega
   have hlt' : (k : Int) < lenV sp' := by omega
   have hw := wrapS hlt hsp.2.1
   obtain ⟨ps, hps, hPS⟩ := hsp'.at_ hlt
   have hsv : spanV s' sp' k = spanV b sp' k := by unfold spanV; rw [(hsp.1.ext hE).2, (hsp.1.ext hE).2, (hsp.1.ext hE).2]
   rw [hsv] at hPS
   obtain ⟨o0, o1, o2⟩ := hsp.ok hlt
   have hlen := spanT_len ⟨o0, o1, o2⟩
   have hget : (spansV b sp')[k]? = some (spanV b sp' k) := by simp [spansV, hlt]
   rw [drop_get _ spanT hget, ← List.append_assoc]
   generalize spanV b sp' k = q at *
   obtain ⟨z0, z1, z2⟩ := q
   simp only at hPS o0 o1 o2
   have k0 := itoa_len o0
   have k1 := itoa_len o1
   have k2 := itoa_len o2
   have hst := store_new s' 59 3 [iv .i64 0, iv .i64 0, iv .i64 0] [iv .i64 z0, iv .i64 z1, iv .i64 z2] rfl rfl
   have hE1 : Ext s' (addB s' (.row [iv .i64 z0, iv .i64 z1, iv .i64 z2] 3 59 false 0 0 0)) := ext_addB _ _
   have L0 : ∀ s2, Ext (addB s' (.row [iv .i64 z0, iv .i64 z1, iv .i64 z2] 3 59 false 0 0 0)) s2 → ∀ k : V → S → Go.Ev.A, xLoad false 1 (.ptr s'.nx 0 0) s2 k = k (iv .i64 z0) s2 := fun s2 e => newB_load e rfl 0 (by omega) (iv_ne _ _)
   have L1 : ∀ s2, Ext (addB s' (.row [iv .i64 z0, iv .i64 z1, iv .i64 z2] 3 59 false 0 0 0)) s2 → ∀ k : V → S → Go.Ev.A, xLoad false 1 (.ptr s'.nx 0 1) s2 k = k (iv .i64 z1) s2 := fun s2 e => newB_load e rfl 1 (by omega) (iv_ne _ _)
   have L2 : ∀ s2, Ext (addB s' (.row [iv .i64 z0, iv .i64 z1, iv .i64 z2] 3 59 false 0 0 0)) s2 → ∀ k : V → S → Go.Ev.A, xLoad false 1 (.ptr s'.nx 0 2) s2 k = k (iv .i64 z2) s2 := fun s2 e => newB_load e rfl 2 (by omega) (iv_ne _ _)
   generalize hs1 : addB s' (.row [iv .i64 z0, iv .i64 z1, iv .i64 z2] 3 59 false 0 0 0) = s1 at hE1 hst L0 L1 L2
   have num : ∀ z, i64ok z → r.call 25 [iv .i64 z] s1 = .ret (.str (itoa z)) s1 := fun z hz => by
    obtain ⟨w, s2, e, pp⟩ := hN [iv .i64 z] s1 ⟨z, rfl, hz⟩
    obtain ⟨rfl, rfl⟩ := pp _ rfl
    exact e
   have e0 := num z0 o0
   have e1 := num z1 o1
   have e2 := num z2 o2
   have a0 := addS W [32, 40] (by simp; omega)
   have a1 := addS (W ++ [32, 40]) (itoa z0) (by simp; omega)
   have a2 := addS (W ++ [32, 40] ++ itoa z0) [45] (by simp; omega)
   have a3' := addS (W ++ [32, 40] ++ itoa z0 ++ [45]) (itoa z1) (by simp; omega)
   have a4 := addS (W ++ [32, 40] ++ itoa z0 ++ [45] ++ itoa z1) [32] (by simp; omega)
   have a5 := addS (W ++ [32, 40] ++ itoa z0 ++ [45] ++ itoa z1 ++ [32]) (itoa z2) (by simp; omega)
   have a6 := addS (W ++ [32, 40] ++ itoa z0 ++ [45] ++ itoa z1 ++ [32] ++ itoa z2) [41] (by simp; omega)
   have hspt : W ++ spanT (z0, z1, z2) = W ++ [32, 40] ++ itoa z0 ++ [45] ++ itoa z1 ++ [32] ++ itoa z2 ++ [41] := by unfold spanT; simp
   rw [hspt]
   have hW6 : (W ++ [32, 40] ++ itoa z0 ++ [45] ++ itoa z1 ++ [32] ++ itoa z2 ++ [41]).length ≤ 16450 := by rw [← hspt, List.length_append]; omega
   generalize W ++ [32, 40] ++ itoa z0 ++ [45] ++ itoa z1 ++ [32] ++ itoa z2 ++ [41] = t6 at *
   generalize W ++ [32, 40] ++ itoa z0 ++ [45] ++ itoa z1 ++ [32] ++ itoa z2 = t5 at *
   generalize W ++ [32, 40] ++ itoa z0 ++ [45] ++ itoa z1 ++ [32] = t4 at *
   generalize W ++ [32, 40] ++ itoa z0 ++ [45] ++ itoa z1 = t3 at *
   generalize W ++ [32, 40] ++ itoa z0 ++ [45] = t2 at *
   generalize W ++ [32, 40] ++ itoa z0 = t1 at *
   generalize W ++ [32, 40] = t0 at *
   have key : ∀ t', KeepR tm t' → gp 13 t' = iv .i64 ((k : Int) + 1) → gp 6 t' = .str t6 → InR b tm W (t6 ++ (List.map spanT (List.drop (k + 1) (spansV b sp'))).flatten) (r.code fiR43Text uR43Text_49 t' s1) := fun t' tk t13 t6' => by
    have t8 : gp 8 t' = iv .i64 (i : Int) := tk.2.2.2.1.trans h8
    have t13' : gp 13 t' = iv .i64 ((k + 1 : Nat) : Int) := by rw [t13]; rfl
    have := IH t' s1 (by rw [t13, h13, toI_iv, toI_iv]; omega) ⟨hE.trans hE1, tk.1.trans h0, i, hi, t8, k + 1, t6, by rw [hc3]; omega, t13', t6', by omega⟩ i (k + 1) t6 hi t8 t13' t6'
    rw [hc3] at this
    obtain ⟨tm', s2, W', g1, g2, g3, g4, g5, g6, g7⟩ := this
    exact ⟨tm', s2, W', g1, tk.trans g2, g3, g4, g5, g6, .inr (by omega)⟩
   simp [-List.append_assoc, -List.map_drop, det_call, oneF_ret, lpR43Text_49, allR43Text, gp_sp, h0, h8, h13, h6, lss_ii, leq_ii, add_ii, hw, hp, a3, b3, hsp'.1.len, lenT_s, nat_iv, hlt, hle', hps, hPS, newRow_add, hst, field_ptr, L0 s1 (Ext.refl _), L1 s1 (Ext.refl _), L2 s1 (Ext.refl _), e0, e1, e2, beqV_ivI, a0, a1, a2, a3', a4, a5, a6]
   exact key _ ⟨by simp [gp_sp], by simp [gp_sp], by simp [gp_sp], by simp [gp_sp], by simp [gp_sp]⟩ (by simp [gp_sp]) (by simp [gp_sp])
  ·have hle' : ¬ (W.length : Int) ≤ 16384 := by omega
   simp [-List.map_drop, lpR43Text_49, allR43Text, gp_sp, h0, h8, h13, h6, lss_ii, leq_ii, hp, a3, b3, hsp'.1.len, lenT_s, nat_iv, hlt, hle']
   exact ⟨_, _, W, rfl, ⟨by simp [gp_sp], by simp [gp_sp], by simp [gp_sp], by simp [gp_sp], by simp [gp_sp]⟩, hE, by simp [gp_sp, h6], List.prefix_append _ _, .inr (by omega), .inl (Nat.le_refl _)⟩
 ·have hd : (spansV b sp').drop k = [] := List.drop_eq_nil_of_le (by rw [spans_len]; omega)
  rw [hd]
  simp [lpR43Text_49, allR43Text, gp_sp, h0, h8, h13, lss_ii, hp, a3, b3, hsp'.1.len, nat_iv, hlt]
  exact ⟨_, _, W, rfl, ⟨by simp [gp_sp], by simp [gp_sp], by simp [gp_sp], by simp [gp_sp], by simp [gp_sp]⟩, hE, by simp [gp_sp, h6], List.prefix_refl _, .inl rfl, .inl (Nat.le_refl _)⟩
theorem okX_W {b : S} {t x : V} (h : okT (names b t)) : okX (names b t) (word b x) ↔ lenV x ≤ 200 ∧ inR b x (lenV t) := by
 rw [okX_iff]
 exact ⟨fun h => h.2, fun k => ⟨h, k⟩⟩
open Classical in
theorem loopR {b : S} {v t : V} (hv : Stp b v) (ht : Strs b t) (hT : okT (names b t)) (hS : ∀ j, j < lenV v → lenV (cellV b v (j * 4 + 3)) ≤ 250) :
  ∀ tm s', (ltR b v t 157).pre tm s' → (ltR b v t 157).post tm s' (cR43Text_16.run (Rk Tryz.prog K2 (ltR b v t)) tm s') := by
 refine loop_k (L := ltR b v t) pcOk0.1 pcOk0.2 szR43Text_16 (fun tm _ => lenV v - (toI (gp 8 tm)).toNat) (fun _ _ _ _ (h : R43P _ _ _ _) => h.nb) ?_
 rintro tm s' ⟨hE, h0, h1, h240, i, hi, h8, hj, W, h6, hW⟩ IH
 have hX := Rk_kept (L := ltR b v t) R5Text_ok
 have hN := Rk_kept (L := ltR b v t) R43num_ok
 have hIn := loopRI (b := b) (v := v) (t := t) hv
 show R43P _ _ _ (cR43Text_16.run _ tm s')
 generalize Rk Tryz.prog _ _ = r at IH hX hN hIn ⊢
 by_cases hlt : i < lenV v
 ·have hw := wrapS hlt hv.2.1.1
  obtain ⟨hv1, hvc1, -⟩ := hv.ext hE
  obtain ⟨⟨g0, g0'⟩, g1, g2, g3⟩ := hv.2.2 i hlt
  obtain ⟨p, q0, q1, q2, q3, hp, -, ⟨a1, b1⟩, -, -⟩ := hv1.fld hlt
  rw [hvc1] at b1
  obtain ⟨w, s2, e1, p1⟩ := hX [t, cellV b v (i * 4 + 1)] s' ⟨t, _, rfl, (ht.ext hE).1, (g1.ext hE).1⟩
  obtain ⟨hE1, rfl⟩ := p1 _ _ rfl
  rw [(ht.ext hE).2, g1.word hE] at e1
  have hE2 := hE.trans hE1
  obtain ⟨hv2, hvc2, -⟩ := hv.ext hE2
  obtain ⟨p', q0', q1', q2', q3', hp', -, -, ⟨a2, b2⟩, -⟩ := hv2.fld hlt
  obtain rfl := ct_inj (hp .i64) (hp' .i64)
  rw [hvc2] at b2
  obtain ⟨w, s3, e2, p2⟩ := hX [t, cellV b v (i * 4 + 2)] s2 ⟨t, _, rfl, (ht.ext hE2).1, (g2.ext hE2).1⟩
  obtain ⟨hE2', rfl⟩ := p2 _ _ rfl
  rw [(ht.ext hE2).2, g2.word hE2] at e2
  have hE3 := hE2.trans hE2'
  clear p1 p2 hp' b2
  obtain ⟨hv2', hvc2', -⟩ := hv.ext hE2
  obtain ⟨p', q0', q1'', q2'', q3'', hp', -, -, ⟨a2', b2⟩, -⟩ := hv2.fld hlt
  obtain rfl := ct_inj (hp .i64) (hp' .i64)
  obtain rfl := ct_inj a2 a2'
  rw [hvc2] at b2
  by_cases ok1 : okX (names b t) (word b (cellV b v (i * 4 + 1)))
  case neg =>
   rw [if_neg ok1] at e1
   have hbad : ¬ ∀ j, j < lenV v → okW b v t j := fun h => ok1 ((okX_W hT).2 (h i hlt).1)
   by_cases ok2 : okX (names b t) (word b (cellV b v (i * 4 + 2)))
   ·rw [if_pos ok2] at e2
    simp [lpR43Text_16, allR43Text, gp_sp, h0, h1, h8, hv1.1.len, lss_ii, neq_ii, hp, a1, b1, e1, a2, b2, e2, nat_iv, hlt]
    exact .inr ⟨hbad, _, _, rfl, by simp [gp_sp, h240], by simp [gp_sp], by simp [gp_sp], hE3⟩
   ·rw [if_neg ok2] at e2
    simp [lpR43Text_16, allR43Text, gp_sp, h0, h1, h8, hv1.1.len, lss_ii, neq_ii, hp, a1, b1, e1, a2, b2, e2, nat_iv, hlt]
    exact .inr ⟨hbad, _, _, rfl, by simp [gp_sp, h240], by simp [gp_sp], by simp [gp_sp], hE3⟩
  by_cases ok2 : okX (names b t) (word b (cellV b v (i * 4 + 2)))
  case neg =>
   rw [if_pos ok1] at e1
   rw [if_neg ok2] at e2
   have hbad : ¬ ∀ j, j < lenV v → okW b v t j := fun h => ok2 ((okX_W hT).2 (h i hlt).2)
   simp [lpR43Text_16, allR43Text, gp_sp, h0, h1, h8, hv1.1.len, lss_ii, neq_ii, hp, a1, b1, e1, a2, b2, e2, nat_iv, hlt]
   exact .inr ⟨hbad, _, _, rfl, by simp [gp_sp, h240], by simp [gp_sp], by simp [gp_sp], hE3⟩
  rw [if_pos ok1] at e1
  rw [if_pos ok2] at e2
  have okw : okW b v t i := ⟨(okX_W hT).1 ok1, (okX_W hT).1 ok2⟩
  have hj' : ∀ j, j < i + 1 → okW b v t j := fun j h => by
   rcases Nat.lt_or_ge j i with h' | h'
   ·exact hj j h'
   ·rw [show j = i by omega]; exact okw
  have n1 := txt_len hT.2.1 (word b (cellV b v (i * 4 + 1)))
  have n2 := txt_len hT.2.1 (word b (cellV b v (i * 4 + 2)))
  rw [word_len] at n1 n2
  have m1 := okw.1.1
  have m2 := okw.2.1
  rcases hW with ⟨h7, hW1, hW2⟩ | ⟨h7, hlong⟩
  ·-- not long yet
   obtain ⟨hv3, hvc3, -⟩ := hv.ext hE3
   obtain ⟨p', q0', _, _, _, hp', ⟨a0, b0⟩, -, -, -⟩ := hv3.fld hlt
   obtain rfl := ct_inj (hp .i64) (hp' .i64)
   rw [hvc3] at b0
   have hsnoc := txtS_snoc (ns := names b t) (steps_get (s := b) hlt)
   have htl := txtS_take_le (ns := names b t) (stepsV b v) (i + 1)
   have hst' : stepV b v i = ⟨toI (cellV b v (i * 4)), word b (cellV b v (i * 4 + 1)), word b (cellV b v (i * 4 + 2)), spansV b (cellV b v (i * 4 + 3))⟩ := rfl
   have hspl := spans_txt_len g3
   have hs250 := hS i hlt
   have hI := fun a1 a2 a3 a4 a5 => hIn a1 a2 a3 i 0 a4 hlt a5
   generalize hz : toI (cellV b v (i * 4)) = z at *
   have n3 := itoa_len g0'
   obtain ⟨w, s4, e3, p3⟩ := hN [iv .i64 z] s3 ⟨z, rfl, g0'⟩
   obtain ⟨rfl, rfl⟩ := p3 _ rfl
   clear p3
   have hline : lineT (names b t) (stepV b v i) = itoa z ++ [58, 32] ++ txtW (names b t) (word b (cellV b v (i * 4 + 1))) ++ [32, 45, 62, 32] ++ txtW (names b t) (word b (cellV b v (i * 4 + 2))) ++ ((spansV b (cellV b v (i * 4 + 3))).map spanT).flatten ++ [10] := by
    rw [hst']; rfl
   generalize txtW (names b t) (word b (cellV b v (i * 4 + 1))) = x1 at *
   generalize txtW (names b t) (word b (cellV b v (i * 4 + 2))) = x2 at *
   have c0 := addS W (itoa z) (by omega)
   have c1 := addS (W ++ itoa z) [58, 32] (by simp; omega)
   have c2 := addS (W ++ itoa z ++ [58, 32]) x1 (by simp; omega)
   have c3 := addS (W ++ itoa z ++ [58, 32] ++ x1) [32, 45, 62, 32] (by simp; omega)
   have c4 := addS (W ++ itoa z ++ [58, 32] ++ x1 ++ [32, 45, 62, 32]) x2 (by simp; omega)
   have hfull : W ++ itoa z ++ [58, 32] ++ x1 ++ [32, 45, 62, 32] ++ x2 ++ ((spansV b (cellV b v (i * 4 + 3))).map spanT).flatten ++ [10] = txtS (names b t) ((stepsV b v).take (i + 1)) := by
    rw [hsnoc, hline, hW1]; simp only [List.append_assoc]
   have n4 : (W ++ itoa z ++ [58, 32] ++ x1 ++ [32, 45, 62, 32] ++ x2).length ≤ 40000 := by simp; omega
   generalize W ++ itoa z ++ [58, 32] ++ x1 ++ [32, 45, 62, 32] ++ x2 = y5 at *
   generalize W ++ itoa z ++ [58, 32] ++ x1 ++ [32, 45, 62, 32] = y4 at *
   generalize W ++ itoa z ++ [58, 32] ++ x1 = y3 at *
   generalize W ++ itoa z ++ [58, 32] = y2 at *
   generalize W ++ itoa z = y1 at *
   simp [lpR43Text_16, allR43Text, gp_sp, h0, h1, h6, h7, h8, hv1.1.len, lss_ii, neq_ii, hp, a1, b1, e1, a2, b2, e2, a0, b0, e3, c0, c1, c2, c3, c4, nat_iv, hlt]
   generalize hA : cR43Text_49.run r _ s4 = ain
   have hin := hA ▸ hI _ s4 ⟨hE3, by simp [gp_sp, h0], i, hlt, by simp [gp_sp, h8], 0, y5, Nat.zero_le _, by simp [gp_sp], by simp [gp_sp], n4⟩ y5 (by simp [gp_sp, h8])
   have hin := hin (by simp [gp_sp]) (by simp [gp_sp])
   clear hI hIn hA
   rw [List.drop_zero] at hin
   obtain ⟨tm', s5, W', rfl, ⟨k0, k1, k7, k8, k240⟩, hE5, k6, hpre, hor, hWl⟩ := hin
   simp [gp_sp, h0, h1, h7, h8, h240] at k0 k1 k7 k8 k240
   have hpl := hpre.length_le
   have hWl' : W'.length ≤ 40000 := by omega
   have c5 := addS W' [10] (by simp; omega)
   have hfl := congrArg List.length hfull
   rw [List.length_append, List.length_cons, List.length_nil] at hfl
   by_cases g : W'.length + 1 ≤ 16384
   ·have g' : ¬ (16384 : Int) < ((W' ++ [10]).length : Int) := by rw [List.length_append, List.length_cons, List.length_nil]; omega
    obtain rfl : W' = y5 ++ ((spansV b (cellV b v (i * 4 + 3))).map spanT).flatten := by
     rcases hor with h | h
     ·exact h
     ·omega
    rw [hfull] at c5 g'
    have hWn : (txtS (names b t) ((stepsV b v).take (i + 1))).length ≤ 16384 := by omega
    have key : ∀ t', gp 0 t' = v → gp 1 t' = t → gp 240 t' = .bad → gp 8 t' = iv .i64 ((i : Int) + 1) → gp 6 t' = .str (txtS (names b t) ((stepsV b v).take (i + 1))) → gp 7 t' = .bool false → R43P b v t (r.code fiR43Text uR43Text_16 t' s5) := fun t' t0 t1 t24 t8 t6 t7 =>
     IH t' s5 (by rw [t8, h8, toI_iv, toI_iv]; omega) ⟨hE5, t0, t1, t24, i + 1, by omega, by rw [t8]; rfl, hj', _, t6, .inl ⟨t7, rfl, hWn⟩⟩
    clear hfull hfl hpl hsnoc hline hor hpre
    generalize txtS (names b t) ((stepsV b v).take (i + 1)) = Wn at *
    simp [blockA_ext, gp_sp, k6, k8, c5, lenT_s, gtr_ii, add_ii, hw, g']
    exact key _ (by simp [gp_sp, k0]) (by simp [gp_sp, k1]) (by simp [gp_sp, k240]) (by simp [gp_sp]) (by simp [gp_sp]) (by simp [gp_sp])
   ·have g' : (16384 : Int) < ((W' ++ [10]).length : Int) := by rw [List.length_append, List.length_cons, List.length_nil]; omega
    have hlong : 16384 < (txtS (names b t) (stepsV b v)).length := by omega
    have key : ∀ t' W2, gp 0 t' = v → gp 1 t' = t → gp 240 t' = .bad → gp 8 t' = iv .i64 ((i : Int) + 1) → gp 6 t' = .str W2 → gp 7 t' = .bool true → R43P b v t (r.code fiR43Text uR43Text_16 t' s5) := fun t' W2 t0 t1 t24 t8 t6 t7 =>
     IH t' s5 (by rw [t8, h8, toI_iv, toI_iv]; omega) ⟨hE5, t0, t1, t24, i + 1, by omega, by rw [t8]; rfl, hj', _, t6, .inr ⟨t7, hlong⟩⟩
    generalize W' ++ [10] = Wn at *
    simp [blockA_ext, gp_sp, k6, k8, c5, lenT_s, gtr_ii, add_ii, hw, g']
    exact key _ _ (by simp [gp_sp, k0]) (by simp [gp_sp, k1]) (by simp [gp_sp, k240]) (by simp [gp_sp]) (by simp [gp_sp]; rfl) (by simp [gp_sp])
  ·have key : ∀ t', gp 0 t' = v → gp 1 t' = t → gp 240 t' = .bad → gp 8 t' = iv .i64 ((i : Int) + 1) → gp 6 t' = .str W → gp 7 t' = .bool true → R43P b v t (r.code fiR43Text uR43Text_16 t' s3) := fun t' t0 t1 t24 t8 t6 t7 =>
    IH t' s3 (by rw [t8, h8, toI_iv, toI_iv]; omega) ⟨hE3, t0, t1, t24, i + 1, by omega, by rw [t8]; rfl, hj', W, t6, .inr ⟨t7, hlong⟩⟩
   simp [lpR43Text_16, allR43Text, gp_sp, blockA_ext, h0, h1, h7, h8, hv1.1.len, lss_ii, neq_ii, add_ii, hw, hp, a1, b1, e1, a2, b2, e2, nat_iv, hlt]
   exact key _ (by simp [gp_sp, h0]) (by simp [gp_sp, h1]) (by simp [gp_sp, h240]) (by simp [gp_sp]) (by simp [gp_sp, h6]) (by simp [gp_sp, h7])
 ·have hall : ∀ j, j < lenV v → okW b v t j := fun j h => hj j (by omega)
  simp [lpR43Text_16, allR43Text, gp_sp, h0, h8, (hv.ext hE).1.1.len, lss_ii, nat_iv, hlt]
  refine .inl ⟨hall, _, _, rfl, by simp [gp_sp, h240], hE, ?_⟩
  rcases hW with ⟨h7, hW1, hW2⟩ | ⟨h7, hlong⟩
  ·rw [List.take_of_length_le (by rw [steps_len]; omega)] at hW1
   subst hW1
   exact .inl ⟨by simp [gp_sp, h7], by simp [gp_sp, h6], hW2⟩
  ·exact .inr ⟨by simp [gp_sp, h7], hlong⟩
open Classical in
theorem R43Text_ok : Holds Tryz.prog K2 8 := by
 rintro a s ⟨v, t, rfl, hv, ht, hm⟩
 suffices h : ∃ s', (fnC pc0 8).run (Rk Tryz.prog K2 (ltR s v t)) [v, t] s = .ret (textR (names s t) (stepsV s v)) s' ∧ Ext s s' by
  obtain ⟨s', h1, h2⟩ := h
  exact ⟨_, s', fn_k2 h1, fun v' t' e => by cases e; exact ⟨h2, rfl⟩⟩
 have hV := Rk_kept (L := ltR s v t) R5Valid_ok
 have hL := fun h1 h2 => loopR (b := s) (v := v) (t := t) hv ht h1 h2
 generalize Rk Tryz.prog _ _ = r at hV hL ⊢
 obtain ⟨w, s1, e1, p1⟩ := hV [t] s ⟨t, rfl, ht⟩
 obtain ⟨hE1, rfl⟩ := p1 _ rfl
 by_cases g1 : okT (names s t)
 case neg =>
  rw [decide_eq_false g1] at e1
  rw [show textR (names s t) (stepsV s v) = .ls 1 [.str [], iv .i64 1] by unfold textR; rw [if_neg (fun h => g1 h.1)]]
  exact ⟨s1, by simp [allR43Text, gp_sp, e1, nat_iv], hE1⟩
 rw [decide_eq_true g1] at e1
 have hS250 : ∀ j, j < lenV v → lenV (cellV s v (j * 4 + 3)) ≤ 250 := fun j hj => by
  have h1 := Classical.not_not.1 (fun h => hm (many_iff.2 (.inr h))) j hj
  unfold big1 at h1
  omega
 simp [allR43Text, gp_sp, e1, nat_iv]
 generalize hA : cR43Text_16.run r _ s1 = y
 have := hA ▸ hL g1 hS250 _ s1 ⟨hE1, by simp [gp_sp], by simp [gp_sp], by simp [gp_sp], 0, Nat.zero_le _, by simp [gp_sp], (fun j h => by omega), [], by simp [gp_sp], .inl ⟨by simp [gp_sp], by simp [txtS], Nat.zero_le _⟩⟩
 rcases this with ⟨hg, tm', s2, rfl, k1, hE2, hc⟩ | ⟨hg, tm', s2, rfl, k1, k2, k3, hE2⟩
 ·have hok : okS (names s t) (stepsV s v) := okS_iff.2 ⟨g1, hg⟩
  rcases hc with ⟨k7, k6, hl⟩ | ⟨k7, hl⟩
  ·rw [show textR (names s t) (stepsV s v) = .ls 1 [.str (txtS (names s t) (stepsV s v)), iv .i64 0] by unfold textR; rw [if_pos hok, if_pos hl]]
   exact ⟨s2, by simp [blockA_ext, gp_sp, k1, k6, k7], hE2⟩
  ·rw [show textR (names s t) (stepsV s v) = .ls 1 [.str [], iv .i64 2] by unfold textR; rw [if_pos hok, if_neg (by omega)]]
   exact ⟨s2, by simp [blockA_ext, gp_sp, k1, k7], hE2⟩
 ·rw [show textR (names s t) (stepsV s v) = .ls 1 [.str [], iv .i64 1] by unfold textR; rw [if_neg (fun h => hg (okS_iff.1 h).2)]]
  exact ⟨s2, by simp [k1, k2, k3], hE2⟩
theorem ext01 {ns : List (List Nat)} {l : List StD} : ∃ (w : List Nat) (e : Int), textR ns l = .ls 1 [.str w, iv .i64 e] := by
 unfold textR
 split
 ·split
  ·exact ⟨_, _, rfl⟩
  ·exact ⟨_, _, rfl⟩
 ·exact ⟨_, _, rfl⟩
theorem hold2 {f : Nat} (h : Holds Tryz.prog K f) (e : K2 f = K f) : Holds Tryz.prog K2 f := by
 unfold Holds at h ⊢
 rw [e]; exact h
open Classical in
theorem LTexts_ok (hEx : Holds Tryz.prog K 6) (hNum : Holds Tryz.prog K 18) {s : S} {v t : V} (hv : Stp s v) (ht : Strs s t) (hT : Tabs s) : ∃ s', CallX Tryz.prog 3 [v, t] s (.bool true) s' := by
 suffices h : ∃ s', (fnC pc0 3).run (Rk Tryz.prog K2 noL) [v, t] s = .ret (.bool true) s' from ⟨_, fn_k2 h.choose_spec⟩
 have hM : Kept K2 (Rk Tryz.prog K2 noL) 5 := Rk_kept (hold2 Many_ok rfl)
 have hTT : Kept K2 (Rk Tryz.prog K2 noL) 7 := Rk_kept (hold2 (TText_ok hNum) rfl)
 have hE : Kept K2 (Rk Tryz.prog K2 noL) 6 := Rk_kept (hold2 hEx rfl)
 have hR := Rk_kept (L := noL) R43Text_ok
 generalize Rk Tryz.prog _ _ = r at hM hTT hE hR ⊢
 obtain ⟨w, s1, e1, p1⟩ := hM [v] s ⟨v, rfl, hv⟩
 obtain ⟨rfl, rfl⟩ := p1 _ rfl
 have hex : ∀ s : S, r.call 6 [] s = .ret (.bool true) s := fun s => by
  obtain ⟨w, s', h1, h2⟩ := hE [] s rfl
  obtain ⟨rfl, rfl⟩ := h2
  exact h1
 by_cases g1 : manyP (stepsV s1 v)
 ·rw [decide_eq_true g1] at e1
  exact ⟨s1, by simp [allLTexts, gp_sp, e1, hex]⟩
 rw [decide_eq_false g1] at e1
 by_cases g2 : (600 : Int) < lenV t
 ·exact ⟨s1, by simp [allLTexts, gp_sp, e1, ht.1.len, gtr_ii, nat_iv, g2, hex]⟩
 obtain ⟨w, s2, e2, p2⟩ := hTT [v, t] s1 ⟨v, t, rfl, hv, ht, hT, g1⟩
 obtain ⟨hE2, rfl⟩ := p2 _ _ rfl
 obtain ⟨hv2, -, -, hvs⟩ := hv.ext hE2
 obtain ⟨ht2, hns⟩ := ht.ext hE2
 obtain ⟨w, s3, e3, p3⟩ := hR [v, t] s2 ⟨v, t, rfl, hv2, ht2, by rw [hvs]; exact g1⟩
 obtain ⟨hE3, rfl⟩ := p3 _ _ rfl
 rw [hvs, hns] at e3
 obtain ⟨x, e, hx⟩ := ext01 (ns := names s1 t) (l := stepsV s1 v)
 rw [hx] at e2 e3
 have heq : ∀ (c : V → Go.Ev.A), xBin ⟨8, []⟩ false .eql (.str x) (.str x) c = c (.bool true) := fun c => by
  show fB (eqS x x) c = _
  rw [fB_eq, eqS_eq, decide_eq_true rfl]
 exact ⟨s3, by simp [allLTexts, gp_sp, e1, ht.1.len, gtr_ii, nat_iv, g2, e2, e3, heq, eql_ii, hex]⟩
theorem LTexts_true {s : S} {v t : V} (hv : Stp s v) (ht : Strs s t) (hT : Tabs s) : ∃ s', CallX Tryz.prog 3 [v, t] s (.bool true) s' := LTexts_ok Example_ok (TNum_ok (Itoa_ok (IItoa_ok FmtInt_ok))) hv ht hT
end Go.Proofs.YtdeffnjoddncnaaGreatDoor.oev
