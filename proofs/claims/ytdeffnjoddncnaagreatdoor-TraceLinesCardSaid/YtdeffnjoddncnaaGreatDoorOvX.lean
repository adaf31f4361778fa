/- The contracts of the functions that the statements reach, for all arguments. No statement of the seat stands here. Conditions: the arguments are as their types say. By an AI agent. -/
import Derived.Test.YtdeffnjoddncnaaGreatDoorOvU4
namespace Go.Proofs.YtdeffnjoddncnaaGreatDoor.oev
open Go.Ev Go.RowKit
set_option maxRecDepth 100000
theorem eqlS (cst : Bool) (a b : List Nat) (c : V → A) : xBin ⟨8, []⟩ cst .eql (.str a) (.str b) c = c (.bool (decide (a = b))) := by
 show fB (eqS a b) c = _
 rw [eqS_eq, fB_eq]
theorem Stp.slice1 {s : S} {v : V} (h : Stp s v) {i : Nat} (hi : i < lenV v) : ∃ u, (∀ el c, xSlice el 4 v (some (iv .i64 (i : Int))) (some (iv .i64 ((i : Int) + 1))) none s c = c u) ∧ Stp s u ∧ stepsV s u = [stepV s v i] := by
 obtain ⟨u, h1, h2, h3, h4, h5⟩ := h.1.slice h.2.1.2 (lo := some (iv .i64 (i : Int))) (hi := some (iv .i64 ((i : Int) + 1))) (a := i) (b := i + 1) (.inr ⟨.i64, rfl⟩) (.inr ⟨.i64, rfl⟩) (by omega) (by omega)
 have e0 : i + 1 - i = 1 := by omega
 rw [e0] at h3 h4
 have hc : ∀ j, j < 4 → cellV s u j = cellV s v (i * 4 + j) := fun j hj => h4 j (by omega)
 have hstep : stepV s u 0 = stepV s v i := by
  unfold stepV
  rw [show 0 * 4 = 0 from rfl, hc 0 (by omega), Nat.zero_add, Nat.zero_add, Nat.zero_add, hc 1 (by omega), hc 2 (by omega), hc 3 (by omega)]; rfl
 refine ⟨u, h1, ⟨h2, ⟨by omega, h5⟩, fun j hj => ?_⟩, ?_⟩
 ·have hj0 : j = 0 := by omega
  subst hj0
  rw [show 0 * 4 = 0 from rfl, hc 0 (by omega), Nat.zero_add, Nat.zero_add, Nat.zero_add, hc 1 (by omega), hc 2 (by omega), hc 3 (by omega)]
  exact h.2.2 i hi
 ·unfold stepsV
  rw [h3]
  show [stepV s u 0] = _
  rw [hstep]
theorem line_len {ns : List (List Nat)} {st : StD} : (txtW ns st.before).length + (txtW ns st.after).length + 8 ≤ (lineT ns st).length := by
 have : 1 ≤ (itoa st.rule).length := by
  have hd : ∀ n, 1 ≤ (digs n).length := fun n => by unfold digs; split <;> simp
  unfold itoa
  split
  ·simp
  ·exact hd _
 unfold lineT
 simp only [List.length_append, List.length_cons, List.length_nil]
 omega
theorem line_last {ns : List (List Nat)} {st : StD} : (lineT ns st).getD ((lineT ns st).length - 1) 0 = 10 := by
 unfold lineT
 rw [List.length_append, List.getD_eq_getElem?_getD, List.getElem?_append_right (by simp)]
 simp
theorem line_le {ns : List (List Nat)} {l : List StD} {i : Nat} {st : StD} (h : l[i]? = some st) : (lineT ns st).length ≤ (txtS ns l).length := by
 have h1 := txtS_take_le (ns := ns) l (i + 1)
 rw [txtS_snoc h, List.length_append] at h1
 omega
def LLPost (b : S) (v t : V) (w : List Nat) (a : A) : Prop := ∃ tm' s', a = .ext 0 tm' s' ∧ gp 240 tm' = .bad ∧ gp 5 tm' = .str w ∧ gp 7 tm' = .str (txtS (names b t) (stepsV b v))
def ltLL (b : S) (v t : V) (w : List Nat) : Lt := ⟨fun tm s' => Ext b s' ∧ gp 0 tm = v ∧ gp 1 tm = t ∧ gp 5 tm = .str w ∧ gp 240 tm = .bad ∧ ∃ i : Nat, i ≤ lenV v ∧ gp 8 tm = iv .i64 i ∧ gp 7 tm = .str (txtS (names b t) ((stepsV b v).take i)),
 fun _ _ a => LLPost b v t w a⟩
open Classical in
theorem loopLL {b : S} {v t : V} {w : List Nat} (hTb : Tabs b) (hv : Stp b v) (ht : Strs b t) (hNum : Holds Tryz.prog K 18) (hm : ¬ manyP (stepsV b v)) (hok : okS (names b t) (stepsV b v)) (hle : (txtS (names b t) (stepsV b v)).length ≤ 16384) :
  ∀ tm s', (ltLL b v t w).pre tm s' → (ltLL b v t w).post tm s' (cLLines_26.run (Rk Tryz.prog K fun _ => ltLL b v t w) tm s') := by
 refine loop_k (L := fun _ => ltLL b v t w) pcOk0.1 pcOk0.2 szLLines_26 (fun tm _ => lenV v - (toI (gp 8 tm)).toNat) (fun _ _ _ _ (h : LLPost _ _ _ _ _) => by obtain ⟨_, _, rfl, _⟩ := h; exact fun h => h) ?_
 rintro tm s' ⟨hE, h0, h1, h5, h240, i, hi, h8, h7⟩ IH
 have hX := Rk_kept (L := fun _ => ltLL b v t w) SText_ok
 have hTT := Rk_kept (L := fun _ => ltLL b v t w) (TText_ok hNum)
 show LLPost _ _ _ _ (cLLines_26.run _ tm s')
 generalize Rk Tryz.prog _ _ = r at IH hX hTT ⊢
 by_cases hlt : i < lenV v
 ·have hw := wrapS hlt hv.2.1.1
  have hget := steps_get (s := b) hlt
  have hmem : stepV b v i ∈ stepsV b v := List.mem_of_getElem? hget
  have hll := line_le (ns := names b t) hget
  have hsnoc := txtS_snoc (ns := names b t) hget
  have htk := txtS_take_le (ns := names b t) (stepsV b v) i
  have hv' := hv.ext hE
  have ht' := ht.ext hE
  obtain ⟨u, hu, hU, hUs⟩ := hv'.1.slice1 hlt
  rw [hv'.2.2.1 i hlt] at hUs
  have hm1 : ¬ manyP [stepV b v i] := fun h => hm (by
   rcases h with h | ⟨st, hst, h⟩
   ·simp at h
   ·simp at hst
    exact .inr ⟨st, hst ▸ hmem, h⟩)
  have hok1 : okS (names b t) [stepV b v i] := ⟨hok.1, fun st hst => by simp at hst; subst hst; exact hok.2 _ hmem⟩
  have htx1 : txtS (names b t) [stepV b v i] = lineT (names b t) (stepV b v i) := by simp [txtS]
  obtain ⟨w1, s2, e1, p1⟩ := hTT [u, t] s' ⟨u, t, rfl, hU, ht'.1, hTb.ext hE, by rw [hUs]; exact hm1⟩
  obtain ⟨hE2, rfl⟩ := p1 _ _ rfl
  rw [hUs, ht'.2, show textR (names b t) [stepV b v i] = .ls 1 [.str (lineT (names b t) (stepV b v i)), iv .i64 0] by unfold textR; rw [if_pos hok1, htx1, if_pos (by omega)]] at e1
  have hbE2 := hE.trans hE2
  obtain ⟨-, g1, g2, -⟩ := hv.2.2 i hlt
  obtain ⟨x1, x2⟩ := hok.2 _ hmem
  have hst' : (stepV b v i).before = word b (cellV b v (i * 4 + 1)) := rfl
  have hst'' : (stepV b v i).after = word b (cellV b v (i * 4 + 2)) := rfl
  have hlen := line_len (ns := names b t) (st := stepV b v i)
  have hlast := line_last (ns := names b t) (st := stepV b v i)
  rw [hst'] at x1 hlen
  rw [hst''] at x2 hlen
  have hv2 := hv.ext hbE2
  obtain ⟨p, q1, q2, q3, hp, a1, a2, a3, b1, b2, b3⟩ := hv2.1.fields hlt
  rw [hv2.2.1] at b1 b2 b3
  generalize hc1 : cellV b v (i * 4 + 1) = c1 at *
  generalize hc2 : cellV b v (i * 4 + 2) = c2 at *
  obtain ⟨w2, s3, e2, p2⟩ := hX [t, c1] s2 ⟨t, c1, rfl, (ht.ext hbE2).1, (g1.ext hbE2).1, hTb.ext hbE2⟩
  obtain ⟨hE3, rfl⟩ := p2 _ _ rfl
  rw [(ht.ext hbE2).2, g1.word hbE2, if_pos x1] at e2
  have hbE3 := hbE2.trans hE3
  have hv3 := hv.ext hbE3
  obtain ⟨p', q1', q2', q3', hp', a1', a2', a3', b1', b2', b3'⟩ := hv3.1.fields hlt
  rw [hv3.2.1, hc2] at b2'
  have hpp : p = p' := (A.fin.inj ((hp .i64 (fun v => .fin v s3)).symm.trans (hp' .i64 (fun v => .fin v s3)))).1
  subst hpp
  obtain ⟨w3, s4, e3, p3⟩ := hX [t, c2] s3 ⟨t, c2, rfl, (ht.ext hbE3).1, (g2.ext hbE3).1, hTb.ext hbE3⟩
  obtain ⟨hE4, rfl⟩ := p3 _ _ rfl
  rw [(ht.ext hbE3).2, g2.word hbE3, if_pos x2] at e3
  have hbE4 := hbE3.trans hE4
  clear p1 p2 p3
  generalize hta : txtW (names b t) (word b c1) = ta at *
  generalize htb : txtW (names b t) (word b c2) = tb at *
  generalize hln : lineT (names b t) (stepV b v i) = ln at *
  generalize htk : txtS (names b t) ((stepsV b v).take i) = tk at *
  have hll' : ln.length ≤ 16384 := by omega
  have w1' : IntKind.i64.wrap ((ta.length : Int) + tb.length) = (ta.length : Int) + tb.length := wrap64 (by omega) (by omega)
  have w2' : IntKind.i64.wrap ((ta.length : Int) + tb.length + 8) = (ta.length : Int) + tb.length + 8 := wrap64 (by omega) (by omega)
  have w3' : IntKind.i64.wrap ((ln.length : Int) - 1) = ((ln.length - 1 : Nat) : Int) := by rw [wrap64 (by omega) (by omega)]; omega
  have hlt' : ¬ (ln.length : Int) < (ta.length : Int) + tb.length + 8 := by omega
  have hix : ∀ c : V → A, xIndexS (.str ln) (iv .i64 ((ln.length - 1 : Nat) : Int)) c = c (iv .u8 10) := fun c => by
   rw [idxS_s ln .i64 (i := ln.length - 1) (by omega), hlast]; rfl
  have hadd := addS tk ln (by omega)
  have key : ∀ t' : T, gp 0 t' = v → gp 1 t' = t → gp 5 t' = .str w → gp 240 t' = .bad → gp 8 t' = iv .i64 ((i : Int) + 1) → gp 7 t' = .str (tk ++ ln) → LLPost b v t w (r.code fiLLines uLLines_26 t' s4) := fun t' q1 q2 q3 q4 q5 q6 =>
   IH t' s4 (by rw [q5, h8, toI_iv, toI_iv]; omega) ⟨hbE4, q1, q2, q3, q4, i + 1, by omega, by rw [q5]; rfl, by rw [q6, hsnoc]⟩
  simp [lpLLines_26, allLLines, gp_sp, h0, h1, h7, h8, hv'.1.1.len, lss_ii, add_ii, sub_ii, neq_ii, hw, hu, e1, hp, a1, b1, e2, a2', b2', e3, lenT_s, w1', w2', w3', hlt', hix, hadd, nat_iv, hlt]
  exact key _ (by simp [gp_sp, h0]) (by simp [gp_sp, h1]) (by simp [gp_sp, h5]) (by simp [gp_sp, h240]) (by simp [gp_sp]) (by simp [gp_sp])
 ·simp [lpLLines_26, allLLines, gp_sp, h0, h8, (hv.ext hE).1.1.len, lss_ii, nat_iv, hlt]
  rw [List.take_of_length_le (by rw [steps_len]; omega)] at h7
  exact ⟨_, _, rfl, by simp [gp_sp, h240], by simp [gp_sp, h5], by simp [gp_sp, h7]⟩
open Classical in
theorem LLines_ok (hEx : Holds Tryz.prog K 6) (hNum : Holds Tryz.prog K 18) {s : S} {v t : V} (hv : Stp s v) (ht : Strs s t) (hT : Tabs s) : ∃ s', CallX Tryz.prog 4 [v, t] s (.bool true) s' := by
 suffices h : ∃ s', (fnC pc0 4).run (Rk Tryz.prog K fun _ => ltLL s v t (txtS (names s t) (stepsV s v))) [v, t] s = .ret (.bool true) s' from ⟨_, fn_k h.choose_spec⟩
 have hM := Rk_kept (L := fun _ => ltLL s v t (txtS (names s t) (stepsV s v))) Many_ok
 have hTT := Rk_kept (L := fun _ => ltLL s v t (txtS (names s t) (stepsV s v))) (TText_ok hNum)
 have hE := Rk_kept (L := fun _ => ltLL s v t (txtS (names s t) (stepsV s v))) hEx
 have hL := fun h1 h2 h3 => loopLL (b := s) (v := v) (t := t) (w := txtS (names s t) (stepsV s v)) hT hv ht hNum h1 h2 h3
 generalize Rk Tryz.prog _ _ = r at hM hTT hE hL ⊢
 obtain ⟨w, s1, e1, p1⟩ := hM [v] s ⟨v, rfl, hv⟩
 obtain ⟨rfl, rfl⟩ := p1 _ rfl
 have hex : ∀ s : S, r.call 6 [] s = .ret (.bool true) s := fun s => by
  obtain ⟨w, s', h1, h2⟩ := hE [] s rfl
  obtain ⟨rfl, rfl⟩ := h2
  exact h1
 by_cases g1 : manyP (stepsV s1 v)
 ·rw [decide_eq_true g1] at e1
  exact ⟨s1, by simp [allLLines, gp_sp, e1, hex]⟩
 rw [decide_eq_false g1] at e1
 by_cases g2 : (600 : Int) < lenV t
 ·exact ⟨s1, by simp [allLLines, gp_sp, e1, ht.1.len, gtr_ii, nat_iv, g2, hex]⟩
 obtain ⟨w, s2, e2, p2⟩ := hTT [v, t] s1 ⟨v, t, rfl, hv, ht, hT, g1⟩
 obtain ⟨hE2, rfl⟩ := p2 _ _ rfl
 by_cases g3 : okS (names s1 t) (stepsV s1 v)
 case neg =>
  rw [show textR (names s1 t) (stepsV s1 v) = .ls 1 [.str [], iv .i64 1] by unfold textR; rw [if_neg g3]] at e2
  exact ⟨s2, by simp [allLLines, gp_sp, e1, ht.1.len, gtr_ii, nat_iv, g2, e2, neq_ii, eqlS, hex]⟩
 by_cases g4 : (txtS (names s1 t) (stepsV s1 v)).length ≤ 16384
 case neg =>
  rw [show textR (names s1 t) (stepsV s1 v) = .ls 1 [.str [], iv .i64 2] by unfold textR; rw [if_pos g3, if_neg g4]] at e2
  exact ⟨s2, by simp [allLLines, gp_sp, e1, ht.1.len, gtr_ii, nat_iv, g2, e2, neq_ii, eqlS, hex]⟩
 rw [show textR (names s1 t) (stepsV s1 v) = .ls 1 [.str (txtS (names s1 t) (stepsV s1 v)), iv .i64 0] by unfold textR; rw [if_pos g3, if_pos g4]] at e2
 simp [allLLines, gp_sp, e1, ht.1.len, gtr_ii, nat_iv, g2, e2, neq_ii]
 generalize hA : cLLines_26.run r _ _ = y
 have := hA ▸ hL g1 g3 g4 _ _ ⟨hE2, by simp [gp_sp], by simp [gp_sp], by simp [gp_sp], by simp [gp_sp], 0, by omega, by simp [gp_sp], by simp [gp_sp, txtS]⟩
 obtain ⟨tm', s3, rfl, k1, k2, k3⟩ := this
 exact ⟨s3, by simp [allLLines, blockA_ext, gp_sp, k1, k2, k3, eqlS, hex]⟩
theorem LLines_all (hEx : Holds Tryz.prog K 6) {s : S} {v t : V} (hv : Stp s v) (ht : Strs s t) (hT : Tabs s) : ∃ s', CallX Tryz.prog 4 [v, t] s (.bool true) s' :=
 LLines_ok hEx (TNum_ok (Itoa_ok (IItoa_ok FmtInt_ok))) hv ht hT
theorem LLines_true {s : S} {v t : V} (hv : Stp s v) (ht : Strs s t) (hT : Tabs s) : ∃ s', CallX Tryz.prog 4 [v, t] s (.bool true) s' := LLines_all Example_ok hv ht hT
end Go.Proofs.YtdeffnjoddncnaaGreatDoor.oev
