/- The contracts of the functions that the statements reach, for all arguments. No statement of the seat stands here. Conditions: the arguments are as their types say. By an AI agent. -/
import Derived.Test.YtobflfopdndfdaaGreatDoorOvW
namespace Go.Proofs.YtobflfopdndfdaaGreatDoor.oev
open Go.Ev Go.RowKit
set_option maxRecDepth 100000
variable {M0 : Mc}
theorem sorted_unique : ∀ {l l' : List Int}, sorted l → sorted l' → l.Perm l' → l = l'
 | [], l', _, _, h => (List.Perm.nil_eq h)
 | x :: l, [], _, _, h => absurd h.length_eq (by simp)
 | x :: l, y :: l', h1, h2, h => by
  obtain ⟨a1, a2⟩ := List.pairwise_cons.1 h1
  obtain ⟨b1, b2⟩ := List.pairwise_cons.1 h2
  have hxy : x = y := by
   have hx : x ∈ y :: l' := h.subset (by simp)
   have hy : y ∈ x :: l := h.symm.subset (by simp)
   rcases List.mem_cons.1 hx with e | e
   ·exact e
   ·rcases List.mem_cons.1 hy with e' | e'
    ·exact e'.symm
    ·have := a1 y e'
     have := b1 x e
     omega
  subst hxy
  rw [sorted_unique a2 b2 (List.Perm.cons_inv h)]
theorem spRun_mono {M : Mc} : ∀ {n : Nat} {X : (LM × Nat) × List Int} {y : LM × Nat} (k : Nat), spRun M n X = some y → spRun M (n + k) X = some y
 | 0, X, y, k, h => by
  simp only [spRun] at h
  obtain ⟨X, td⟩ := X
  split at h
  ·rename_i e
   subst e
   cases k with
   | zero => simp only [spRun, if_true]; exact h
   | succ k => rw [Nat.zero_add]; simp only [spRun]; exact h
  ·cases h
 | n + 1, (X, td), y, k, h => by
  rw [show n + 1 + k = (n + k) + 1 by omega]
  cases td with
  | nil => simp only [spRun] at h ⊢; exact h
  | cons z td =>
   simp only [spRun] at h ⊢
   split at h
   ·rename_i g
    rw [if_pos g]
    split at h
    ·rename_i Y e
     exact spRun_mono k h
    ·cases h
   ·cases h
theorem spRun_unique {M : Mc} {n n' : Nat} {X : (LM × Nat) × List Int} {y y' : LM × Nat} (h : spRun M n X = some y) (h' : spRun M n' X = some y') : y = y' := by
 have h1 := spRun_mono n' h
 have h2 := spRun_mono n h'
 rw [Nat.add_comm n n'] at h1
 rw [h1] at h2
 injection h2
theorem Td.so {s : S} {N0 : Go.Ev.K} {a : Go.Ev.K} {w : List Int} (h : Td s N0 (.so a w.length 0 w.length 0) w) : Wd s a w ∧ N0.toNat ≤ a.toNat ∧ a.toNat < s.nx.toNat ∧ w ≠ [] := by
 rcases h with ⟨h, _⟩ | ⟨a', l, o, mn, h1, h2, h3, h4, h5, h6, ⟨_, _, h⟩ | ⟨h7, h⟩⟩
 ·cases h
 ·cases h
 ·injection h with e1 e2 e3 _ e4
  subst e1 e3
  rw [List.drop_zero] at h6
  subst h6
  exact ⟨⟨mn, h4, h3⟩, h1, h2, h7⟩
theorem Td.of {s : S} {N0 : Go.Ev.K} {a : Go.Ev.K} {w : List Int} (h : Wd s a w) (h1 : N0.toNat ≤ a.toNat) (h2 : a.toNat < s.nx.toNat) (hw : w ≠ []) : Td s N0 (.so a w.length 0 w.length 0) w := by
 obtain ⟨mn, h3, h4⟩ := h
 exact .inr ⟨a, w, 0, mn, h1, h2, h4, h3, Nat.zero_le _, rfl, .inr ⟨hw, rfl⟩⟩
theorem Spread_ok (hT : Holds Tryz.prog (K M0) 86) (hB : Holds Tryz.prog (K M0) 87) : Holds Tryz.prog (K M0) 34 := by
 rintro a s ⟨m, c, x, y, ks, n, h⟩
 obtain ⟨k0, ws, hc, hk0, hSl⟩ := h.mr.ex
 have hws : ws ≠ .bad := by
  rcases hSl.1 with (rfl | rfl) | ⟨_, _, _, _, ⟨_, rfl, _⟩ | ⟨_, rfl⟩, _⟩ <;> exact fun h => by cases h
 have key : ((fnC pc0 34).run (RkN Tryz.prog (K M0) KN (ltSp ⟨⟨s, m, c, x⟩, M0, y⟩)) a s).all fun v1 s1 => v1 = Go.Ev.undef ∧ s.nx.toNat ≤ s1.nx.toNat ∧ ∀ k, k.toNat < s.nx.toNat → Tr.get B.none k s1.h = if k = m then .map (y.1.map toME) y.2 else Tr.get B.none k s.h := by
  have l1 := loopSp1 (M0 := M0) (L := ltSp ⟨⟨s, m, c, x⟩, M0, y⟩) rfl
  have l3 := loopSp3 (M0 := M0) ⟨⟨s, m, c, x⟩, M0, y⟩ hT hB
  have hS := kept (M0 := M0) (L := ltSp ⟨⟨s, m, c, x⟩, M0, y⟩) SortI_ok
  generalize RkN Tryz.prog _ _ _ = r at l1 l3 hS ⊢
  rw [h.args]
  obtain ⟨b1, hb1⟩ : ∃ b1, b1 = addB s (.row c 4 37 false 0 0 0) := ⟨_, rfl⟩
  have hE1 : Ext s b1 := by rw [hb1]; exact ext_addB _ _
  have hrow1 : Tr.get B.none s.nx b1.h = .row c 4 37 false 0 0 0 := by rw [hb1]; exact addB_get _ _
  have hnx1 : b1.nx = s.nx.succ := by rw [hb1]; rfl
  have hmp1 : MapAt b1 m x := (hE1.get _ h.lt).trans h.at_
  have hrg := fun k => rangeM_ok hmp1 h.ok k
  obtain ⟨b2, hb2⟩ : ∃ b2, b2 = addB b1 (.mit m (x.1.map toME) x.2 (x.1.map toME) none) := ⟨_, rfl⟩
  rw [← hb2, hnx1] at hrg
  have hE2 : Ext b1 b2 := by rw [hb2]; exact ext_addB _ _
  have hcl : c.length = 4 := by rw [hc]; rfl
  have hcc : ∀ f : List V → Go.Ev.A, cellsC 4 (.ls 0 c) f = f c := fun f => cellsC_ls 4 c hcl f
  have hnr : ∀ f : Go.Ev.K → Nat → S → Go.Ev.A, Go.Ev.newRow s 37 c false f = f s.nx 4 b1 := fun f => by rw [newRow_add, hcl, hb1]
  have hltm : m.toNat < b1.nx.toNat := by have := h.lt; rw [hnx1, K.toNat_succ]; omega
  have n1 := K.toNat_succ s.nx
  have n2 := K.toNat_succ s.nx.succ
  have hF : ∀ tm', gp 0 tm' = .ref 0 m → gp 3 tm' = .ptr s.nx 0 0 → gp 240 tm' = .bad → SpF ⟨s, m, c, x⟩ tm' b2 := fun tm' e0 e3 eb =>
   ⟨e0, e3, eb, (hE2.get s.nx (by rw [hnx1, n1]; omega)).trans hrow1, by rw [hb2]; show (K.succ (K.succ s.nx)).toNat ≤ (K.succ b1.nx).toNat; rw [hnx1]; exact Nat.le_refl _, fun k (hk : k.toNat < s.nx.toNat) _ => (hE2.get k (by rw [hnx1, n1]; omega)).trans (hE1.get k hk), h.lt⟩
  have hit : ItAt b2 s.nx.succ m x x.1 none := ⟨by rw [hb2, ← hnx1]; exact addB_get _ _, (hE2.get _ hltm).trans hmp1⟩
  simp -implicitDefEqProofs [allSpread, gp_sp, hcc, hnr, hrg]
  generalize hX : cSpread_8.run r _ _ = A1
  have h2 : A1.all (rgLeaf ⟨s, m, c, x⟩) := by
   rw [← hX]
   refine (fun h => l1 _ _ ⟨_, h⟩ _ h) ⟨hF _ (by simp [gp_sp]) (by simp [gp_sp]) (by simp [gp_sp]), h.ok, ?_, by simp [gp_sp]; rfl, [], x.1, none, List.Perm.refl _, hit, .inl ⟨by simp [gp_sp], rfl⟩, .inl ⟨rfl, by simp [gp_sp]⟩⟩
   have hl := h.srt.2.1.length_eq
   rw [List.length_map] at hl
   have h12 := h.srt.2.2
   show x.1.length ≤ 12
   omega
  refine F.all_fn (R := fun l => (outF (bindR (fun tm s => finV (gp 240 tm) (A.fin Go.Ev.undef s)) l)).all _) (fun _ _ h => h) ?_
  refine A.all_seq' (A.all_block ?_ h2)
  rintro l - ⟨tm3, st3, rfl, hF3, hmp3, w, hw, htd, hgr⟩
  have hold : ∀ st4 : S, MapAt st4 m y → SpF ⟨s, m, c, x⟩ tm3 st4 → s.nx.toNat ≤ st4.nx.toNat ∧ ∀ k, k.toNat < s.nx.toNat → Tr.get B.none k st4.h = if k = m then .map (y.1.map toME) y.2 else Tr.get B.none k s.h := fun st4 h1 h2 => by
   refine ⟨by have := h2.nx; unfold SQ.N0 at this; simp only at this; omega, fun k hk => ?_⟩
   by_cases e : k = m
   ·rw [if_pos e, e]; exact h1
   ·rw [if_neg e]; exact h2.old k hk e
  simp -implicitDefEqProofs only [blockN_eq, A.all_nrm, seqA_nrm]
  have fin : ∀ v st4, r.call 85 [gp 4 tm3] st3 = .ret v st4 → SpF ⟨s, m, c, x⟩ tm3 st4 → MapAt st4 m x → Td st4 s.nx.succ.succ (gp 4 tm3) ks → A.all (fun l => (outF (bindR (fun tm s => finV (gp 240 tm) (A.fin Go.Ev.undef s)) l)).all fun v1 s1 => v1 = Go.Ev.undef ∧ s.nx.toNat ≤ s1.nx.toNat ∧ ∀ k, k.toNat < s.nx.toNat → Tr.get B.none k s1.h = if k = m then .map (y.1.map toME) y.2 else Tr.get B.none k s.h)
    (seqA (fun tm s => blockN 2 (cSpread_22.run r tm s)) (foldF (r.call 85 [gp 4 tm3] st3) fun v1 s => A.nrm tm3 s)) := by
   intro v st4 hc hF4 hmp4 htd4
   rw [hc]
   simp -implicitDefEqProofs only [foldF_ret, seqA_nrm]
   generalize hY : cSpread_22.run r _ _ = A2
   have h5 : whO ⟨⟨s, m, c, x⟩, M0, y⟩ A2 := by
    rw [← hY]
    exact l3 n _ _ ⟨(x, ks), hF4, h.mr, ⟨x, h.at_⟩, h.al, hmp4, h.ok, h.vals, htd4, h.run⟩
   obtain ⟨tm5, st5, rfl, hF5, hmp5⟩ := h5
   obtain ⟨o1, o2⟩ : s.nx.toNat ≤ st5.nx.toNat ∧ ∀ k, k.toNat < s.nx.toNat → Tr.get B.none k st5.h = if k = m then .map (y.1.map toME) y.2 else Tr.get B.none k s.h := by
    refine ⟨by have := hF5.nx; unfold SQ.N0 at this; simp only at this; omega, fun k hk => ?_⟩
    by_cases e : k = m
    ·rw [if_pos e, e]; exact hmp5
    ·rw [if_neg e]; exact hF5.old k hk e
   have hb5 : gp 240 tm5 = .bad := hF5.bd
   simp -implicitDefEqProofs only [blockN_eq, A.all_nrm, bindR_nrm, hb5, finV_bad, outF_fin]
   exact ⟨rfl, o1, o2⟩
  rcases hgr with ⟨rfl, h4⟩ | ⟨a4, h4⟩
  ·obtain ⟨v, st4, hc, -, h6⟩ := hS [.nil 1] st3 (.inr rfl)
   obtain rfl := h6 rfl
   have hks : ks = [] := by
    have := (h.srt.2.1.trans hw.symm).length_eq
    exact List.length_eq_zero_iff.1 (by simpa using this)
   exact fin v st4 (by rw [h4]; exact hc) hF3 hmp3 (by rw [hks]; exact htd)
  ·rw [h4] at htd
   obtain ⟨hwd, hN, hlt4, hne4⟩ := Td.so htd
   have hw12 : w.length ≤ 12 := by
    have h1 := hw.length_eq
    have h2 := h.srt.2.1.length_eq
    have h3 := h.srt.2.2
    simp only at h1
    omega
   obtain ⟨v, st4, hc, h6, -⟩ := hS [soV a4 w.length] st3 (.inl ⟨a4, w, rfl, hwd, hw12⟩)
   obtain ⟨w', hwd', hs', hp', ho', hn'⟩ := h6 a4 w rfl hwd
   have hkw : w' = ks := sorted_unique hs' h.srt.1 (hp'.trans (hw.trans h.srt.2.1.symm))
   subst hkw
   have hlen : w'.length = w.length := hp'.length_eq
   have hN' : s.nx.succ.succ.toNat ≤ a4.toNat := hN
   have hne : ∀ k : Go.Ev.K, k.toNat ≤ s.nx.toNat → k ≠ a4 := fun k hk e => by rw [e] at hk; omega
   refine fin v st4 (by rw [h4]; exact hc) (hF3.set (by rw [hn']; exact Nat.le_refl _) (fun k hk _ => ho' k (hne k hk))) ((ho' m (hne m (by have := h.lt; omega))).trans hmp3) ?_
   rw [h4, ← hlen]
   exact Td.of hwd' hN' (by rw [hn']; exact hlt4) (fun e => hne4 (List.length_eq_zero_iff.1 (by rw [← hlen, e]; rfl)))
 obtain ⟨X, hX1, hX2⟩ := fn_callN pcOk0.1 pcOk0.2 (RkN_ok pc0 (K M0) KN _) key
 obtain ⟨s', h1, h2, h3⟩ := hX1.trim hX2
 refine ⟨_, s', h1, ?_⟩
 intro m' c' x' y' ks' n' h'
 have ea := h.args.symm.trans h'.args
 injection ea with e0 ea
 injection ea with e1 _
 injection e0 with _ e0
 injection e1 with _ e1
 subst e0 e1
 obtain rfl := h.at_.inj h'.at_ h.vals h'.vals h.ok.2 h'.ok.2
 obtain rfl := sorted_unique h.srt.1 h'.srt.1 (h.srt.2.1.trans h'.srt.2.1.symm)
 obtain rfl := spRun_unique h.run h'.run
 refine ⟨?_, h2, fun k hk hne => ?_, _, _, h.at_⟩
 ·show Tr.get B.none m s'.h = _
  rw [h3 m h.lt, if_pos rfl]
 ·rw [h3 k hk, if_neg hne]
end Go.Proofs.YtobflfopdndfdaaGreatDoor.oev
namespace Go.Ev
open Go.RowKit
def kN (k : K) : Nat → K | 0 => k | n + 1 => (kN k n).succ
theorem kN_nat (k : K) : ∀ n, (kN k n).toNat = k.toNat + n
 | 0 => rfl
 | n + 1 => by show (kN k n).succ.toNat = _; rw [K.toNat_succ, kN_nat k n]; omega
theorem kN_inj {k : K} {i j : Nat} (h : kN k i = kN k j) : i = j := by
 have := congrArg K.toNat h
 rw [kN_nat, kN_nat] at this
 omega
end Go.Ev
namespace Go.Proofs.YtobflfopdndfdaaGreatDoor.oev
open Go.Ev Go.RowKit
set_option maxRecDepth 100000
variable {M0 : Mc}
def cellR (k : Go.Ev.K) (n j : Nat) : List V := (List.range n).map fun i => if i < j then .ref 0 (kN k (i + 1)) else .nil 2
structure CQ where
 s : S
 n : Nat
def mkIn (q : CQ) (tm : Go.Ev.T) (st : S) : Prop := q.n ≤ 11 ∧ gp 240 tm = .bad ∧ gp 2 tm = .sl q.s.nx 0 0 q.n q.n ∧ gp 4 tm = iv .i64 (q.n : Int) ∧ ∃ j : Nat, j ≤ q.n ∧ gp 5 tm = iv .i64 (j : Int) ∧ Ext q.s st ∧ st.nx = kN q.s.nx (j + 1) ∧ Tr.get B.none q.s.nx st.h = .row (cellR q.s.nx q.n j) q.n 76 false 0 0 0 ∧ ∀ i, i < j → Tr.get B.none (kN q.s.nx (i + 1)) st.h = .map [] 0
def mkOut (q : CQ) (a : Go.Ev.A) : Prop := ∃ tm' st, a = .ext 0 tm' st ∧ gp 240 tm' = .bad ∧ gp 2 tm' = .sl q.s.nx 0 0 q.n q.n ∧ Ext q.s st ∧ st.nx = kN q.s.nx (q.n + 1) ∧ Tr.get B.none q.s.nx st.h = .row (cellR q.s.nx q.n q.n) q.n 76 false 0 0 0 ∧ ∀ i, i < q.n → Tr.get B.none (kN q.s.nx (i + 1)) st.h = .map [] 0
def ltMk : Nat → Lt
 | 23 => ltI mkIn mkOut
 | _ => ⟨fun _ _ => True, fun _ _ _ => True⟩
theorem loopMk : ∀ tm s', (ltMk 23).pre tm s' → (ltMk 23).post tm s' (cSearchC_8.run (RkN Tryz.prog (K M0) KN ltMk) tm s') := by
 refine loop_n (L := ltMk) pcOk0.1 pcOk0.2 szSearchC_8 (fun tm _ => (toI (gp 4 tm)).toNat - (toI (gp 5 tm)).toNat) ?_ ?_
 ·rintro tm s a ⟨q, hq⟩ h
  obtain ⟨_, _, rfl, _⟩ : mkOut _ _ := h q hq
  exact fun h => h
 rintro tm st - IH ⟨s, n⟩ ⟨h11, hb, g2, g4, j, hj, g5, hE, hnx, hrow, hmap⟩
 have IH' : ∀ tm' s3 q, (toI (gp 4 tm')).toNat - (toI (gp 5 tm')).toNat < (toI (gp 4 tm)).toNat - (toI (gp 5 tm)).toNat → mkIn q tm' s3 → mkOut q ((RkN Tryz.prog (K M0) KN ltMk).code fiSearchC uSearchC_8 tm' s3) := fun tm' s3 q h1 h2 => IH tm' s3 h1 ⟨q, h2⟩ q h2
 clear IH
 show mkOut _ (cSearchC_8.run _ tm st)
 generalize RkN Tryz.prog _ _ _ = r at IH' ⊢
 simp only at h11 g2 g4 hj hE hnx hrow hmap
 by_cases hlt : j < n
 ·have w2 : IntKind.i64.wrap ((j : Int) + 1) = (j : Int) + 1 := wrap64 (by omega) (by omega)
  obtain ⟨st1, hst1⟩ : ∃ st1, st1 = addB st (.map [] 0) := ⟨_, rfl⟩
  have hE1 : Ext st st1 := by rw [hst1]; exact ext_addB _ _
  have n0 := kN_nat s.nx (j + 1)
  have hlt0 : s.nx.toNat < st.nx.toNat := by rw [hnx, n0]; omega
  have hrow1 : Tr.get B.none s.nx st1.h = .row (cellR s.nx n j) n 76 false 0 0 0 := (hE1.get _ hlt0).trans hrow
  have hidx : ∀ c : V → Go.Ev.A, xIdxAddrS 1 (.sl s.nx 0 0 n n) (iv .i64 (j : Int)) c = c (.ptr s.nx 0 j) := fun c => by
   show (Bool.rec (motive := fun _ => Go.Ev.A) _ _ (Nat.blt j n) : Go.Ev.A) = _
   rw [show Nat.blt j n = true by rw [Nat.blt_eq]; exact hlt]
   show fN (Nat.add 0 (Nat.mul j 1)) (fun o => c (.ptr s.nx 0 o)) = _
   rw [fN_eq]
   show c (.ptr s.nx 0 (0 + j * 1)) = _
   rw [show 0 + j * 1 = j by omega]
  have hst := fun k => store_at hrow1 j (.ref 0 st.nx) (fun c => cellsC_ref 0 st.nx c) hlt k
  have hcell : upd [.ref 0 st.nx] j (cellR s.nx n j) = cellR s.nx n (j + 1) := by
   rw [upd_set (by simp [cellR]; exact hlt)]
   apply List.ext_getElem?
   intro i
   by_cases hi : i < n
   ·rw [List.getElem?_set]
    simp only [cellR, List.length_map, List.length_range, List.getElem?_map, List.getElem?_range hi, Option.map_some]
    by_cases e : j = i
    ·subst e
     rw [if_pos rfl, if_pos hlt, if_pos (by omega), hnx]
    ·rw [if_neg e]
     by_cases e2 : i < j
     ·rw [if_pos e2, if_pos (by omega)]
     ·rw [if_neg e2, if_neg (by omega)]
   ·rw [List.getElem?_eq_none (by simp [cellR]; omega), List.getElem?_eq_none (by simp [cellR]; omega)]
  rw [hcell] at hst
  obtain ⟨st2, hst2⟩ : ∃ st2, st2 = setB st1 s.nx (.row (cellR s.nx n (j + 1)) n 76 false 0 0 0) := ⟨_, rfl⟩
  rw [← hst2] at hst
  have hk2 : ∀ k, k ≠ s.nx → Tr.get B.none k st2.h = Tr.get B.none k st1.h := fun k hk => by rw [hst2, setB_get, if_neg hk]
  have hnew : ∀ c : Go.Ev.K → S → Go.Ev.A, hnew st (.map [] 0) c = c st.nx st1 := fun c => by rw [hnew_add, hst1]
  have hnx2 : st2.nx = st.nx.succ := by rw [hst2, hst1]; rfl
  have hEn : Ext s st2 := by
   refine ⟨by rw [hnx2, K.toNat_succ]; omega, fun k hk => ?_⟩
   rw [hk2 k (fun e => by rw [e] at hk; omega), hE1.get k (by omega)]
   exact hE.get k hk
  simp -implicitDefEqProofs [lpSearchC_8, allSearchC, gp_sp, g2, g4, g5, lss_ii, hlt, hnew, hidx, hst, add_ii, w2, nat_iv]
  refine IH' _ st2 ⟨s, n⟩ (mu_lt2 g4 g5 (by simp [gp_sp, g4]) (by simp [gp_sp]) hlt) ⟨h11, by simp [gp_sp, hb], by simp [gp_sp, g2], by simp [gp_sp, g4], j + 1, hlt, by simp [gp_sp], hEn, by rw [hnx2, hnx]; rfl, by rw [hst2, setB_get, if_pos rfl], fun i hi => ?_⟩
  ·have ni := kN_nat s.nx (i + 1)
   show Tr.get B.none (kN s.nx (i + 1)) st2.h = _
   rw [hk2 (kN s.nx (i + 1)) (fun e => by rw [e] at ni; omega)]
   by_cases e : i = j
   ·subst e
    rw [← hnx, hst1]; exact addB_get _ _
   ·rw [hE1.get _ (by rw [ni, hnx, n0]; omega)]
    exact hmap i (by omega)
 ·obtain rfl : j = n := by omega
  simp -implicitDefEqProofs [lpSearchC_8, allSearchC, gp_sp, g4, g5, lss_ii, nat_iv]
  exact ⟨_, st, rfl, by simp [gp_sp, hb], by simp [gp_sp, g2], hE, hnx, hrow, hmap⟩
theorem rep_cell (k : Go.Ev.K) (n : Nat) : rep [V.nil 2] n = cellR k n 0 := by
 have h1 : ∀ n, rep [V.nil 2] n = List.replicate n (V.nil 2) := fun n => by
  induction n with
  | zero => rfl
  | succ n ih => show [V.nil 2] ++ rep [V.nil 2] n = _; rw [ih]; rfl
 rw [h1]
 symm
 rw [List.eq_replicate_iff]
 refine ⟨by simp [cellR], fun b hb => ?_⟩
 obtain ⟨i, _, rfl⟩ := List.mem_map.1 hb
 rfl
theorem SearchC_ok : Holds Tryz.prog (K M0) 33 := by
 rintro a s ⟨kc, vv, el, rfl, hkc, hlt, hI, h10⟩
 have key : ∃ st, (fnC pc0 33).run (RkN Tryz.prog (K M0) KN ltMk) [.ptr kc 0 0] s = .ret (.sl s.nx 0 0 (lenV vv + 1) (lenV vv + 1)) st ∧ Ext s st ∧ st.nx = kN s.nx (lenV vv + 1 + 1) ∧ Tr.get B.none s.nx st.h = .row (cellR s.nx (lenV vv + 1) (lenV vv + 1)) (lenV vv + 1) 76 false 0 0 0 ∧ ∀ i, i < lenV vv + 1 → Tr.get B.none (kN s.nx (i + 1)) st.h = .map [] 0 := by
  have l1 := loopMk (M0 := M0)
  generalize RkN Tryz.prog _ _ _ = r at l1 ⊢
  have hld : ∀ k : V → S → Go.Ev.A, xLoad false 1 (.ptr kc 0 0) s k = k vv s := fun k => load_at hkc 0 rfl (by omega) hI.ne k
  have hlen := fun c => hI.1.len c
  have w1 : IntKind.i64.wrap ((lenV vv : Int) + 1) = (lenV vv : Int) + 1 := wrap64 (by omega) (by omega)
  obtain ⟨st1, hst1⟩ : ∃ st1, st1 = addB s (.row (cellR s.nx (lenV vv + 1) 0) (lenV vv + 1) 76 false 0 0 0) := ⟨_, rfl⟩
  have hmk : ∀ k : V → S → Go.Ev.A, xMakeSlice 76 8 [.nil 2] (iv .i64 ((lenV vv + 1 : Nat) : Int)) (iv .i64 ((lenV vv + 1 : Nat) : Int)) s k = k (.sl s.nx 0 0 (lenV vv + 1) (lenV vv + 1)) st1 := fun k => by
   rw [makeS_z 76 8 [.nil 2] (lenV vv + 1) (by omega) (by omega) s k, repL_eq, rep_cell s.nx, show (cellR s.nx (lenV vv + 1) 0).length = lenV vv + 1 by simp [cellR], hst1]
  have hmk' : ∀ k : V → S → Go.Ev.A, xMakeSlice 76 8 [.nil 2] (iv .i64 ((lenV vv : Int) + 1)) (iv .i64 ((lenV vv : Int) + 1)) s k = k (.sl s.nx 0 0 (lenV vv + 1) (lenV vv + 1)) st1 := hmk
  have hsl : ∀ c : V → Go.Ev.A, xLenS (.sl s.nx 0 0 (lenV vv + 1) (lenV vv + 1)) c = c (iv .i64 ((lenV vv : Int) + 1)) := fun c => rfl
  simp -implicitDefEqProofs [allSearchC, gp_sp, nat_iv, hld, hlen, add_ii, w1, hmk', hsl]
  generalize hX : cSearchC_8.run r _ _ = A1
  have h2 : mkOut ⟨s, lenV vv + 1⟩ A1 := by
   rw [← hX]
   refine (fun h => l1 _ _ ⟨_, h⟩ _ h) ⟨by show lenV vv + 1 ≤ 11; omega, by simp [gp_sp], by simp [gp_sp], by simp [gp_sp], 0, Nat.zero_le _, by simp [gp_sp], by rw [hst1]; exact ext_addB _ _, by rw [hst1]; rfl, by rw [hst1]; exact addB_get _ _, fun i hi => absurd hi (Nat.not_lt_zero _)⟩
  obtain ⟨tm3, st3, rfl, hb3, g23, k1, k2, k3, k4⟩ := h2
  refine ⟨st3, ?_, k1, k2, k3, k4⟩
  simp -implicitDefEqProofs [gp_sp, hb3, g23]
 obtain ⟨st, h1, h2, h3, h4, h5⟩ := key
 refine ⟨_, st, fn_x h1, ?_⟩
 intro kc' vv' el' e hkc'
 injection e with e _
 injection e with e
 subst e
 rw [hkc] at hkc'
 injection hkc' with e
 injection e with e
 subst e
 refine ⟨h2, s.nx, fun i => kN s.nx (i + 1), rfl, Nat.le_refl _, by rw [h3, kN_nat]; omega, ?_, fun i hi => ⟨h5 i hi, by rw [kN_nat]; omega, by rw [h3, kN_nat, kN_nat]; omega⟩, fun i j _ _ h => by have := kN_inj h; omega⟩
 rw [h4]
 congr 1
 exact List.map_congr_left fun i hi => if_pos (List.mem_range.1 hi)
end Go.Proofs.YtobflfopdndfdaaGreatDoor.oev
namespace Go.Ev
open Go.RowKit
variable {P : Program}
def okS (v : V) : Prop := v = .nil 1 ∨ 0 < lenV v ∨ ∃ a w o, v = .sl a w o 0 0
theorem Sl.abs {n0 : Nat} {w0 w : World} {ν : Val} {s : S} {sz : Nat} {v : V} {y : Value} (hst : St P n0 w0 ν s w) (h : Sl s sz v) (hk : okS v) (hsz : 0 < sz) (hv : VR ν v y) :
  Sl (absS w) sz (absC w.heap.size y) ∧ lenV (absC w.heap.size y) = lenV v ∧ (∃ u l c, y = .slice u l c) ∧ ∀ j, j < lenV v * sz → ∃ z, VR ν (cellV s v j) z ∧ cellV (absS w) (absC w.heap.size y) j = absC w.heap.size z := by
 have gen : ∀ (a : K) (x o len cap : Nat) (l : List V) (n el : Nat) (gr : Bool) (mn f1 f2 b δ : Nat), Tr.get B.none a s.h = .row l n el gr mn f1 f2 → l.length = n → rdOk n gr mn x (o + len * sz) = true → ν.blk a x = some (b, δ) → 0 < len → len ≤ cap →
   Sl (absS w) sz (absC w.heap.size (.slice (some ⟨b, δ + o, none⟩) len cap)) ∧ lenV (absC w.heap.size (.slice (some ⟨b, δ + o, none⟩) len cap)) = len ∧ ∀ j, j < len * sz → ∃ z, VR ν (l.getD (o + j) .bad) z ∧ cellV (absS w) (absC w.heap.size (.slice (some ⟨b, δ + o, none⟩) len cap)) j = absC w.heap.size z := by
  intro a x o len cap l n el gr mn f1 f2 b δ hrow hl hrd hb hlen hcap
  have hR : RowR P ν w a l n el gr mn f1 f2 := by have := hst.rows a; rw [hrow] at this; exact this
  obtain ⟨c, fz, hc, _, _, _, hcell⟩ := hR.at_ x b δ hb
  obtain ⟨hbl, habs⟩ := absS_row hc
  have hz : ∀ j, j < len * sz → ∃ z, c[δ + (o + j)]? = some z ∧ VR ν (l.getD (o + j) .bad) z := fun j hj => by
   have hn := rdOk_n hrd
   have hi : o + j < l.length := by omega
   have hx : l[o + j]? = some (l.getD (o + j) .bad) := by rw [List.getD_eq_getElem?_getD, List.getElem?_eq_getElem hi]; rfl
   rw [rdOk_or] at hrd
   have hmn : gr = true → mn ≤ x := fun g => by rcases hrd with ⟨_, h, _⟩ | ⟨h, _⟩; exact h; rw [g] at h; cases h
   have hlt : gr = true → o + j < x := fun g => by rcases hrd with ⟨_, _, _, h⟩ | ⟨h, _⟩; omega; rw [g] at h; cases h
   obtain ⟨z, h1, _, h2⟩ := hcell hmn (o + j) _ hx hlt
   exact ⟨z, h1, h2⟩
  have hpos : 0 < len * sz := Nat.mul_pos hlen hsz
  obtain ⟨z0, hz0, _⟩ := hz (len * sz - 1) (by omega)
  have hsize : δ + (o + (len * sz - 1)) < c.size := (Array.getElem?_eq_some_iff.1 hz0).1
  have he : absC w.heap.size (.slice (some ⟨b, δ + o, none⟩) len cap) = .sl (kOf b) 0 (δ + o) len cap := by
   obtain ⟨m, rfl⟩ : ∃ m, len = m + 1 := ⟨len - 1, by omega⟩
   exact if_pos ⟨hbl, hcap⟩
  rw [he]
  refine ⟨.inr ⟨kOf b, 0, δ + o, len, .inl ⟨cap, rfl, hcap⟩, kOf_lt hbl, _, _, _, _, _, _, _, habs, by simp, rdOk_or.2 (.inr ⟨rfl, by omega⟩)⟩, rfl, fun j hj => ?_⟩
  obtain ⟨z, h1, h2⟩ := hz j hj
  refine ⟨z, h2, ?_⟩
  simp only [cellV, habs, cellsB]
  rw [List.getD_eq_getElem?_getD, List.getElem?_map, Array.getElem?_toList, show δ + o + j = δ + (o + j) by omega, h1]; rfl
 rcases h with (rfl | rfl) | ⟨a, x, o, len, hvv, hlt, l, n, el, gr, mn, f1, f2, h1, h2, h3⟩
 ·have hy : y = .slice none 0 0 := hv
  subst hy
  exact ⟨.inl (.inl rfl), rfl, ⟨_, _, _, rfl⟩, fun j hj => by simp [lenV] at hj⟩
 ·rcases hk with h | h | ⟨_, _, _, h⟩
  ·cases h
  ·simp [lenV] at h
  ·cases h
 ·rcases hvv with ⟨cap, rfl, hcap⟩ | ⟨e, rfl⟩
  ·obtain ⟨b, δ, hb, rfl, hle⟩ := hv
   by_cases h0 : len = 0
   ·subst h0
    rcases hk with h | h | ⟨_, _, _, h⟩
    ·cases h
    ·simp [lenV] at h
    ·injection h with _ _ _ _ h
     subst h
     exact ⟨.inl (.inr rfl), rfl, ⟨_, _, _, rfl⟩, fun j hj => by simp [lenV] at hj⟩
   ·obtain ⟨g1, g2, g3⟩ := gen a x o len cap l n el gr mn f1 f2 b δ h1 h2 h3 hb (by omega) hle
    refine ⟨g1, g2, ⟨_, _, _, rfl⟩, fun j hj => ?_⟩
    simp only [cellV, h1, cellsB]
    exact g3 j hj
  ·obtain ⟨b, δ, cap, hb, rfl, hle, _⟩ := hv
   by_cases h0 : len = 0
   ·subst h0
    rcases hk with h | h | ⟨_, _, _, h⟩
    ·cases h
    ·simp [lenV] at h
    ·cases h
   ·obtain ⟨g1, g2, g3⟩ := gen a x o len cap l n el gr mn f1 f2 b δ h1 h2 h3 hb (by omega) hle
    refine ⟨g1, g2, ⟨_, _, _, rfl⟩, fun j hj => ?_⟩
    simp only [cellV, h1, cellsB]
    exact g3 j hj
theorem abs_iv {N : Nat} {ν : Val} {k : IntKind} {z : Int} {y : Value} (h : VR ν (iv k z) y) : absC N y = iv k z := by
 cases z with
 | ofNat n => have : y = .int k (Int.ofNat n) := h; subst this; rfl
 | negSucc n => have : y = .int k (Int.negSucc n) := h; subst this; rfl
theorem abs_str {N : Nat} {ν : Val} {l : List Nat} {y : Value} (h : VR ν (.str l) y) : absC N y = .str l := by
 obtain ⟨s, rfl, h⟩ := h
 show V.str (bytesL s) = _
 rw [h]
theorem Ints.abs {n0 : Nat} {w0 w : World} {ν : Val} {s : S} {v : V} {y : Value} (hst : St P n0 w0 ν s w) (h : Ints s v) (hk : okS v) (hv : VR ν v y) : Ints (absS w) (absC w.heap.size y) ∧ lenV (absC w.heap.size y) = lenV v ∧ Go.Ev.word (absS w) (absC w.heap.size y) = Go.Ev.word s v ∧ absV w.heap.size y = absC w.heap.size y := by
 obtain ⟨h1, h2, ⟨u, l, c, rfl⟩, h3⟩ := h.1.abs hst hk Nat.one_pos hv
 have hc : ∀ j, j < lenV v → cellV (absS w) (absC w.heap.size (.slice u l c)) j = cellV s v j := fun j hj => by
  obtain ⟨z, g1, g2⟩ := h3 j (by omega)
  rw [h.2.2 j hj] at g1
  rw [g2, abs_iv g1, ← h.2.2 j hj]
 refine ⟨⟨h1, by rw [h2]; exact h.2.1, fun j hj => ?_⟩, h2, ?_, rfl⟩
 ·rw [h2] at hj
  rw [hc j hj]; exact h.2.2 j hj
 ·rw [word_eq]
  refine ⟨h2, fun j hj => ?_⟩
  rw [h2] at hj
  unfold intV
  rw [hc j hj]
end Go.Ev
namespace Go.Ev
open Go.RowKit
variable {P : Program}
def absN2 (P : Program) (w : World) (G : Nat) : Val := { absN P w with blk := fun a v => if v = 0 ∧ a.toNat ≤ max w.heap.size G then some (a.toNat - 1, 0) else none }
def abs2 (w : World) (G : Nat) : S := ⟨(absS w).h, kOf (max w.heap.size G)⟩
theorem absN2_le (w : World) (G : Nat) : (absN P w).le (absN2 P w G) := fun a v p h => by
 refine ⟨?_, rfl, rfl⟩
 unfold absN at h
 simp only at h
 split at h
 ·rename_i g
  show (if _ then _ else _) = _
  rw [if_pos ⟨g.1, by omega⟩]; exact h
 ·cases h
theorem absN2_old {w : World} {G : Nat} {a : K} (h : a.toNat ≤ w.heap.size) (v : Nat) : (absN2 P w G).blk a v = (absN P w).blk a v := by
 show (if v = 0 ∧ a.toNat ≤ max w.heap.size G then some (a.toNat - 1, 0) else none) = if v = 0 ∧ a.toNat ≤ w.heap.size then some (a.toNat - 1, 0) else none
 by_cases g : v = 0
 ·rw [if_pos ⟨g, by omega⟩, if_pos ⟨g, h⟩]
 ·rw [if_neg (fun e => g e.1), if_neg (fun e => g e.1)]
theorem absS_old (P : Program) {w : World} {a : K} (h : (Tr.get B.none a (absS w).h) ≠ .none) : a.toNat ≤ w.heap.size := by
 have h0 := (abs_ok (P := P) (G := 0) w (Nat.zero_le _) (by decide)).1
 rcases Nat.lt_or_ge a.toNat (absS w).nx.toNat with g | g
 ·have : (absS w).nx.toNat = w.heap.size + 1 := kOf_toNat _
  omega
 ·exact absurd (h0.fresh a g).2 h
theorem abs2_ok {G : Nat} (w : World) (h24 : G < 2 ^ 24) : St P w.heap.size w (absN2 P w G) (abs2 w G) w ∧ Glob (absN2 P w G) G := by
 have h0 := (abs_ok (P := P) (G := 0) w (Nat.zero_le _) (by decide)).1
 have live : ∀ {a : K}, (Tr.get B.none a (absS w).h).live → a.toNat ≤ w.heap.size := fun {a} h => absS_old P (fun e => by rw [e] at h; exact h)
 refine ⟨⟨Below.refl _ _, Nat.le_refl _, fun a => ?_, fun a ha => ⟨fun v => ?_, ?_⟩, fun a v b δ a' v' δ' h1 h2 g1 g2 => ?_, fun a v b δ h hl => ?_⟩, fun g h => ?_⟩
 ·show BR P (absN2 P w G) w a (Tr.get B.none a (absS w).h)
  have hr := h0.rows a
  by_cases e : Tr.get B.none a (absS w).h = .none
  ·rw [e]; trivial
  ·have hold := absS_old P e
   exact hr.mono (absN2_le w G) (fun v => absN2_old hold v)
 ·have : (abs2 w G).nx.toNat = max w.heap.size G + 1 := kOf_toNat _
  show (if _ then _ else _) = _
  rw [if_neg (fun e => by omega)]
 ·have : (abs2 w G).nx.toNat = max w.heap.size G + 1 := kOf_toNat _
  exact (h0.fresh a (by have h1 : (absS w).nx.toNat = w.heap.size + 1 := kOf_toNat _; omega)).2
 ·rw [absN2_old (live g1)] at h1
  rw [absN2_old (live g2)] at h2
  exact h0.sep a v b δ a' v' δ' h1 h2 g1 g2
 ·rw [absN2_old (live hl)] at h
  exact h0.own a v b δ h hl
 ·have hk := keyF_small 24 (g + 1) (by omega) (by omega)
  show (if _ then _ else _) = _
  rw [if_pos ⟨rfl, by omega⟩, hk]; rfl
theorem CallX.reset {f : Nat} {args : List V} {s : S} {v : V} (h24 : P.globals.size < 2 ^ 24) (hv : v.flat)
  (H : ∀ n0 w0 ν w cargs, St P n0 w0 ν s w → VRs ν args cargs → ∃ s', CallX P f (cargs.map (absV w.heap.size)) (abs2 w P.globals.size) v s') : CallX P f args s v s := by
 intro n0 w0 ν w cargs hst _ hvs
 obtain ⟨s', hX⟩ := H n0 w0 ν w cargs hst hvs
 obtain ⟨h1, h2⟩ := abs2_ok (P := P) (G := P.globals.size) w h24
 have hv' : ∀ l : List Value, VRs (absN2 P w P.globals.size) (l.map (absV w.heap.size)) l := by
  intro l
  induction l with
  | nil => rfl
  | cons x l ih => exact ⟨x, l, rfl, VR.mono (absN2_le w _) _ _ (absV_vr w x), ih⟩
 obtain ⟨e, k⟩ := hX w.heap.size w _ w cargs h1 h2 (hv' cargs)
 refine ⟨e, fun kind cs hk => ?_⟩
 obtain ⟨ν', y, w', fr, g1, g2, g3⟩ := k kind cs hk
 exact ⟨ν, y, w', fr, ⟨ν.le_refl, hst.later g1.st.below, Nat.le_refl _, fun _ h _ => ⟨h, .inl rfl⟩⟩, g2.flat hv, g3⟩
theorem ext_abs2 (w : World) (G : Nat) : Ext (absS w) (abs2 w G) := ⟨by show (kOf w.heap.size).toNat ≤ (kOf _).toNat; rw [kOf_toNat, kOf_toNat]; omega, fun _ _ => rfl⟩
end Go.Ev
namespace Go.Proofs.YtobflfopdndfdaaGreatDoor.oev
open Go.Ev Go.RowKit
set_option maxRecDepth 100000
def MRo (s : S) (c : List V) (M : Mc) : Prop := ∃ (k : Int) (v : V), c = [iv .i64 k, iv .i64 (M.start : Int), .str (stR M.lead), v] ∧ Sl s 2 v ∧ okS v ∧ lenV v = M.sts.length ∧ ∀ i (h : i < M.sts.length), cellV s v (i * 2) = .str (finT M.sts[i].1) ∧ ArcsR s (cellV s v (i * 2 + 1)) M.sts[i].2 ∧ okS (cellV s v (i * 2 + 1))
theorem ArcsR.abs {n0 : Nat} {w0 w : World} {ν : Val} {s : S} {v : V} {y : Value} {l : ArcL} (hst : St Tryz.prog n0 w0 ν s w) (h : ArcsR s v l) (hk : okS v) (hv : VR ν v y) : ArcsR (absS w) (absC w.heap.size y) l := by
 obtain ⟨h1, h2, -, h3⟩ := h.1.abs hst hk (by omega) hv
 refine ⟨h1, h2.trans h.2.1, fun j hj => ?_⟩
 obtain ⟨c0, c1, c2, c3⟩ := h.2.2 j hj
 have hl := h.2.1
 have cell : ∀ i, i < 4 → ∃ z, VR ν (cellV s v (j * 4 + i)) z ∧ cellV (absS w) (absC w.heap.size y) (j * 4 + i) = absC w.heap.size z := fun i hi => h3 _ (by omega)
 obtain ⟨z0, a0, b0⟩ := cell 0 (by omega)
 obtain ⟨z1, a1, b1⟩ := cell 1 (by omega)
 obtain ⟨z2, a2, b2⟩ := cell 2 (by omega)
 obtain ⟨z3, a3, b3⟩ := cell 3 (by omega)
 rw [Nat.add_zero, c0] at a0
 rw [c1] at a1
 rw [c2] at a2
 rw [c3] at a3
 exact ⟨by rw [Nat.add_zero] at b0; rw [b0, abs_iv a0], by rw [b1, abs_iv a1], by rw [b2, abs_str a2], by rw [b3, abs_iv a3]⟩
theorem MRo.abs {n0 : Nat} {w0 w : World} {ν : Val} {s : S} {c : List V} {M : Mc} {x : Value} (hst : St Tryz.prog n0 w0 ν s w) (h : MRo s c M) (hv : VR ν (.ls 0 c) x) : ∃ c', absV w.heap.size x = .ls 0 c' ∧ MR (absS w) c' M := by
 obtain ⟨k, v, rfl, h1, h2, h3, h4⟩ := h
 obtain ⟨cs, hcs, rfl, hone⟩ := hv
 obtain ⟨y0, r0, rfl, v0, y1, r1, rfl, v1, y2, r2, rfl, v2, y3, r3, rfl, v3, rfl⟩ := hcs
 have hall : [y0, y1, y2, y3].all (·.oneCell') = true := List.all_eq_true.2 hone
 refine ⟨[absC w.heap.size y0, absC w.heap.size y1, absC w.heap.size y2, absC w.heap.size y3], ?_, ?_⟩
 ·show (if [y0, y1, y2, y3].all (·.oneCell') = true then _ else _) = _
  rw [if_pos hall]; rfl
 ·obtain ⟨g1, g2, -, g3⟩ := h1.abs hst h2 (by omega) v3
  refine ⟨iv .i64 k, absC w.heap.size y3, by rw [abs_iv v0, abs_iv v1, abs_str v2], iv_ne _ _, g1, g2.trans h3, fun i hi => ?_⟩
  obtain ⟨c0, c1, c2⟩ := h4 i hi
  obtain ⟨z0, a0, b0⟩ := g3 (i * 2) (by omega)
  obtain ⟨z1, a1, b1⟩ := g3 (i * 2 + 1) (by omega)
  rw [c0] at a0
  exact ⟨by rw [b0, abs_str a0], by rw [b1]; exact c1.abs hst c2 a1⟩
theorem MR.ext {s s' : S} {c : List V} {M : Mc} (h : MR s c M) (e : Ext s s') : MR s' c M := by
 obtain ⟨k, v, h1, hk, h2, h3, h4⟩ := h.ex
 obtain ⟨g1, g2⟩ := h2.ext e
 refine ⟨k, v, h1, hk, g1, h3, fun i hi => ?_⟩
 obtain ⟨c0, c1⟩ := h4 i hi
 rw [g2, g2]
 obtain ⟨d1, d2⟩ := c1.1.ext e
 exact ⟨c0, d1, c1.2.1, fun j hj => by simp only [d2]; exact c1.2.2 j hj⟩
def insI (x : Int) : List Int → List Int
 | [] => [x]
 | y :: l => if x ≤ y then x :: y :: l else y :: insI x l
def isort : List Int → List Int
 | [] => []
 | x :: l => insI x (isort l)
theorem insI_perm (x : Int) : ∀ l, (insI x l).Perm (x :: l)
 | [] => List.Perm.refl _
 | y :: l => by
  simp only [insI]
  split
  ·exact List.Perm.refl _
  ·exact ((insI_perm x l).cons y).trans (List.Perm.swap x y l)
theorem isort_perm : ∀ l, (isort l).Perm l
 | [] => List.Perm.refl _
 | x :: l => (insI_perm x _).trans ((isort_perm l).cons x)
theorem insI_sorted {x : Int} : ∀ {l}, sorted l → sorted (insI x l)
 | [], _ => List.pairwise_singleton _ _
 | y :: l, h => by
  obtain ⟨h1, h2⟩ := List.pairwise_cons.1 h
  simp only [insI]
  split
  ·rename_i g
   refine List.pairwise_cons.2 ⟨fun z hz => ?_, h⟩
   rcases List.mem_cons.1 hz with rfl | hz
   ·exact g
   ·have := h1 z hz; omega
  ·rename_i g
   refine List.pairwise_cons.2 ⟨fun z hz => ?_, insI_sorted h2⟩
   rcases List.mem_cons.1 ((insI_perm x l).subset hz) with rfl | hz
   ·omega
   ·exact h1 z hz
theorem isort_sorted : ∀ l, sorted (isort l)
 | [] => List.Pairwise.nil
 | _ :: l => insI_sorted (isort_sorted l)
abbrev Arc := Nat × Nat × Nat × Nat
def arcPr (u v : List Int) (i j w : Nat) (a : Arc) : Option Pr :=
 if u[i]? = some (a.1 : Int) ∧ v[j]? = some (a.2.1 : Int) then some ⟨true, j + 1, a.2.2.2, w + a.2.2.1⟩
 else if u[i]? = some (a.1 : Int) ∧ a.2.1 = 0 then some ⟨true, j, a.2.2.2, w + a.2.2.1⟩
 else if a.1 = 0 ∧ v[j]? = some (a.2.1 : Int) then some ⟨false, j + 1, a.2.2.2, w + a.2.2.1⟩
 else none
def arcOk (u v : List Int) (i j w : Nat) (a : Arc) : Bool := (arcPr u v i j w a).isNone || (rs w && rs a.2.2.1 && rs (w + a.2.2.1))
def arcsOf (M : Mc) (q : Int) : ArcL := (M.sts.getD q.toNat (none, [])).2
def prs (M : Mc) (u v : List Int) (i j : Nat) (e : Int × Nat) : List Pr := (arcsOf M e.1).filterMap (arcPr u v i j e.2)
def entOk (M : Mc) (u v : List Int) (i j : Nat) (e : Int × Nat) : Bool := decide (0 ≤ e.1) && decide (e.1.toNat < M.sts.length) && (arcsOf M e.1).all (arcOk u v i j e.2)
abbrev XS := Bool → Nat → LM × Nat
def putL (X : XS) (p : Pr) : XS := fun c i => if c = p.c ∧ i = p.i then (reachL (X c i) p.q p.r).1 else X c i
def setX (X : XS) (c : Bool) (i : Nat) (y : LM × Nat) : XS := fun c' i' => if c' = c ∧ i' = i then y else X c' i'
def lk (X : XS) : FS := fun c i => lookL (X c i).1
theorem lk_put (X : XS) (p : Pr) : lk (putL X p) = putF (lk X) p := by
 funext c i
 simp only [lk, putL, putF]
 split
 ·rw [reach_look]
 ·rfl
theorem lk_puts : ∀ (l : List Pr) (X : XS), lk (l.foldl putL X) = l.foldl putF (lk X)
 | [], _ => rfl
 | p :: l, X => by rw [List.foldl_cons, List.foldl_cons, lk_puts l, lk_put]
theorem lk_set {X X' : XS} (h : lk X = lk X') (c : Bool) (i : Nat) {y y' : LM × Nat} (hy : lookL y.1 = lookL y'.1) : lk (setX X c i y) = lk (setX X' c i y') := by
 funext c' i'
 simp only [lk, setX]
 split
 ·exact hy
 ·exact congrFun (congrFun h c') i'
def stepJ (M : Mc) (u v : List Int) (i : Nat) (X : XS) (j : Nat) : Option XS :=
 if ((X false j).1.length ≤ 12) then
  match spRun M 100 (X false j, isort ((X false j).1.map (·.1))) with
  | some y => if (ents y.1).all (entOk M u v i j) = true ∧ y.1.length ≤ 1000 then some (((ents y.1).flatMap (prs M u v i j)).foldl putL (setX X false j y)) else none
  | none => none
 else none
def stepsJ (M : Mc) (u v : List Int) (i : Nat) : Nat → XS → Nat → Option XS
 | 0, X, _ => some X
 | k + 1, X, j => match stepJ M u v i X j with | some Y => stepsJ M u v i k Y (j + 1) | none => none
def turnX (X : XS) : XS := fun c i => if c = true then ([], 0) else X true i
def stepsI (M : Mc) (u v : List Int) : Nat → XS → Nat → Option XS
 | 0, X, i => stepsJ M u v i (v.length + 1) X 0
 | k + 1, X, i => match stepsJ M u v i (v.length + 1) X 0 with | some Y => stepsI M u v k (turnX Y) (i + 1) | none => none
def startX (M : Mc) : XS := fun c i => if c = false ∧ i = 0 then ([((M.start : Int), M.lead, 0)], 1) else ([], 0)
def finOk (M : Mc) (e : Int × Nat) : Bool := decide (0 ≤ e.1) && decide (e.1.toNat < M.sts.length) && (match (M.sts.getD e.1.toNat (none, [])).1 with | some f => rs f && rs e.2 && rs (e.2 + f) | none => true)
def finPr (M : Mc) (e : Int × Nat) : Option Nat := (M.sts.getD e.1.toNat (none, [])).1.map fun f => e.2 + f
def searchX (M : Mc) (u v : List Int) : Option (Option Nat) :=
 if rs M.lead = true then
  match stepsI M u v u.length (startX M) 0 with
  | some Y => if (ents (Y false v.length).1).all (finOk M) = true then some (lookL (((ents (Y false v.length).1).filterMap (finPr M)).foldl (fun x r => (reachL x 0 r).1) ([], 0)).1 0) else none
  | none => none
 else none
theorem stepJ_same {M : Mc} {u v : List Int} {i j : Nat} {X X' Y : XS} (h : lk X = lk X') (hX : keysOk (X false j).1) (hX' : keysOk (X' false j).1) (e : stepJ M u v i X j = some Y) :
  (X' false j).1.length ≤ 12 ∧ ∃ y', spRun M 100 (X' false j, isort ((X' false j).1.map (·.1))) = some y' ∧ ∃ y, lookL y.1 = lookL y'.1 ∧ spRun M 100 (X false j, isort ((X false j).1.map (·.1))) = some y ∧ (ents y.1).all (entOk M u v i j) = true ∧ y.1.length ≤ 1000 ∧ Y = ((ents y.1).flatMap (prs M u v i j)).foldl putL (setX X false j y) := by
 unfold stepJ at e
 split at e
 ·rename_i h12
  cases hs : spRun M 100 (X false j, isort ((X false j).1.map (·.1))) with
  | none => rw [hs] at e; cases e
  | some y =>
   rw [hs] at e
   simp only at e
   split at e
   ·rename_i hen
    injection e with e
    have hl : lookL (X false j).1 = lookL (X' false j).1 := congrFun (congrFun h false) j
    have hp := ents_perm hX hX' hl
    have hk : ((X false j).1.map (·.1)).Perm ((X' false j).1.map (·.1)) := by
     have := hp.map (·.1)
     simpa [ents, List.map_map, Function.comp_def] using this
    have hsame : isort ((X false j).1.map (·.1)) = isort ((X' false j).1.map (·.1)) := sorted_unique (isort_sorted _) (isort_sorted _) ((isort_perm _).trans (hk.trans (isort_perm _).symm))
    obtain ⟨y', h1, h2⟩ := spRun_same (y := (X' false j, isort ((X' false j).1.map (·.1)))) ⟨hl, hsame⟩ hs
    refine ⟨?_, y', h1, y, h2, rfl, hen.1, hen.2, e.symm⟩
    have := hk.length_eq
    simp at this
    omega
   ·cases e
 ·cases e
variable {M0 : Mc}
structure RX (b s : S) (n : Nat) (aa : Bool → Go.Ev.K) (mm : Bool → Nat → Go.Ev.K) (X : XS) : Prop where
 row : ∀ c, Tr.get B.none (aa c) s.h = .row ((List.range n).map fun i => .ref 0 (mm c i)) n 76 false 0 0 0 ∧ b.nx.toNat ≤ (aa c).toNat ∧ (aa c).toNat < s.nx.toNat
 map : ∀ c i, i < n → MapAt s (mm c i) (X c i) ∧ b.nx.toNat ≤ (mm c i).toNat ∧ (mm c i).toNat < s.nx.toNat
 ok : ∀ c i, i < n → LOk (X c i) ∧ okVals (X c i).1
 inj : ∀ c i c' i', i < n → i' < n → mm c i = mm c' i' → c = c' ∧ i = i'
structure UpdK (s s' : S) (m : Go.Ev.K) (y : LM × Nat) : Prop where
 at_ : MapAt s' m y
 other : ∀ k, k.toNat < s.nx.toNat → k ≠ m → Tr.get B.none k s'.h = Tr.get B.none k s.h
 nx : s.nx.toNat ≤ s'.nx.toNat
theorem Upd1.k {s s' : S} {m : Go.Ev.K} {y : LM × Nat} (h : Upd1 s s' m y) : UpdK s s' m y := ⟨h.at_, fun k _ hk => h.other k hk, by rw [h.nx]; exact Nat.le_refl _⟩
theorem RX.upd {b s s' : S} {n : Nat} {aa : Bool → Go.Ev.K} {mm : Bool → Nat → Go.Ev.K} {X : XS} (h : RX b s n aa mm X) {c : Bool} {i : Nat} (hi : i < n) {y : LM × Nat} (hu : UpdK s s' (mm c i) y) (hy : LOk y) (hv : okVals y.1) : RX b s' n aa mm (setX X c i y) := by
 refine ⟨fun d => ?_, fun d j hj => ?_, fun d j hj => ?_, h.inj⟩
 ·obtain ⟨h1, h2, h3⟩ := h.row d
  have hne : aa d ≠ mm c i := fun e => by
   have := (h.map c i hi).1
   unfold MapAt at this
   rw [← e, h1] at this; cases this
  exact ⟨(hu.other _ h3 hne).trans h1, h2, Nat.lt_of_lt_of_le h3 hu.nx⟩
 ·obtain ⟨h1, h2, h3⟩ := h.map d j hj
  refine ⟨?_, h2, Nat.lt_of_lt_of_le h3 hu.nx⟩
  unfold setX
  by_cases e : d = c ∧ j = i
  ·rw [if_pos e, e.1, e.2]; exact hu.at_
  ·rw [if_neg e]
   exact (hu.other _ h3 (fun g => e (h.inj _ _ _ _ hj hi g))).trans h1
 ·unfold setX
  by_cases e : d = c ∧ j = i
  ·rw [if_pos e]; exact ⟨hy, hv⟩
  ·rw [if_neg e]; exact h.ok d j hj
theorem RX.keep {b s s' : S} {n : Nat} {aa : Bool → Go.Ev.K} {mm : Bool → Nat → Go.Ev.K} {X : XS} (h : RX b s n aa mm X) (hn : s.nx.toNat ≤ s'.nx.toNat) (hr : ∀ c, Tr.get B.none (aa c) s'.h = Tr.get B.none (aa c) s.h) (hm : ∀ c i, i < n → Tr.get B.none (mm c i) s'.h = Tr.get B.none (mm c i) s.h) : RX b s' n aa mm X :=
 ⟨fun c => ⟨(hr c).trans (h.row c).1, (h.row c).2.1, Nat.lt_of_lt_of_le (h.row c).2.2 hn⟩, fun c i hi => ⟨(hm c i hi).trans (h.map c i hi).1, (h.map c i hi).2.1, Nat.lt_of_lt_of_le (h.map c i hi).2.2 hn⟩, h.ok, h.inj⟩
theorem RX.ext {b s s' : S} {n : Nat} {aa : Bool → Go.Ev.K} {mm : Bool → Nat → Go.Ev.K} {X : XS} (h : RX b s n aa mm X) (e : Ext s s') : RX b s' n aa mm X :=
 h.keep e.nx (fun c => e.get _ (h.row c).2.2) (fun c i hi => e.get _ (h.map c i hi).2.2)
theorem RX.at_ {b s : S} {n : Nat} {aa : Bool → Go.Ev.K} {mm : Bool → Nat → Go.Ev.K} {X : XS} (h : RX b s n aa mm X) (c : Bool) {i : Nat} (hi : i < n) : (∀ f : V → Go.Ev.A, xIdxAddrS 1 (.sl (aa c) 0 0 n n) (iv .i64 (i : Int)) f = f (.ptr (aa c) 0 i)) ∧ ∀ k : V → S → Go.Ev.A, xLoad false 1 (.ptr (aa c) 0 i) s k = k (.ref 0 (mm c i)) s := by
 refine ⟨fun f => ?_, fun k => ?_⟩
 ·show (Bool.rec (motive := fun _ => Go.Ev.A) _ _ (Nat.blt i n) : Go.Ev.A) = _
  rw [show Nat.blt i n = true by rw [Nat.blt_eq]; exact hi]
  show fN (Nat.add 0 (Nat.mul i 1)) (fun o => f (.ptr (aa c) 0 o)) = _
  rw [fN_eq]
  show f (.ptr (aa c) 0 (0 + i * 1)) = _
  rw [show 0 + i * 1 = i by omega]
 ·have hg : ((List.range n).map fun i => V.ref 0 (mm c i)).getD i .bad = .ref 0 (mm c i) := by
   rw [List.getD_eq_getElem?_getD, List.getElem?_map, List.getElem?_range hi]; rfl
  rw [load_at (h.row c).1 i (by simp) hi (by rw [hg]; exact fun h => by cases h) k, hg]
structure SS where
 b : S
 k3 : Go.Ev.K
 k5 : Go.Ev.K
 c : List V
 uu : V
 vv : V
structure SOk (M : Mc) (u v : List Int) (q : SS) : Prop where
 r3 : Tr.get B.none q.k3 q.b.h = .row q.c 4 37 false 0 0 0
 l3 : q.k3.toNat < q.b.nx.toNat
 r5 : Tr.get B.none q.k5 q.b.h = .row [q.vv] 1 29 false 0 0 0
 l5 : q.k5.toNat < q.b.nx.toNat
 mr : MR q.b q.c M
 al : ∀ e ∈ M.sts, e.2.length < 100000
 iu : Ints q.b q.uu
 wu : word q.b q.uu = u
 iv_ : Ints q.b q.vv
 wv : word q.b q.vv = v
 lu : u.length ≤ 10
 lv : v.length ≤ 10
structure SF (q : SS) (tm : Go.Ev.T) (st : S) : Prop where
 g1 : gp 1 tm = q.uu
 g3 : gp 3 tm = .ptr q.k3 0 0
 g5 : gp 5 tm = .ptr q.k5 0 0
 g7 : gp 7 tm = .fn (.func 33) [] [.ptr q.k5 0 0]
 bd : gp 240 tm = .bad
 ext : Ext q.b st
theorem SF.frame {q : SS} {tm tm' : Go.Ev.T} {st : S} (h : SF q tm st) (e1 : gp 1 tm' = gp 1 tm) (e3 : gp 3 tm' = gp 3 tm) (e5 : gp 5 tm' = gp 5 tm) (e7 : gp 7 tm' = gp 7 tm) (e : gp 240 tm' = gp 240 tm) : SF q tm' st :=
 ⟨e1.trans h.g1, e3.trans h.g3, e5.trans h.g5, e7.trans h.g7, e.trans h.bd, h.ext⟩
theorem SF.to {q : SS} {tm : Go.Ev.T} {st st' : S} (h : SF q tm st) (e : Ext q.b st') : SF q tm st' := ⟨h.g1, h.g3, h.g5, h.g7, h.bd, e⟩
theorem Ext.updK {b s s' : S} {m : Go.Ev.K} {y : LM × Nat} (h : Ext b s) (hm : b.nx.toNat ≤ m.toNat) (hu : UpdK s s' m y) : Ext b s' :=
 ⟨Nat.le_trans h.nx hu.nx, fun a ha => (hu.other a (Nat.lt_of_lt_of_le ha h.nx) (fun e => by rw [e] at ha; omega)).trans (h.get a ha)⟩
structure SG (aa : Bool → Go.Ev.K) (n i : Nat) (tm : Go.Ev.T) : Prop where
 g8 : gp 8 tm = .sl (aa false) 0 0 n n
 g10 : gp 10 tm = .sl (aa true) 0 0 n n
 g9 : gp 9 tm = iv .i64 (i : Int)
theorem SG.frame {aa : Bool → Go.Ev.K} {n i : Nat} {tm tm' : Go.Ev.T} (h : SG aa n i tm) (e8 : gp 8 tm' = gp 8 tm) (e10 : gp 10 tm' = gp 10 tm) (e9 : gp 9 tm' = gp 9 tm) : SG aa n i tm' := ⟨e8.trans h.g8, e10.trans h.g10, e9.trans h.g9⟩
def Oth (n : Nat) (mm : Bool → Nat → Go.Ev.K) (s0 s : S) : Prop := s0.nx.toNat ≤ s.nx.toNat ∧ ∀ k, k.toNat < s0.nx.toNat → (∀ c i, i < n → k ≠ mm c i) → Tr.get B.none k s.h = Tr.get B.none k s0.h
theorem Oth.refl (n : Nat) (mm : Bool → Nat → Go.Ev.K) (s : S) : Oth n mm s s := ⟨Nat.le_refl _, fun _ _ _ => rfl⟩
theorem Oth.trans {n : Nat} {mm : Bool → Nat → Go.Ev.K} {a b c : S} (h : Oth n mm a b) (g : Oth n mm b c) : Oth n mm a c := ⟨Nat.le_trans h.1 g.1, fun k hk hn => (g.2 k (Nat.lt_of_lt_of_le hk h.1) hn).trans (h.2 k hk hn)⟩
theorem Oth.ext {n : Nat} {mm : Bool → Nat → Go.Ev.K} {a b : S} (e : Ext a b) : Oth n mm a b := ⟨e.nx, fun k hk _ => e.get k hk⟩
theorem Oth.upd {n : Nat} {mm : Bool → Nat → Go.Ev.K} {a b : S} {c : Bool} {i : Nat} (hi : i < n) {y : LM × Nat} (h : UpdK a b (mm c i) y) : Oth n mm a b := ⟨h.nx, fun k hk hn => h.other k hk (hn c i hi)⟩
variable {M0 : Mc}
theorem word_at {s : S} {v : V} {l : List Int} (h : word s v = l) {i : Nat} : (i < lenV v → l[i]? = some (intV s v i)) ∧ l.length = lenV v := by
 subst h
 exact ⟨fun hi => word_get hi, word_len _ _⟩
theorem run62 {M : Mc} {u v : List Int} {q : SS} (hq : SOk M u v q) {tm : Go.Ev.T} {st : S} (hF : SF q tm st) {i j : Nat} (hi : i ≤ u.length) (hj : j ≤ v.length) (g9 : gp 9 tm = iv .i64 (i : Int)) (g11 : gp 11 tm = iv .i64 (j : Int)) {k : Go.Ev.K} {a : Arc} (g15 : gp 15 tm = .ptr k 0 0) (hk : Tr.get B.none k st.h = .row (arcC a) 4 59 false 0 0 0) (r : Go.Ev.R) :
  cSearch_62.run r tm st = .nrm (sp 17 (.bool (decide (v[j]? = some (a.2.1 : Int)))) (sp 16 (.bool (decide (u[i]? = some (a.1 : Int)))) tm)) st := by
 obtain ⟨d0, d1, -, -⟩ := arc_ld hk
 have hIu := (hq.iu.ext hF.ext).1
 have hIv := (hq.iv_.ext hF.ext).1
 obtain ⟨wu, lu⟩ := word_at hq.wu (i := i)
 obtain ⟨wv, lv⟩ := word_at hq.wv (i := j)
 have e1 := fun c => hIu.1.len c
 have e2 := fun c => hIv.1.len c
 have r5 : ∀ f : V → S → Go.Ev.A, xLoad false 1 (.ptr q.k5 0 0) st f = f q.vv st := fun f => load_at ((hF.ext.get _ hq.l5).trans hq.r5) 0 rfl (by omega) hIv.ne f
 rw [lu] at hi
 rw [lv] at hj
 by_cases ci : i < lenV q.uu
 ·obtain ⟨p, hp, hP⟩ := hIu.at_ ci
  rw [(hq.iu.ext hF.ext).2] at hP
  rw [wu ci]
  generalize intV q.b q.uu i = z at hP
  have ed : decide (some z = some (a.1 : Int)) = decide ((a.1 : Int) = z) := by
   by_cases h : (a.1 : Int) = z
   ·rw [decide_eq_true h, decide_eq_true (by rw [h])]
   ·rw [decide_eq_false h, decide_eq_false (by intro e; injection e with e; exact h e.symm)]
  rw [ed]
  by_cases cj : j < lenV q.vv
  ·obtain ⟨p', hp', hP'⟩ := hIv.at_ cj
   rw [(hq.iv_.ext hF.ext).2] at hP'
   rw [wv cj]
   generalize intV q.b q.vv j = z' at hP'
   have ed' : decide (some z' = some (a.2.1 : Int)) = decide ((a.2.1 : Int) = z') := by
    by_cases h : (a.2.1 : Int) = z'
    ·rw [decide_eq_true h, decide_eq_true (by rw [h])]
    ·rw [decide_eq_false h, decide_eq_false (by intro e; injection e with e; exact h e.symm)]
   rw [ed']
   simp -implicitDefEqProofs [allSearch, hF.g1, g9, e1, lss_ii, ci, g15, field_ptr, d0, hp, hP, eql_ii, hF.g5, r5, e2, g11, cj, d1, hp', hP']
  ·have nv : v[j]? = none := List.getElem?_eq_none (by omega)
   rw [nv]
   simp -implicitDefEqProofs [allSearch, hF.g1, g9, e1, lss_ii, ci, g15, field_ptr, d0, hp, hP, eql_ii, hF.g5, r5, e2, g11, cj]
 ·have nu : u[i]? = none := List.getElem?_eq_none (by omega)
  rw [nu]
  by_cases cj : j < lenV q.vv
  ·obtain ⟨p', hp', hP'⟩ := hIv.at_ cj
   rw [(hq.iv_.ext hF.ext).2] at hP'
   rw [wv cj]
   generalize intV q.b q.vv j = z' at hP'
   have ed' : decide (some z' = some (a.2.1 : Int)) = decide ((a.2.1 : Int) = z') := by
    by_cases h : (a.2.1 : Int) = z'
    ·rw [decide_eq_true h, decide_eq_true (by rw [h])]
    ·rw [decide_eq_false h, decide_eq_false (by intro e; injection e with e; exact h e.symm)]
   rw [ed']
   simp -implicitDefEqProofs [allSearch, hF.g1, g9, e1, lss_ii, ci, g15, field_ptr, hF.g5, r5, e2, g11, cj, d1, hp', hP', eql_ii]
  ·have nv : v[j]? = none := List.getElem?_eq_none (by omega)
   rw [nv]
   simp -implicitDefEqProofs [allSearch, hF.g1, g9, e1, lss_ii, ci, hF.g5, r5, e2, g11, cj]
variable {M0 : Mc}
theorem putL_set (X : XS) (p : Pr) : putL X p = setX X p.c p.i (reachL (X p.c p.i) p.q p.r).1 := by
 funext c i
 unfold putL setX
 by_cases h : c = p.c ∧ i = p.i
 ·rw [if_pos h, if_pos h, h.1, h.2]
 ·rw [if_neg h, if_neg h]
structure GQ where
 q : SS
 aa : Bool → Go.Ev.K
 mm : Bool → Nat → Go.Ev.K
 i : Nat
 j : Nat
 w : Nat
 l : ArcL
 va : V
 k : Nat
 X : XS
 st0 : S
 x24 : V
 x25 : V
 x27 : V
def l4In (M : Mc) (u v : List Int) (g : GQ) (tm : Go.Ev.T) (st : S) : Prop := SOk M u v g.q ∧ SF g.q tm st ∧ SG g.aa (v.length + 1) g.i tm ∧ g.i ≤ u.length ∧ g.j ≤ v.length ∧ gp 11 tm = iv .i64 (g.j : Int) ∧ gp 13 tm = .str (stR g.w) ∧ ArcsR g.q.b g.va g.l ∧ gp 29 tm = g.va ∧ gp 30 tm = iv .i64 (g.l.length : Int) ∧ gp 31 tm = iv .i64 (g.k : Int) ∧ g.k ≤ g.l.length ∧ g.l.length < 100000 ∧
 gp 24 tm = g.x24 ∧ gp 25 tm = g.x25 ∧ gp 27 tm = g.x27 ∧ RX g.q.b st (v.length + 1) g.aa g.mm g.X ∧ Oth (v.length + 1) g.mm g.st0 st ∧ (g.l.drop g.k).all (arcOk u v g.i g.j g.w) = true
def l4Out (u v : List Int) (g : GQ) (a : Go.Ev.A) : Prop := ∃ tm' st', a = .ext 6 tm' st' ∧ SF g.q tm' st' ∧ SG g.aa (v.length + 1) g.i tm' ∧ gp 11 tm' = iv .i64 (g.j : Int) ∧ gp 24 tm' = g.x24 ∧ gp 25 tm' = g.x25 ∧ gp 27 tm' = g.x27 ∧
 RX g.q.b st' (v.length + 1) g.aa g.mm (((g.l.drop g.k).filterMap (arcPr u v g.i g.j g.w)).foldl putL g.X) ∧ Oth (v.length + 1) g.mm g.st0 st'
def lt4 (M : Mc) (u v : List Int) : Lt := ltI (l4In M u v) (l4Out u v)
theorem loop4 {u v : List Int} {L : Nat → Lt} (h114 : L 114 = lt4 M0 u v) (hT : Holds Tryz.prog (K M0) 86) (hB : Holds Tryz.prog (K M0) 87) : ∀ tm s', (L 114).pre tm s' → (L 114).post tm s' (cSearch_50.run (RkN Tryz.prog (K M0) KN L) tm s') := by
 refine loop_n (L := L) pcOk0.1 pcOk0.2 szSearch_50 (fun tm _ => (toI (gp 30 tm)).toNat - (toI (gp 31 tm)).toNat) ?_ ?_
 ·rw [h114]
  rintro tm s a ⟨q, hq⟩ h
  obtain ⟨_, _, rfl, _⟩ : l4Out _ _ _ _ := h q hq
  exact fun h => h
 rw [h114]
 rintro tm st - IH ⟨q, aa, mm, i, j, w, l, va, k, X, st0, x24, x25, x27⟩ ⟨hq, hF, hG, hi, hj, g11, g13, hA, g29, g30, g31, hk, hl, g24, g25, g27, hX, hO, hall⟩
 have IH' : ∀ tm' s3 g, (toI (gp 30 tm')).toNat - (toI (gp 31 tm')).toNat < (toI (gp 30 tm)).toNat - (toI (gp 31 tm)).toNat → l4In M0 u v g tm' s3 → l4Out u v g ((RkN Tryz.prog (K M0) KN L).code fiSearch uSearch_50 tm' s3) := fun tm' s3 g h1 h2 => IH tm' s3 h1 ⟨g, h2⟩ g h2
 clear IH
 show l4Out _ _ _ (cSearch_50.run _ tm st)
 have hR := kept (M0 := M0) (L := L) (Reach_ok hT hB)
 generalize RkN Tryz.prog _ _ _ = r at IH' hR ⊢
 simp only at hq hF hG hi hj g11 g13 hA g29 g30 g31 hk hl g24 g25 g27 hX hO hall
 by_cases hlt : k < l.length
 ·have w2 : IntKind.i64.wrap ((k : Int) + 1) = (k : Int) + 1 := wrap64 (by omega) (by omega)
  have w3 : IntKind.i64.wrap ((j : Int) + 1) = (j : Int) + 1 := by have := hq.lv; exact wrap64 (by omega) (by omega)
  have hAs : ArcsR st va l := ⟨(hA.1.ext hF.ext).1, hA.2.1, fun j hj => by simp only [(hA.1.ext hF.ext).2]; exact hA.2.2 j hj⟩
  obtain ⟨p, hp, hP⟩ := arc_at hAs hlt
  have hdrop : l.drop k = l[k] :: l.drop (k + 1) := (List.getElem_cons_drop hlt).symm
  rw [hdrop] at hall
  have goal' : ∀ a, l4Out u v ⟨q, aa, mm, i, j, w, l, va, k + 1, (match arcPr u v i j w l[k] with | some p => putL X p | none => X), st0, x24, x25, x27⟩ a → l4Out u v ⟨q, aa, mm, i, j, w, l, va, k, X, st0, x24, x25, x27⟩ a := by
   rintro a ⟨tm', st', h1, h2, h3, h4, h5, h6, h7, h8, h9⟩
   refine ⟨tm', st', h1, h2, h3, h4, h5, h6, h7, ?_, h9⟩
   show RX q.b st' (v.length + 1) aa mm (((l.drop k).filterMap (arcPr u v i j w)).foldl putL X)
   rw [hdrop, List.filterMap_cons]
   cases e : arcPr u v i j w l[k] with
   | none => simp only [e] at h8; exact h8
   | some p => simp only [e] at h8; exact h8
  refine goal' _ ?_
  clear goal'
  rw [List.all_cons, Bool.and_eq_true] at hall
  obtain ⟨hao, hall'⟩ := hall
  generalize l[k] = a at hP hao ⊢
  obtain ⟨ai, ao, aw, at_⟩ := a
  obtain ⟨st1, hst1⟩ : ∃ st1, st1 = addB st (.row (arcC (ai, ao, aw, at_)) 4 59 false 0 0 0) := ⟨_, rfl⟩
  have hN : ∀ k : V → S → Go.Ev.A, xStore 4 (.ptr st.nx 0 0) (.ls 0 [iv .i64 (ai : Int), iv .i64 (ao : Int), .str (stR aw), iv .i64 (at_ : Int)]) (addB st (.row [iv .i64 0, iv .i64 0, .str [], iv .i64 0] 4 59 false 0 0 0)) k = k Go.Ev.undef st1 := fun k => by rw [hst1]; exact store_new st 59 4 _ (arcC (ai, ao, aw, at_)) rfl rfl k
  have hP : ∀ k : V → S → Go.Ev.A, xLoad true 4 p st k = k (.ls 0 [iv .i64 (ai : Int), iv .i64 (ao : Int), .str (stR aw), iv .i64 (at_ : Int)]) st := hP
  have hE1 : Ext st st1 := by rw [hst1]; exact ext_addB _ _
  have hrow1 : Tr.get B.none st.nx st1.h = .row (arcC (ai, ao, aw, at_)) 4 59 false 0 0 0 := by rw [hst1]; exact addB_get _ _
  obtain ⟨d0, d1, d2, d3⟩ := arc_ld hrow1
  have d0 : ∀ c : V → S → Go.Ev.A, xLoad false 1 (.ptr st.nx 0 0) st1 c = c (iv .i64 (ai : Int)) st1 := d0
  have d1 : ∀ c : V → S → Go.Ev.A, xLoad false 1 (.ptr st.nx 0 1) st1 c = c (iv .i64 (ao : Int)) st1 := d1
  have d2 : ∀ c : V → S → Go.Ev.A, xLoad false 1 (.ptr st.nx 0 2) st1 c = c (.str (stR aw)) st1 := d2
  have d3 : ∀ c : V → S → Go.Ev.A, xLoad false 1 (.ptr st.nx 0 3) st1 c = c (iv .i64 (at_ : Int)) st1 := d3
  have hF1 : ∀ tm', gp 1 tm' = gp 1 tm → gp 3 tm' = gp 3 tm → gp 5 tm' = gp 5 tm → gp 7 tm' = gp 7 tm → gp 240 tm' = gp 240 tm → SF q tm' st1 := fun tm' a b c d e => (hF.frame a b c d e).to (hF.ext.trans hE1)
  have hX1 := hX.ext hE1
  have hO1 := hO.trans (Oth.ext hE1)
  have h62 : ∀ tm' : Go.Ev.T, gp 1 tm' = gp 1 tm → gp 3 tm' = gp 3 tm → gp 5 tm' = gp 5 tm → gp 7 tm' = gp 7 tm → gp 240 tm' = gp 240 tm → gp 9 tm' = gp 9 tm → gp 11 tm' = gp 11 tm → gp 15 tm' = .ptr st.nx 0 0 →
    cSearch_62.run r tm' st1 = .nrm (sp 17 (.bool (decide (v[j]? = some (ao : Int)))) (sp 16 (.bool (decide (u[i]? = some (ai : Int)))) tm')) st1 := fun tm' e1 e3 e5 e7 eb e9 e11 e15 => run62 hq (hF1 tm' e1 e3 e5 e7 eb) hi hj (e9.trans hG.g9) (e11.trans g11) e15 hrow1 r
  have fin : ∀ tm' st2 X2, gp 1 tm' = gp 1 tm → gp 3 tm' = gp 3 tm → gp 5 tm' = gp 5 tm → gp 7 tm' = gp 7 tm → gp 240 tm' = gp 240 tm → gp 8 tm' = gp 8 tm → gp 10 tm' = gp 10 tm → gp 9 tm' = gp 9 tm → gp 11 tm' = gp 11 tm → gp 13 tm' = gp 13 tm → gp 29 tm' = gp 29 tm → gp 30 tm' = gp 30 tm → gp 31 tm' = iv .i64 ((k : Int) + 1) → gp 24 tm' = gp 24 tm → gp 25 tm' = gp 25 tm → gp 27 tm' = gp 27 tm →
    Ext q.b st2 → RX q.b st2 (v.length + 1) aa mm X2 → Oth (v.length + 1) mm st0 st2 → l4Out u v ⟨q, aa, mm, i, j, w, l, va, k + 1, X2, st0, x24, x25, x27⟩ (r.code fiSearch uSearch_50 tm' st2) := by
   intro tm' st2 X2 a1 a3 a5 a7 ab a8 a10 a9 a11 a13 a29 a30 a31 a24 a25 a27 hE2 hX2 hO2
   exact IH' tm' st2 ⟨q, aa, mm, i, j, w, l, va, k + 1, X2, st0, x24, x25, x27⟩ (mu_lt2 g30 g31 (a30.trans g30) a31 hlt) ⟨hq, (hF.frame a1 a3 a5 a7 ab).to hE2, hG.frame a8 a10 a9, hi, hj, a11.trans g11, a13.trans g13, hA, a29.trans g29, a30.trans g30, a31, hlt, hl, a24.trans g24, a25.trans g25, a27.trans g27, hX2, hO2, hall'⟩
  -- a call of reach
  have reach : ∀ (c : Bool) (i' : Nat), i' < v.length + 1 → rs w = true → rs aw = true → rs (w + aw) = true → ∃ vv st2, r.call 35 [.ref 0 (mm c i'), iv .i64 (at_ : Int), .str (stR w), .str (stR aw)] st1 = .ret vv st2 ∧ Ext q.b st2 ∧ RX q.b st2 (v.length + 1) aa mm (putL X ⟨c, i', at_, w + aw⟩) ∧ Oth (v.length + 1) mm st0 st2 := by
   intro c i' hi' r1 r2 r3
   obtain ⟨m1, m2, m3⟩ := hX1.map c i' hi'
   obtain ⟨o1, o2⟩ := hX1.ok c i' hi'
   obtain ⟨vv, st2, hc, hpost⟩ := hR [.ref 0 (mm c i'), iv .i64 (at_ : Int), .str (stR w), .str (stR aw)] st1 ⟨_, _, _, _, _, rfl, m1, o2, o1, r1, r2, r3⟩
   obtain ⟨-, hup⟩ := hpost _ _ _ _ _ rfl m1 o2 o1 r1 r2
   refine ⟨vv, st2, hc, Ext.updK (hF.ext.trans hE1) m2 hup.k, ?_, hO1.trans (Oth.upd hi' hup.k)⟩
   rw [putL_set]
   exact hX1.upd hi' hup.k (reach_ok o1 _ _) (reach_vals o2 r3)
  have hlt' : (k : Int) < (l.length : Int) := by omega
  by_cases c1 : u[i]? = some (ai : Int) ∧ v[j]? = some (ao : Int)
  ·have hpr : arcPr u v i j w (ai, ao, aw, at_) = some ⟨true, j + 1, at_, w + aw⟩ := by unfold arcPr; rw [if_pos c1]
   have hrs : rs w = true ∧ rs aw = true ∧ rs (w + aw) = true := by
    unfold arcOk at hao; rw [hpr] at hao; simpa [and_assoc] using hao
   have hj' : j + 1 < v.length + 1 := by
    have := (List.getElem?_eq_some_iff.1 c1.2).1; omega
   obtain ⟨vv, st2, hc, e2, x2, o2⟩ := reach true (j + 1) hj' hrs.1 hrs.2.1 hrs.2.2
   obtain ⟨a1, a2⟩ := hX1.at_ true hj'
   have a1 : ∀ f : V → Go.Ev.A, xIdxAddrS 1 (.sl (aa true) 0 0 (v.length + 1) (v.length + 1)) (iv .i64 ((j : Int) + 1)) f = f (.ptr (aa true) 0 (j + 1)) := a1
   rw [hpr]
   simp -implicitDefEqProofs [lpSearch_50, rgSearch_52, rgSearch_60, gp_sp, g30, g31, lss_ii, hlt, g29, hp, hP, newRow_add, nat_iv, hN]
   rw [h62 _ (by simp [gp_sp]) (by simp [gp_sp]) (by simp [gp_sp]) (by simp [gp_sp]) (by simp [gp_sp]) (by simp [gp_sp]) (by simp [gp_sp]) (by simp [gp_sp])]
   rw [decide_eq_true c1.1, decide_eq_true c1.2]
   simp -implicitDefEqProofs [allSearch, gp_sp, g11, add_ii, w3, hG.g10, a1, a2, field_ptr, d2, d3, g13, det_call, hc, g31, w2, nat_iv]
   exact fin _ st2 _ (by simp [gp_sp]) (by simp [gp_sp]) (by simp [gp_sp]) (by simp [gp_sp]) (by simp [gp_sp]) (by simp [gp_sp]) (by simp [gp_sp]) (by simp [gp_sp]) (by simp [gp_sp]) (by simp [gp_sp]) (by simp [gp_sp]) (by simp [gp_sp]) (by simp [gp_sp]) (by simp [gp_sp]) (by simp [gp_sp]) (by simp [gp_sp]) e2 x2 o2
  ·have none' : arcPr u v i j w (ai, ao, aw, at_) = none → l4Out u v ⟨q, aa, mm, i, j, w, l, va, k + 1, (match arcPr u v i j w (ai, ao, aw, at_) with | some p => putL X p | none => X), st0, x24, x25, x27⟩ = l4Out u v ⟨q, aa, mm, i, j, w, l, va, k + 1, X, st0, x24, x25, x27⟩ := fun e => by rw [e]
   by_cases cu : u[i]? = some (ai : Int)
   ·have cv : ¬ v[j]? = some (ao : Int) := fun h => c1 ⟨cu, h⟩
    by_cases co : ao = 0
    ·have hpr : arcPr u v i j w (ai, ao, aw, at_) = some ⟨true, j, at_, w + aw⟩ := by unfold arcPr; rw [if_neg c1, if_pos ⟨cu, co⟩]
     have hrs : rs w = true ∧ rs aw = true ∧ rs (w + aw) = true := by
      unfold arcOk at hao; rw [hpr] at hao; simpa [and_assoc] using hao
     obtain ⟨vv, st2, hc, e2, x2, o2⟩ := reach true j (by omega) hrs.1 hrs.2.1 hrs.2.2
     obtain ⟨a1, a2⟩ := hX1.at_ true (i := j) (by omega)
     rw [hpr]
     simp -implicitDefEqProofs [lpSearch_50, rgSearch_52, rgSearch_60, gp_sp, g30, g31, lss_ii, hlt, g29, hp, hP, newRow_add, nat_iv, hN]
     rw [h62 _ (by simp [gp_sp]) (by simp [gp_sp]) (by simp [gp_sp]) (by simp [gp_sp]) (by simp [gp_sp]) (by simp [gp_sp]) (by simp [gp_sp]) (by simp [gp_sp])]
     rw [decide_eq_true cu, decide_eq_false cv]
     have co' : (ao : Int) = 0 := by omega
     simp -implicitDefEqProofs [allSearch, gp_sp, g11, hG.g10, a1, a2, field_ptr, d1, eql_ii, co', d2, d3, g13, det_call, hc, add_ii, g31, w2, nat_iv]
     exact fin _ st2 _ (by simp [gp_sp]) (by simp [gp_sp]) (by simp [gp_sp]) (by simp [gp_sp]) (by simp [gp_sp]) (by simp [gp_sp]) (by simp [gp_sp]) (by simp [gp_sp]) (by simp [gp_sp]) (by simp [gp_sp]) (by simp [gp_sp]) (by simp [gp_sp]) (by simp [gp_sp]) (by simp [gp_sp]) (by simp [gp_sp]) (by simp [gp_sp]) e2 x2 o2
    ·have hpr : arcPr u v i j w (ai, ao, aw, at_) = none := by unfold arcPr; rw [if_neg c1, if_neg (fun h => co h.2), if_neg (fun h => cv h.2)]
     rw [none' hpr]
     simp -implicitDefEqProofs [lpSearch_50, rgSearch_52, rgSearch_60, gp_sp, g30, g31, lss_ii, hlt, g29, hp, hP, newRow_add, nat_iv, hN]
     rw [h62 _ (by simp [gp_sp]) (by simp [gp_sp]) (by simp [gp_sp]) (by simp [gp_sp]) (by simp [gp_sp]) (by simp [gp_sp]) (by simp [gp_sp]) (by simp [gp_sp])]
     rw [decide_eq_true cu, decide_eq_false cv]
     by_cases ci : ai = 0
     ·simp -implicitDefEqProofs [allSearch, gp_sp, field_ptr, d0, d1, eql_ii, co, ci, add_ii, g31, w2, nat_iv]
      exact fin _ st1 _ (by simp [gp_sp]) (by simp [gp_sp]) (by simp [gp_sp]) (by simp [gp_sp]) (by simp [gp_sp]) (by simp [gp_sp]) (by simp [gp_sp]) (by simp [gp_sp]) (by simp [gp_sp]) (by simp [gp_sp]) (by simp [gp_sp]) (by simp [gp_sp]) (by simp [gp_sp]) (by simp [gp_sp]) (by simp [gp_sp]) (by simp [gp_sp]) (hF.ext.trans hE1) hX1 hO1
     ·simp -implicitDefEqProofs [allSearch, gp_sp, field_ptr, d0, d1, eql_ii, co, ci, add_ii, g31, w2, nat_iv]
      exact fin _ st1 _ (by simp [gp_sp]) (by simp [gp_sp]) (by simp [gp_sp]) (by simp [gp_sp]) (by simp [gp_sp]) (by simp [gp_sp]) (by simp [gp_sp]) (by simp [gp_sp]) (by simp [gp_sp]) (by simp [gp_sp]) (by simp [gp_sp]) (by simp [gp_sp]) (by simp [gp_sp]) (by simp [gp_sp]) (by simp [gp_sp]) (by simp [gp_sp]) (hF.ext.trans hE1) hX1 hO1
   ·by_cases c3 : ai = 0 ∧ v[j]? = some (ao : Int)
    ·have hpr : arcPr u v i j w (ai, ao, aw, at_) = some ⟨false, j + 1, at_, w + aw⟩ := by unfold arcPr; rw [if_neg c1, if_neg (fun h => cu h.1), if_pos c3]
     have hrs : rs w = true ∧ rs aw = true ∧ rs (w + aw) = true := by
      unfold arcOk at hao; rw [hpr] at hao; simpa [and_assoc] using hao
     have hj' : j + 1 < v.length + 1 := by
      have := (List.getElem?_eq_some_iff.1 c3.2).1; omega
     obtain ⟨vv, st2, hc, e2, x2, o2⟩ := reach false (j + 1) hj' hrs.1 hrs.2.1 hrs.2.2
     obtain ⟨a1, a2⟩ := hX1.at_ false hj'
     have a1 : ∀ f : V → Go.Ev.A, xIdxAddrS 1 (.sl (aa false) 0 0 (v.length + 1) (v.length + 1)) (iv .i64 ((j : Int) + 1)) f = f (.ptr (aa false) 0 (j + 1)) := a1
     rw [hpr]
     simp -implicitDefEqProofs [lpSearch_50, rgSearch_52, rgSearch_60, gp_sp, g30, g31, lss_ii, hlt, g29, hp, hP, newRow_add, nat_iv, hN]
     rw [h62 _ (by simp [gp_sp]) (by simp [gp_sp]) (by simp [gp_sp]) (by simp [gp_sp]) (by simp [gp_sp]) (by simp [gp_sp]) (by simp [gp_sp]) (by simp [gp_sp])]
     rw [decide_eq_false cu, decide_eq_true c3.2]
     have ci : (ai : Int) = 0 := by have := c3.1; omega
     simp -implicitDefEqProofs [allSearch, gp_sp, g11, add_ii, w3, hG.g8, a1, a2, field_ptr, d0, eql_ii, ci, d2, d3, g13, det_call, hc, g31, w2, nat_iv]
     exact fin _ st2 _ (by simp [gp_sp]) (by simp [gp_sp]) (by simp [gp_sp]) (by simp [gp_sp]) (by simp [gp_sp]) (by simp [gp_sp]) (by simp [gp_sp]) (by simp [gp_sp]) (by simp [gp_sp]) (by simp [gp_sp]) (by simp [gp_sp]) (by simp [gp_sp]) (by simp [gp_sp]) (by simp [gp_sp]) (by simp [gp_sp]) (by simp [gp_sp]) e2 x2 o2
    ·have hpr : arcPr u v i j w (ai, ao, aw, at_) = none := by unfold arcPr; rw [if_neg c1, if_neg (fun h => cu h.1), if_neg c3]
     rw [none' hpr]
     simp -implicitDefEqProofs [lpSearch_50, rgSearch_52, rgSearch_60, gp_sp, g30, g31, lss_ii, hlt, g29, hp, hP, newRow_add, nat_iv, hN]
     rw [h62 _ (by simp [gp_sp]) (by simp [gp_sp]) (by simp [gp_sp]) (by simp [gp_sp]) (by simp [gp_sp]) (by simp [gp_sp]) (by simp [gp_sp]) (by simp [gp_sp])]
     rw [decide_eq_false cu]
     by_cases ci : ai = 0
     ·have cv : ¬ v[j]? = some (ao : Int) := fun h => c3 ⟨ci, h⟩
      rw [decide_eq_false cv]
      simp -implicitDefEqProofs [allSearch, gp_sp, field_ptr, d0, eql_ii, ci, add_ii, g31, w2, nat_iv]
      exact fin _ st1 _ (by simp [gp_sp]) (by simp [gp_sp]) (by simp [gp_sp]) (by simp [gp_sp]) (by simp [gp_sp]) (by simp [gp_sp]) (by simp [gp_sp]) (by simp [gp_sp]) (by simp [gp_sp]) (by simp [gp_sp]) (by simp [gp_sp]) (by simp [gp_sp]) (by simp [gp_sp]) (by simp [gp_sp]) (by simp [gp_sp]) (by simp [gp_sp]) (hF.ext.trans hE1) hX1 hO1
     ·simp -implicitDefEqProofs [allSearch, gp_sp, field_ptr, d0, eql_ii, ci, add_ii, g31, w2, nat_iv]
      exact fin _ st1 _ (by simp [gp_sp]) (by simp [gp_sp]) (by simp [gp_sp]) (by simp [gp_sp]) (by simp [gp_sp]) (by simp [gp_sp]) (by simp [gp_sp]) (by simp [gp_sp]) (by simp [gp_sp]) (by simp [gp_sp]) (by simp [gp_sp]) (by simp [gp_sp]) (by simp [gp_sp]) (by simp [gp_sp]) (by simp [gp_sp]) (by simp [gp_sp]) (hF.ext.trans hE1) hX1 hO1
 ·obtain rfl : k = l.length := by omega
  simp -implicitDefEqProofs [lpSearch_50, allSearch, gp_sp, g30, g31, lss_ii, nat_iv]
  refine ⟨_, st, rfl, hF.frame (by simp [gp_sp]) (by simp [gp_sp]) (by simp [gp_sp]) (by simp [gp_sp]) (by simp [gp_sp]), hG.frame (by simp [gp_sp]) (by simp [gp_sp]) (by simp [gp_sp]), by simp [gp_sp, g11], by simp [gp_sp, g24], by simp [gp_sp, g25], by simp [gp_sp, g27], ?_, hO⟩
  show RX q.b st (v.length + 1) aa mm (((l.drop l.length).filterMap (arcPr u v i j w)).foldl putL X)
  rw [List.drop_length]
  exact hX
variable {M0 : Mc}
theorem arcPr_ne {u v : List Int} {i j w : Nat} {a : Arc} {p : Pr} (h : arcPr u v i j w a = some p) : ¬ (false = p.c ∧ j = p.i) := by
 unfold arcPr at h
 split at h
 ·injection h with h; rw [← h]; simp
 ·split at h
  ·injection h with h; rw [← h]; simp
  ·split at h
   ·injection h with h; rw [← h]; simp
   ·cases h
theorem puts_false {j : Nat} : ∀ {l : List Pr} {X : XS}, (∀ p ∈ l, ¬ (false = p.c ∧ j = p.i)) → (l.foldl putL X) false j = X false j
 | [], _, _ => rfl
 | p :: l, X, h => by
  rw [List.foldl_cons, puts_false fun x hx => h x (by simp [hx])]
  unfold putL
  rw [if_neg (h p (by simp))]
def visP (M : Mc) (u v : List Int) (i j : Nat) (vis : LM) : List Pr := vis.flatMap fun e => prs M u v i j (e.1, e.2.1)
theorem visP_ne {M : Mc} {u v : List Int} {i j : Nat} {vis : LM} : ∀ p ∈ visP M u v i j vis, ¬ (false = p.c ∧ j = p.i) := by
 intro p hp
 obtain ⟨e, _, h⟩ := List.mem_flatMap.1 hp
 obtain ⟨a, _, h⟩ := List.mem_filterMap.1 h
 exact arcPr_ne h
structure HQ where
 q : SS
 aa : Bool → Go.Ev.K
 mm : Bool → Nat → Go.Ev.K
 i : Nat
 j : Nat
 X : XS
 kit : Go.Ev.K
 x24 : V
 x25 : V
def l3In (M : Mc) (u v : List Int) (g : HQ) (tm : Go.Ev.T) (st : S) : Prop := SOk M u v g.q ∧ SF g.q tm st ∧ SG g.aa (v.length + 1) g.i tm ∧ g.i ≤ u.length ∧ g.j ≤ v.length ∧ gp 11 tm = iv .i64 (g.j : Int) ∧ gp 24 tm = g.x24 ∧ gp 25 tm = g.x25 ∧ gp 27 tm = .ptr g.kit 0 0 ∧ g.q.b.nx.toNat ≤ g.kit.toNat ∧ (ents (g.X false g.j).1).all (entOk M u v g.i g.j) = true ∧
 ∃ vis rest cur, (vis ++ rest).Perm (g.X false g.j).1 ∧ ItAt st g.kit (g.mm false g.j) (g.X false g.j) rest cur ∧ g.kit.toNat < st.nx.toNat ∧ RX g.q.b st (v.length + 1) g.aa g.mm ((visP M u v g.i g.j vis).foldl putL g.X)
def l3Leaf (M : Mc) (u v : List Int) (g : HQ) (l : Go.Ev.A) : Prop := ∃ tm' st' vis, l = .ext 4 tm' st' ∧ SF g.q tm' st' ∧ SG g.aa (v.length + 1) g.i tm' ∧ gp 11 tm' = iv .i64 (g.j : Int) ∧ gp 24 tm' = g.x24 ∧ gp 25 tm' = g.x25 ∧ List.Perm vis (g.X false g.j).1 ∧ RX g.q.b st' (v.length + 1) g.aa g.mm ((visP M u v g.i g.j vis).foldl putL g.X)
def lt3 (M : Mc) (u v : List Int) : Lt := ltI (l3In M u v) (fun g a => a.all (l3Leaf M u v g))
theorem mr_state {M : Mc} {u v : List Int} {q : SS} (hq : SOk M u v q) {tm : Go.Ev.T} {st : S} (hF : SF q tm st) {z : Int} (hz : 0 ≤ z) (hz2 : z.toNat < M.sts.length) :
  ∃ w p p0 p1 va, (∀ f : V → S → Go.Ev.A, xLoad false 1 (.ptr q.k3 0 3) st f = f w st) ∧ (∀ c, xIdxAddrS 2 w (iv .i64 z) c = c p) ∧ (∀ c, xFieldAddr 0 p c = c p0) ∧ (∀ c, xFieldAddr 1 p c = c p1) ∧
   (∀ k : V → S → Go.Ev.A, xLoad false 1 p0 st k = k (.str (finT M.sts[z.toNat].1)) st) ∧ (∀ k : V → S → Go.Ev.A, xLoad false 1 p1 st k = k va st) ∧ ArcsR q.b va M.sts[z.toNat].2 := by
 obtain ⟨k, w, h1, hk, h2, h3, h4⟩ := hq.mr.ex
 obtain ⟨g0, g1⟩ := h4 z.toNat hz2
 obtain ⟨f1, f2⟩ := h2.ext hF.ext
 obtain ⟨p, hp, hP⟩ := f1.idx (i := z) hz (by rw [h3]; omega)
 obtain ⟨p0, e0, P0⟩ := hP.field 0 (by omega)
 obtain ⟨p1, e1, P1⟩ := hP.field 1 (by omega)
 have hw : w ≠ .bad := by
  rcases h2 with (rfl | rfl) | ⟨_, _, _, _, ⟨_, rfl, _⟩ | ⟨_, rfl⟩, _⟩ <;> exact fun h => by cases h
 have hva : cellV q.b w (z.toNat * 2 + 1) ≠ .bad := by
  rcases g1.1 with (h | h) | ⟨_, _, _, _, ⟨_, h, _⟩ | ⟨_, h⟩, _⟩ <;> rw [h] <;> exact fun h => by cases h
 have c0 : cellV st w (z.toNat * 2 + (0 + 0)) = .str (finT M.sts[z.toNat].1) := by rw [f2]; exact g0
 have c1 : cellV st w (z.toNat * 2 + (1 + 0)) = cellV q.b w (z.toNat * 2 + 1) := by rw [f2]
 refine ⟨w, p, p0, p1, cellV q.b w (z.toNat * 2 + 1), c_ld h1 ((hF.ext.get _ hq.l3).trans hq.r3) hw, fun c => hp .i64 c, e0, e1, fun k => ?_, fun k => ?_, g1⟩
 ·rw [P0.load1 (by omega) (by rw [c0]; exact fun h => by cases h) k, c0]
 ·rw [P1.load1 (by omega) (by rw [c1]; exact hva) k, c1]
theorem loop3 {u v : List Int} {L : Nat → Lt} (h114 : L 114 = lt4 M0 u v) (h142 : L 142 = lt3 M0 u v) (hT : Holds Tryz.prog (K M0) 86) (hB : Holds Tryz.prog (K M0) 87) : ∀ tm s', (L 142).pre tm s' → (L 142).post tm s' (cSearch_37.run (RkN Tryz.prog (K M0) KN L) tm s') := by
 have l4 := loop4 (M0 := M0) (u := u) (v := v) h114 hT hB
 rw [h114] at l4
 refine loop_n (L := L) pcOk0.1 pcOk0.2 szSearch_37 (fun tm st => itLen (gp 27 tm) st) ?_ ?_
 ·rw [h142]
  rintro tm s a ⟨q, hq⟩ h
  have h : a.all (l3Leaf M0 u v q) := h q hq
  exact h.nb (fun a ⟨_, _, _, e, _⟩ => by rw [e]; exact fun h => h)
 rw [h142]
 rintro tm st - IH ⟨q, aa, mm, i, j, X, kit, x24, x25⟩ ⟨hq, hF, hG, hi, hj, g11, g24, g25, g27, hkb, hen, vis, rest, cur, hp, hit, hkl, hX⟩
 have IH' : ∀ tm' s3 g, itLen (gp 27 tm') s3 < itLen (gp 27 tm) st → l3In M0 u v g tm' s3 → ((RkN Tryz.prog (K M0) KN L).code fiSearch uSearch_37 tm' s3).all (l3Leaf M0 u v g) := fun tm' s3 g h1 h2 => IH tm' s3 h1 ⟨g, h2⟩ g h2
 clear IH
 show (cSearch_37.run _ tm st).all (l3Leaf M0 u v _)
 generalize RkN Tryz.prog _ _ _ = r at IH' l4 ⊢
 simp only at hq hF hG hi hj g11 g24 g25 g27 hkb hen hp hit hkl hX
 have kaa : ∀ c, aa c ≠ kit := fun c e => by
  have := (hX.row c).1
  rw [e, hit.it] at this; cases this
 have kmm : ∀ c i, i < v.length + 1 → mm c i ≠ kit := fun c i hi e => by
  have := (hX.map c i hi).1
  unfold MapAt at this
  rw [e, hit.it] at this; cases this
 have hXk : ∀ (b : B), RX q.b (setB st kit b) (v.length + 1) aa mm ((visP M0 u v i j vis).foldl putL X) := fun b =>
  hX.keep (Nat.le_refl _) (fun c => by rw [setB_get, if_neg (kaa c)]) (fun c i hi => by rw [setB_get, if_neg (kmm c i hi)])
 have hEk : ∀ (b : B), Ext q.b (setB st kit b) := fun b => ⟨hF.ext.nx, fun k hk => by rw [setB_get, if_neg (fun e => by rw [e] at hk; omega)]; exact hF.ext.get k hk⟩
 cases rest with
 | nil =>
  have hn := fun k => next_nil hit k
  simp -implicitDefEqProofs [lpSearch_37, allSearch, g27, hn, gp_sp]
  refine ⟨_, _, vis, rfl, (hF.frame (by simp [gp_sp]) (by simp [gp_sp]) (by simp [gp_sp]) (by simp [gp_sp]) (by simp [gp_sp])).to (hEk _), hG.frame (by simp [gp_sp]) (by simp [gp_sp]) (by simp [gp_sp]), by simp [gp_sp, g11], by simp [gp_sp, g24], by simp [gp_sp, g25], by simpa using hp, hXk _⟩
 | cons e rest =>
  simp -implicitDefEqProofs only [lpSearch_37, rgSearch_39, g27]
  refine A.all_seq' (A.all_seq' (all_next hit fun l1 e' l2 he => ?_))
  obtain ⟨st1, hst1⟩ : ∃ st1, st1 = setB st kit (.mit (mm false j) ((X false j).1.map toME) (X false j).2 ((l1 ++ l2).map toME) (some (toME e'))) := ⟨_, rfl⟩
  have hX1 := hXk (.mit (mm false j) ((X false j).1.map toME) (X false j).2 ((l1 ++ l2).map toME) (some (toME e')))
  have hE1 := hEk (.mit (mm false j) ((X false j).1.map toME) (X false j).2 ((l1 ++ l2).map toME) (some (toME e')))
  rw [← hst1] at hX1 hE1 ⊢
  have hit1 : ItAt st1 kit (mm false j) (X false j) (l1 ++ l2) (some (toME e')) := ⟨by rw [hst1, setB_get, if_pos rfl], by unfold MapAt; rw [hst1, setB_get, if_neg (kmm false j (by omega))]; exact hit.mp⟩
  have he1 := fun c => entry_ok hit1 c
  have hkey : (toME e').key = iv .i64 e'.1 := rfl
  have hval : (toME e').val = .str (stR e'.2.1) := rfl
  have hmem : (e'.1, e'.2.1) ∈ ents (X false j).1 := by
   refine List.mem_map.2 ⟨e', hp.subset ?_, rfl⟩
   rw [he]; simp
  have hok := List.all_eq_true.1 hen _ hmem
  unfold entOk at hok
  rw [Bool.and_eq_true, Bool.and_eq_true] at hok
  obtain ⟨⟨hz, hz2⟩, harcs⟩ := hok
  have hz : 0 ≤ e'.1 := of_decide_eq_true hz
  have hz2 : e'.1.toNat < M0.sts.length := of_decide_eq_true hz2
  have hF1 : ∀ tm', gp 1 tm' = gp 1 tm → gp 3 tm' = gp 3 tm → gp 5 tm' = gp 5 tm → gp 7 tm' = gp 7 tm → gp 240 tm' = gp 240 tm → SF q tm' st1 := fun tm' a b c d e => (hF.frame a b c d e).to hE1
  obtain ⟨ws, ps, p0, p1, va, hws, hps, -, e1, -, l1', hA⟩ := mr_state hq (hF1 tm rfl rfl rfl rfl rfl) hz hz2
  have hvl : ∀ c : V → Go.Ev.A, xLenS va c = c (iv .i64 ((M0.sts[e'.1.toNat]).2.length : Int)) := fun c => by rw [hA.1.len, hA.2.1]
  have hao : arcsOf M0 e'.1 = (M0.sts[e'.1.toNat]).2 := by
   unfold arcsOf
   rw [List.getD_eq_getElem?_getD, List.getElem?_eq_getElem hz2]; rfl
  simp -implicitDefEqProofs [rgSearch_46, rgSearch_48, gp_sp, g27, he1, hkey, hval, hF.g3, field_ptr, hws, hps, e1, l1', hvl, nat_iv]
  generalize hXX : cSearch_50.run r _ _ = A0
  have h2 : l4Out u v ⟨q, aa, mm, i, j, e'.2.1, (M0.sts[e'.1.toNat]).2, va, 0, (visP M0 u v i j vis).foldl putL X, st1, x24, x25, .ptr kit 0 0⟩ A0 := by
   rw [← hXX]
   refine (fun h => l4 _ _ ⟨_, h⟩ _ h) ⟨hq, hF1 _ (by simp [gp_sp]) (by simp [gp_sp]) (by simp [gp_sp]) (by simp [gp_sp]) (by simp [gp_sp]), hG.frame (by simp [gp_sp]) (by simp [gp_sp]) (by simp [gp_sp]), hi, hj, by simp [gp_sp, g11], by simp [gp_sp], hA, by simp [gp_sp], by simp [gp_sp], by simp [gp_sp], Nat.zero_le _, hq.al _ (List.getElem_mem _), by simp [gp_sp, g24], by simp [gp_sp, g25], by simp [gp_sp, g27], hX1, Oth.refl _ _ _, ?_⟩
   show (List.drop 0 _).all _ = true
   rw [List.drop_zero, ← hao]; exact harcs
  obtain ⟨tm3, st3, rfl, hF3, hG3, g11', g24', g25', g27', hX3, hO3⟩ := h2
  simp only [List.drop_zero] at hX3
  simp -implicitDefEqProofs only [blockN_eq, blockN_nrm]
  have hkit3 : Tr.get B.none kit st3.h = Tr.get B.none kit st1.h := hO3.2 kit (by rw [hst1]; exact hkl) (fun c i hi e => kmm c i hi e.symm)
  have hvis : (visP M0 u v i j (vis ++ [e'])).foldl putL X = ((M0.sts[e'.1.toNat]).2.filterMap (arcPr u v i j e'.2.1)).foldl putL ((visP M0 u v i j vis).foldl putL X) := by
   unfold visP
   rw [List.flatMap_append, List.foldl_append]
   simp only [List.flatMap_cons, List.flatMap_nil, List.append_nil]
   unfold prs
   rw [hao]
  rw [← hvis] at hX3
  have hmp3 : MapAt st3 (mm false j) (X false j) := by
   have := (hX3.map false j (by omega)).1
   rwa [puts_false visP_ne] at this
  have hit3 : ItAt st3 kit (mm false j) (X false j) (l1 ++ l2) (some (toME e')) := ⟨hkit3.trans hit1.it, hmp3⟩
  have hlen : itLen (gp 27 tm3) st3 < itLen (gp 27 tm) st := by
   rw [g27', g27, itLen_at hit3, itLen_at hit, he]; simp
  refine IH' _ st3 ⟨q, aa, mm, i, j, X, kit, x24, x25⟩ hlen ⟨hq, hF3, hG3, hi, hj, g11', g24', g25', g27', hkb, hen, vis ++ [e'], l1 ++ l2, _, ?_, hit3, Nat.lt_of_lt_of_le (by rw [hst1]; exact hkl) hO3.1, hX3⟩
  rw [he] at hp
  refine List.Perm.trans ?_ hp
  simp only [List.append_assoc, List.singleton_append]
  exact List.Perm.append_left _ (List.perm_middle).symm
variable {M0 : Mc}
def okX (X : XS) : Prop := ∀ c i, LOk (X c i) ∧ okVals (X c i).1
theorem okX_set {X : XS} (h : okX X) {c : Bool} {i : Nat} {y : LM × Nat} (h1 : LOk y) (h2 : okVals y.1) : okX (setX X c i y) := by
 intro c' i'
 unfold setX
 split
 ·exact ⟨h1, h2⟩
 ·exact h c' i'
theorem okX_puts : ∀ {l : List Pr} {X : XS}, okX X → (∀ p ∈ l, rs p.r = true) → okX (l.foldl putL X)
 | [], _, h, _ => h
 | p :: l, X, h, hl => by
  rw [List.foldl_cons]
  refine okX_puts ?_ fun x hx => hl x (by simp [hx])
  rw [putL_set]
  exact okX_set h (reach_ok (h _ _).1 _ _) (reach_vals (h _ _).2 (hl p (by simp)))
theorem prs_rs {M : Mc} {u v : List Int} {i j : Nat} {e : Int × Nat} (h : entOk M u v i j e = true) : ∀ p ∈ prs M u v i j e, rs p.r = true := by
 intro p hp
 obtain ⟨a, ha, hpr⟩ := List.mem_filterMap.1 hp
 unfold entOk at h
 rw [Bool.and_eq_true] at h
 have := List.all_eq_true.1 h.2 a ha
 unfold arcOk at this
 rw [hpr] at this
 have hr : p.r = e.2 + a.2.2.1 := by
  unfold arcPr at hpr
  split at hpr
  ·injection hpr with e; rw [← e]
  ·split at hpr
   ·injection hpr with e; rw [← e]
   ·split at hpr
    ·injection hpr with e; rw [← e]
    ·cases hpr
 rw [hr]
 simp at this
 exact this.2
structure JQ where
 q : SS
 aa : Bool → Go.Ev.K
 mm : Bool → Nat → Go.Ev.K
 i : Nat
 Y : XS
def l2In (M : Mc) (u v : List Int) (g : JQ) (tm : Go.Ev.T) (st : S) : Prop := SOk M u v g.q ∧ SF g.q tm st ∧ SG g.aa (v.length + 1) g.i tm ∧ g.i ≤ u.length ∧ ∃ (j k : Nat) (X Xc : XS), j + k = v.length + 1 ∧ gp 24 tm = iv .i64 ((v.length + 1 : Nat) : Int) ∧ gp 25 tm = iv .i64 (j : Int) ∧ RX g.q.b st (v.length + 1) g.aa g.mm X ∧ lk X = lk Xc ∧ okX Xc ∧ stepsJ M u v g.i k Xc j = some g.Y
def l2Leaf (_ v : List Int) (g : JQ) (l : Go.Ev.A) : Prop := ∃ tm' st' X, l = .ext 2 tm' st' ∧ SF g.q tm' st' ∧ SG g.aa (v.length + 1) g.i tm' ∧ RX g.q.b st' (v.length + 1) g.aa g.mm X ∧ lk X = lk g.Y ∧ okX g.Y
def lt2 (M : Mc) (u v : List Int) : Lt := ltI (l2In M u v) (fun g a => a.all (l2Leaf u v g))
theorem flatMap_perm {α β : Type} {f : α → List β} {l l' : List α} (h : l.Perm l') : (l.flatMap f).Perm (l'.flatMap f) := by
 induction h with
 | nil => exact List.Perm.refl _
 | cons x _ ih => simp only [List.flatMap_cons]; exact List.Perm.append_left _ ih
 | swap x y l =>
  simp only [List.flatMap_cons]
  rw [← List.append_assoc, ← List.append_assoc]
  exact List.Perm.append_right _ List.perm_append_comm
 | trans _ _ h1 h2 => exact h1.trans h2
theorem loop2 {u v : List Int} {L : Nat → Lt} (h114 : L 114 = lt4 M0 u v) (h142 : L 142 = lt3 M0 u v) (h175 : L 175 = lt2 M0 u v) (hT : Holds Tryz.prog (K M0) 86) (hB : Holds Tryz.prog (K M0) 87) : ∀ tm s', (L 175).pre tm s' → (L 175).post tm s' (cSearch_21.run (RkN Tryz.prog (K M0) KN L) tm s') := by
 have l3 := loop3 (M0 := M0) (u := u) (v := v) h114 h142 hT hB
 rw [h142] at l3
 refine loop_n (L := L) pcOk0.1 pcOk0.2 szSearch_21 (fun tm _ => (toI (gp 24 tm)).toNat - (toI (gp 25 tm)).toNat) ?_ ?_
 ·rw [h175]
  rintro tm s a ⟨q, hq⟩ h
  have h : a.all (l2Leaf u v q) := h q hq
  exact h.nb (fun a ⟨_, _, _, e, _⟩ => by rw [e]; exact fun h => h)
 rw [h175]
 rintro tm st - IH ⟨q, aa, mm, i, Y⟩ ⟨hq, hF, hG, hi, j, k, X, Xc, hjk, g24, g25, hX, hlk, hokc, hrun⟩
 have IH' : ∀ tm' s3 g, (toI (gp 24 tm')).toNat - (toI (gp 25 tm')).toNat < (toI (gp 24 tm)).toNat - (toI (gp 25 tm)).toNat → l2In M0 u v g tm' s3 → ((RkN Tryz.prog (K M0) KN L).code fiSearch uSearch_21 tm' s3).all (l2Leaf u v g) := fun tm' s3 g h1 h2 => IH tm' s3 h1 ⟨g, h2⟩ g h2
 clear IH
 show (cSearch_21.run _ tm st).all (l2Leaf u v _)
 have hS := kept (M0 := M0) (L := L) (Spread_ok hT hB)
 generalize RkN Tryz.prog _ _ _ = r at IH' l3 hS ⊢
 simp only at hq hF hG hi hX hrun
 have hlv := hq.lv
 cases k with
 | zero =>
  obtain rfl : j = v.length + 1 := by omega
  simp only [stepsJ] at hrun
  injection hrun with hrun
  subst hrun
  have hlt : ¬ ((v.length + 1 : Nat) : Int) < ((v.length + 1 : Nat) : Int) := by omega
  simp -implicitDefEqProofs only [lpSearch_21, rgSearch_23, g24, g25, lss_ii, decide_eq_false hlt, seqA_nrm]
  refine ⟨_, st, X, rfl, hF.frame (by simp [gp_sp]) (by simp [gp_sp]) (by simp [gp_sp]) (by simp [gp_sp]) (by simp [gp_sp]), hG.frame (by simp [gp_sp]) (by simp [gp_sp]) (by simp [gp_sp]), hX, hlk, hokc⟩
 | succ k =>
  have hjn : j < v.length + 1 := by omega
  have hlt : (j : Int) < ((v.length + 1 : Nat) : Int) := by omega
  have w2 : IntKind.i64.wrap ((j : Int) + 1) = (j : Int) + 1 := wrap64 (by omega) (by omega)
  simp only [stepsJ] at hrun
  cases hst : stepJ M0 u v i Xc j with
  | none => rw [hst] at hrun; cases hrun
  | some Y1 =>
   rw [hst] at hrun
   simp only at hrun
   obtain ⟨h12, y', hy', y, hyy, hyr, hen, hyl, rfl⟩ := stepJ_same hlk.symm (hokc false j).1.2 (hX.ok false j hjn).1.2 hst
   obtain ⟨m1, m2, m3⟩ := hX.map false j hjn
   obtain ⟨o1, o2⟩ := hX.ok false j hjn
   obtain ⟨p1, p2⟩ := spRun_ok hy' o1 o2
   obtain ⟨p3, p4⟩ := spRun_ok hyr (hokc false j).1 (hokc false j).2
   obtain ⟨kk, ws, hc, hkk, hrest⟩ := hq.mr.ex
   obtain ⟨a1, a2⟩ := hX.at_ false hjn
   -- the machine, loaded
   have hws : ws ≠ .bad := by
    rcases hrest.1 with (rfl | rfl) | ⟨_, _, _, _, ⟨_, rfl, _⟩ | ⟨_, rfl⟩, _⟩ <;> exact fun h => by cases h
   have hld : ∀ f : V → S → Go.Ev.A, xLoad true 4 (.ptr q.k3 0 0) st f = f (.ls 0 q.c) st := fun f => by
    have hg := (hF.ext.get _ hq.l3).trans hq.r3
    have hP : Pt st (.ptr q.k3 0 0) 4 (fun j => q.c.getD j .bad) := by
     have := row_pt hg (by rw [hc]; rfl) (o := 0) (m := 4) (by omega)
     simpa using this
    rw [hP.loadN 4 (Nat.le_refl _) (fun i hi => by
     rw [hc]
     match i, hi with
     | 0, _ => exact hkk
     | 1, _ => exact (show iv .i64 (M0.start : Int) ≠ .bad from iv_ne _ _)
     | 2, _ => exact fun h => by cases h
     | 3, _ => exact hws) f]
    rw [hc]; rfl
   obtain ⟨vv, st2, hcall, hpost⟩ := hS [.ref 0 (mm false j), .ls 0 q.c] st ⟨mm false j, q.c, X false j, y', isort ((X false j).1.map (·.1)), 100, rfl, m3, m1, o1, o2, hq.mr.ext hF.ext, hq.al, ⟨isort_sorted _, isort_perm _, by have := (isort_perm ((X false j).1.map (·.1))).length_eq; rw [List.length_map] at this; omega⟩, hy'⟩
   obtain ⟨u1, u2⟩ := hpost _ _ _ _ _ _ ⟨rfl, m3, m1, o1, o2, hq.mr.ext hF.ext, hq.al, ⟨isort_sorted _, isort_perm _, by have := (isort_perm ((X false j).1.map (·.1))).length_eq; rw [List.length_map] at this; omega⟩, hy'⟩
   have hup : UpdK st st2 (mm false j) y' := ⟨u1, u2.other, u2.nx⟩
   have hX2 := hX.upd hjn hup p1 p2
   have hE2 := Ext.updK hF.ext m2 hup
   obtain ⟨st3, hst3⟩ : ∃ st3, st3 = addB st2 (.mit (mm false j) (y'.1.map toME) y'.2 (y'.1.map toME) none) := ⟨_, rfl⟩
   have hE3 : Ext st2 st3 := by rw [hst3]; exact ext_addB _ _
   have hrg := fun f => rangeM_ok u1 p1 f
   rw [← hst3] at hrg
   obtain ⟨-, a2'⟩ := hX2.at_ false hjn
   have hX3 := hX2.ext hE3
   have hXj : setX X false j y' false j = y' := by unfold setX; rw [if_pos ⟨rfl, rfl⟩]
   have hm3 : (mm false j).toNat < st2.nx.toNat := Nat.lt_of_lt_of_le m3 hup.nx
   simp -implicitDefEqProofs only [lpSearch_21, rgSearch_23, g24, g25, lss_ii, decide_eq_true hlt, seqA_nrm]
   simp -implicitDefEqProofs [rgSearch_31, rgSearch_33, rgSearch_35, gp_sp, g25, hG.g8, a1, a2, hF.g3, hld, det_call, hcall, a2', hrg]
   generalize hXX : cSearch_37.run r _ _ = A0
   have h2 : A0.all (l3Leaf M0 u v ⟨q, aa, mm, i, j, setX X false j y', st2.nx, iv .i64 ((v.length + 1 : Nat) : Int), iv .i64 (j : Int)⟩) := by
    rw [← hXX]
    refine (fun h => l3 _ _ ⟨_, h⟩ _ h) ⟨hq, (hF.frame (by simp [gp_sp]) (by simp [gp_sp]) (by simp [gp_sp]) (by simp [gp_sp]) (by simp [gp_sp])).to (hE2.trans hE3), hG.frame (by simp [gp_sp]) (by simp [gp_sp]) (by simp [gp_sp]), hi, by show j ≤ v.length; omega, by simp [gp_sp], by simp [gp_sp, g24], by simp [gp_sp, g25], by simp [gp_sp], hE2.nx, ?_, [], (setX X false j y' false j).1, none, List.Perm.refl _, ?_, ?_, hX3⟩
    ·show (ents (setX X false j y' false j).1).all _ = true
     rw [hXj]
     have hpm := ents_perm p1.2 p3.2 hyy.symm
     rw [List.all_eq_true] at hen ⊢
     exact fun e he => hen e (hpm.subset he)
    ·show ItAt st3 st2.nx (mm false j) (setX X false j y' false j) _ none
     rw [hXj]
     exact ⟨by rw [hst3]; exact addB_get _ _, (hE3.get _ hm3).trans u1⟩
    ·show st2.nx.toNat < st3.nx.toNat
     rw [hst3]; show st2.nx.toNat < st2.nx.succ.toNat; rw [K.toNat_succ]; omega
   refine A.all_seq' (A.all_seq' (A.all_block' (A.all_block ?_ h2)))
   rintro l - ⟨tm3, st4, vis, rfl, hF4, hG4, g11', g24', g25', hvis, hX4⟩
   simp -implicitDefEqProofs only [blockN_eq, A.all_nrm, blockN_nrm, seqA_nrm]
   simp only at g24' g25' hvis hX4
   simp -implicitDefEqProofs [rgSearch_78, g25', add_ii, w2, nat_iv]
   have hpr : (visP M0 u v i j vis).Perm ((ents y.1).flatMap (prs M0 u v i j)) := by
    have e1 : visP M0 u v i j vis = (ents vis).flatMap (prs M0 u v i j) := by
     unfold visP ents
     rw [List.flatMap_map]
    rw [e1]
    refine flatMap_perm ?_
    rw [hXj] at hvis
    have h1 : (ents vis).Perm (ents y'.1) := hvis.map _
    exact h1.trans (ents_perm p1.2 p3.2 hyy.symm)
   have hlk4 : lk ((visP M0 u v i j vis).foldl putL (setX X false j y')) = lk (((ents y.1).flatMap (prs M0 u v i j)).foldl putL (setX Xc false j y)) := by
    rw [lk_puts, lk_puts, lk_set hlk false j hyy.symm]
    exact foldl_perm (fun b p q => putF_comm b p q) hpr _
   have hok4 : okX (((ents y.1).flatMap (prs M0 u v i j)).foldl putL (setX Xc false j y)) := by
    refine okX_puts (okX_set hokc p3 p4) fun p hp => ?_
    obtain ⟨e, he, hpe⟩ := List.mem_flatMap.1 hp
    exact prs_rs (List.all_eq_true.1 hen e he) p hpe
   exact IH' _ st4 ⟨q, aa, mm, i, Y⟩ (by rw [g24, g25, toI_iv, toI_iv]; simp [gp_sp, g24', toI_iv]; omega) ⟨hq, hF4.frame (by simp [gp_sp]) (by simp [gp_sp]) (by simp [gp_sp]) (by simp [gp_sp]) (by simp [gp_sp]), hG4.frame (by simp [gp_sp]) (by simp [gp_sp]) (by simp [gp_sp]), hi, j + 1, k, _, _, by omega, by simp [gp_sp, g24'], by simp [gp_sp], hX4, hlk4, hok4, hrun⟩
variable {M0 : Mc}
structure RH (b s : S) (n : Nat) (a : Go.Ev.K) (m : Nat → Go.Ev.K) (x : Nat → LM × Nat) : Prop where
 row : Tr.get B.none a s.h = .row ((List.range n).map fun i => .ref 0 (m i)) n 76 false 0 0 0 ∧ b.nx.toNat ≤ a.toNat ∧ a.toNat < s.nx.toNat
 map : ∀ i, i < n → MapAt s (m i) (x i) ∧ b.nx.toNat ≤ (m i).toNat ∧ (m i).toNat < s.nx.toNat
 ok : ∀ i, i < n → LOk (x i) ∧ okVals (x i).1
 inj : ∀ i i', i < n → i' < n → m i = m i' → i = i'
theorem RX.half {b s : S} {n : Nat} {aa : Bool → Go.Ev.K} {mm : Bool → Nat → Go.Ev.K} {X : XS} (h : RX b s n aa mm X) (c : Bool) : RH b s n (aa c) (mm c) (X c) :=
 ⟨h.row c, h.map c, h.ok c, fun i i' hi hi' e => (h.inj c i c i' hi hi' e).2⟩
def pairX (x : Nat → LM × Nat) : XS := fun c i => if c = true then ([], 0) else x i
theorem empty_ok : LOk (([], 0) : LM × Nat) ∧ okVals ([] : LM) :=
 ⟨⟨⟨fun e he => (by cases he), List.Pairwise.nil⟩, List.Pairwise.nil⟩, fun z r h => (by cases h)⟩
theorem RH.both {b s s' : S} {n : Nat} {a a' : Go.Ev.K} {m m' : Nat → Go.Ev.K} {x : Nat → LM × Nat} (h : RH b s n a m x) (hE : Ext s s') (hb : b.nx.toNat ≤ s.nx.toNat)
  (h1 : Tr.get B.none a' s'.h = .row ((List.range n).map fun i => .ref 0 (m' i)) n 76 false 0 0 0 ∧ s.nx.toNat ≤ a'.toNat ∧ a'.toNat < s'.nx.toNat) (h2 : ∀ i, i < n → MapAt s' (m' i) ([], 0) ∧ s.nx.toNat ≤ (m' i).toNat ∧ (m' i).toNat < s'.nx.toNat) (h3 : ∀ i i', i < n → i' < n → m' i = m' i' → i = i') :
  RX b s' n (fun c => if c = true then a' else a) (fun c i => if c = true then m' i else m i) (pairX x) := by
 refine ⟨fun c => ?_, fun c i hi => ?_, fun c i hi => ?_, fun c i c' i' hi hi' e => ?_⟩
 ·cases c with
  | true => exact ⟨h1.1, Nat.le_trans hb h1.2.1, h1.2.2⟩
  | false => exact ⟨(hE.get _ h.row.2.2).trans h.row.1, h.row.2.1, Nat.lt_of_lt_of_le h.row.2.2 hE.nx⟩
 ·cases c with
  | true => exact ⟨(h2 i hi).1, Nat.le_trans hb (h2 i hi).2.1, (h2 i hi).2.2⟩
  | false => exact ⟨(hE.get _ (h.map i hi).2.2).trans (h.map i hi).1, (h.map i hi).2.1, Nat.lt_of_lt_of_le (h.map i hi).2.2 hE.nx⟩
 ·cases c with
  | true => exact empty_ok
  | false => exact h.ok i hi
 ·cases c <;> cases c'
  ·exact ⟨rfl, h.inj i i' hi hi' e⟩
  ·have g1 := (h.map i hi).2.2
   have g2 := (h2 i' hi').2.1
   have e : m i = m' i' := e
   rw [e] at g1; omega
  ·have g1 := (h.map i' hi').2.2
   have g2 := (h2 i hi).2.1
   have e : m' i = m i' := e
   rw [e] at g2; omega
  ·exact ⟨rfl, h3 i i' hi hi' e⟩
structure EQ where
 q : SS
 Y : XS
def l1In (M : Mc) (u v : List Int) (g : EQ) (tm : Go.Ev.T) (st : S) : Prop := SOk M u v g.q ∧ SF g.q tm st ∧ ∃ (i k : Nat) (a : Go.Ev.K) (m : Nat → Go.Ev.K) (x : Nat → LM × Nat) (Xc : XS), i + k = u.length ∧ gp 9 tm = iv .i64 (i : Int) ∧ gp 8 tm = .sl a 0 0 (v.length + 1) (v.length + 1) ∧ RH g.q.b st (v.length + 1) a m x ∧ lk (pairX x) = lk Xc ∧ okX Xc ∧ stepsI M u v k Xc i = some g.Y
def l1Leaf (_ v : List Int) (g : EQ) (l : Go.Ev.A) : Prop := ∃ tm' st' a m x, l = .ext 0 tm' st' ∧ SF g.q tm' st' ∧ gp 8 tm' = .sl a 0 0 (v.length + 1) (v.length + 1) ∧ RH g.q.b st' (v.length + 1) a m x ∧ (∀ i, lookL (x i).1 = lookL (g.Y false i).1) ∧ okX g.Y
def lt1 (M : Mc) (u v : List Int) : Lt := ltI (l1In M u v) (fun g a => a.all (l1Leaf u v g))
theorem lk_turn {X Y : XS} (h : lk X = lk Y) : lk (pairX (X true)) = lk (turnX Y) := by
 funext c i
 show lookL (if c = true then (([], 0) : LM × Nat) else X true i).1 = lookL (if c = true then (([], 0) : LM × Nat) else Y true i).1
 split
 ·rfl
 ·exact congrFun (congrFun h true) i
theorem okX_turn {X : XS} (h : okX X) : okX (turnX X) := by
 intro c i
 unfold turnX
 split
 ·exact empty_ok
 ·exact h true i
theorem loop1 {u v : List Int} {L : Nat → Lt} (h114 : L 114 = lt4 M0 u v) (h142 : L 142 = lt3 M0 u v) (h175 : L 175 = lt2 M0 u v) (h207 : L 207 = lt1 M0 u v) (hT : Holds Tryz.prog (K M0) 86) (hB : Holds Tryz.prog (K M0) 87) : ∀ tm s', (L 207).pre tm s' → (L 207).post tm s' (cSearch_12.run (RkN Tryz.prog (K M0) KN L) tm s') := by
 have l2 := loop2 (M0 := M0) (u := u) (v := v) h114 h142 h175 hT hB
 rw [h175] at l2
 refine loop_n (L := L) pcOk0.1 pcOk0.2 szSearch_12 (fun tm _ => 20 - (toI (gp 9 tm)).toNat) ?_ ?_
 ·rw [h207]
  rintro tm s a ⟨q, hq⟩ h
  have h : a.all (l1Leaf u v q) := h q hq
  exact h.nb (fun a ⟨_, _, _, _, _, e, _⟩ => by rw [e]; exact fun h => h)
 rw [h207]
 rintro tm st - IH ⟨q, Y⟩ ⟨hq, hF, i, k, a, m, x, Xc, hik, g9, g8, hH, hlk, hokc, hrun⟩
 have IH' : ∀ tm' s3 g, 20 - (toI (gp 9 tm')).toNat < 20 - (toI (gp 9 tm)).toNat → l1In M0 u v g tm' s3 → ((RkN Tryz.prog (K M0) KN L).code fiSearch uSearch_12 tm' s3).all (l1Leaf u v g) := fun tm' s3 g h1 h2 => IH tm' s3 h1 ⟨g, h2⟩ g h2
 clear IH
 show (cSearch_12.run _ tm st).all (l1Leaf u v _)
 have hC := kept (M0 := M0) (L := L) SearchC_ok
 generalize RkN Tryz.prog _ _ _ = r at IH' l2 hC ⊢
 simp only at hq hF hH hrun
 have hlu := hq.lu
 have hlv := hq.lv
 obtain ⟨-, lenv⟩ := word_at hq.wv (i := 0)
 obtain ⟨-, lenu⟩ := word_at hq.wu (i := 0)
 have hIv := (hq.iv_.ext hF.ext).1
 have hIu := (hq.iu.ext hF.ext).1
 obtain ⟨vv, st1, hcall, hpost⟩ := hC [.ptr q.k5 0 0] st ⟨q.k5, q.vv, 29, rfl, (hF.ext.get _ hq.l5).trans hq.r5, Nat.lt_of_lt_of_le hq.l5 hF.ext.nx, hIv, by omega⟩
 obtain ⟨hE, a', m', rfl, n1, n2, hr, hm, hinj⟩ := hpost q.k5 q.vv 29 rfl ((hF.ext.get _ hq.l5).trans hq.r5)
 rw [← lenv] at hr hm hinj hcall
 have hcv : ∀ tm' f, callV r (gp 7 tm) [] tm' st f = f (.sl a' 0 0 (v.length + 1) (v.length + 1)) st1 := fun tm' f => by
  rw [hF.g7, callV_fn]
  show foldF (r.call 33 [.ptr q.k5 0 0] st) f = _
  rw [hcall]; rfl
 have hX := hH.both hE hF.ext.nx ⟨hr, n1, n2⟩ hm (fun i i' hi hi' e => hinj i i' hi hi' e)
 have hlen8 : ∀ c : V → Go.Ev.A, xLenS (.sl a 0 0 (v.length + 1) (v.length + 1)) c = c (iv .i64 ((v.length + 1 : Nat) : Int)) := fun c => rfl
 have w2 : IntKind.i64.wrap ((i : Int) + 1) = (i : Int) + 1 := wrap64 (by omega) (by omega)
 obtain ⟨Y1, hY1⟩ : ∃ Y1, stepsJ M0 u v i (v.length + 1) Xc 0 = some Y1 := by
  cases k with
  | zero => exact ⟨_, hrun⟩
  | succ k =>
   simp only [stepsI] at hrun
   split at hrun
   ·exact ⟨_, by assumption⟩
   ·cases hrun
 simp -implicitDefEqProofs only [lpSearch_12, rgSearch_16, hcv, seqA_nrm, rgSearch_19]
 simp -implicitDefEqProofs [gp_sp, g8, hlen8, nat_iv]
 generalize hXX : cSearch_21.run r _ _ = A0
 have h2 : A0.all (l2Leaf u v ⟨q, fun c => if c = true then a' else a, fun c i => if c = true then m' i else m i, i, Y1⟩) := by
  rw [← hXX]
  exact (fun h => l2 _ _ ⟨_, h⟩ _ h) ⟨hq, (hF.frame (by simp [gp_sp]) (by simp [gp_sp]) (by simp [gp_sp]) (by simp [gp_sp]) (by simp [gp_sp])).to (hF.ext.trans hE), ⟨by simp [gp_sp, g8], by simp [gp_sp], by simp [gp_sp, g9]⟩, by show i ≤ u.length; omega, 0, v.length + 1, _, Xc, by omega, by simp [gp_sp], by simp [gp_sp], hX, hlk, hokc, hY1⟩
 refine A.all_seq' (A.all_seq' (A.all_block' (A.all_seq' (A.all_block ?_ h2))))
 rintro l - ⟨tm3, st3, X3, rfl, hF3, hG3, hX3, hlk3, hok3⟩
 have hIu3 := (hq.iu.ext hF3.ext).1
 have el := fun c => hIu3.1.len c
 simp -implicitDefEqProofs only [blockN_eq, A.all_nrm, seqA_nrm]
 have g93 : gp 9 tm3 = iv .i64 (i : Int) := hG3.g9
 have g83 : gp 8 tm3 = .sl a 0 0 (v.length + 1) (v.length + 1) := hG3.g8
 have g103 : gp 10 tm3 = .sl a' 0 0 (v.length + 1) (v.length + 1) := hG3.g10
 cases k with
 | zero =>
  have hi : (i : Int) = (lenV q.uu : Int) := by omega
  simp only [stepsI] at hrun
  rw [hY1] at hrun
  injection hrun with hrun
  subst hrun
  simp -implicitDefEqProofs [rgSearch_81, gp_sp, hF3.g1, el, g93, eql_ii, hi, blockN_ext]
  exact ⟨_, st3, a, _, X3 false, rfl, hF3.frame (by simp [gp_sp]) (by simp [gp_sp]) (by simp [gp_sp]) (by simp [gp_sp]) (by simp [gp_sp]), by simp [gp_sp, g83], hX3.half false, fun i => congrFun (congrFun hlk3 false) i, hok3⟩
 | succ k =>
  have hi : ¬ (i : Int) = (lenV q.uu : Int) := by omega
  simp only [stepsI] at hrun
  rw [hY1] at hrun
  simp only at hrun
  simp -implicitDefEqProofs [rgSearch_81, rgSearch_85, rgSearch_86, gp_sp, hF3.g1, el, g93, g103, eql_ii, hi, add_ii, w2, nat_iv]
  exact IH' _ st3 ⟨q, Y⟩ (by simp [gp_sp, g9, toI_iv]; omega) ⟨hq, hF3.frame (by simp [gp_sp]) (by simp [gp_sp]) (by simp [gp_sp]) (by simp [gp_sp]) (by simp [gp_sp]), i + 1, k, a', _, X3 true, turnX Y1, by omega, by simp [gp_sp], by simp [gp_sp], hX3.half true, lk_turn hlk3, okX_turn hok3, hrun⟩
variable {M0 : Mc}
theorem neq_s (l : List Nat) (c : V → Go.Ev.A) : xBin ⟨8, []⟩ true .neq (.str l) (.str []) c = c (.bool (decide (l ≠ []))) := by
 cases l <;> rfl
theorem finT_ne {r : Nat} (h : rs r = true) : stR r ≠ [] := by
 rcases rs_cases h with rfl | rfl | rfl | rfl <;> decide
def putB (x : LM × Nat) (r : Nat) : LM × Nat := (reachL x 0 r).1
def bestOf (M : Mc) (l : List (Int × Nat)) : LM × Nat := (l.filterMap (finPr M)).foldl putB ([], 0)
theorem putB_look : ∀ (l : List Nat) (x : LM × Nat), lookL (l.foldl putB x).1 = l.foldl (fun f r => updF f 0 r) (lookL x.1)
 | [], _ => rfl
 | r :: l, x => by rw [List.foldl_cons, List.foldl_cons, putB_look l]; unfold putB; rw [reach_look]
theorem putB_ok : ∀ {l : List Nat} {x : LM × Nat}, LOk x → okVals x.1 → (∀ r ∈ l, rs r = true) → LOk (l.foldl putB x) ∧ okVals (l.foldl putB x).1
 | [], _, h1, h2, _ => ⟨h1, h2⟩
 | r :: l, x, h1, h2, h => by
  rw [List.foldl_cons]
  exact putB_ok (x := putB x r) (reach_ok h1 0 r) (reach_vals h2 (h r (by simp))) (fun y hy => h y (by simp [hy]))
theorem best_perm {M : Mc} {l l' : List (Int × Nat)} (h : l.Perm l') : lookL (bestOf M l).1 = lookL (bestOf M l').1 := by
 unfold bestOf
 rw [putB_look, putB_look]
 exact foldl_perm (fun b x y => updF_comm b 0 0 x y) (h.filterMap _) _
theorem fin_rs {M : Mc} {e : Int × Nat} (h : finOk M e = true) {r : Nat} (hr : finPr M e = some r) : rs r = true := by
 unfold finOk at h
 rw [Bool.and_eq_true] at h
 unfold finPr at hr
 cases g : (M.sts.getD e.1.toNat (none, [])).1 with
 | none => rw [g] at hr; cases hr
 | some f =>
  rw [g] at hr h
  injection hr with hr
  rw [← hr]
  simp at h
  exact h.2.2
structure FQ where
 q : SS
 x : LM × Nat
 mq : Go.Ev.K
 kit : Go.Ev.K
 kb : Go.Ev.K
def entP (l : LM) : List (Int × Nat) := ents l
def l5In (M : Mc) (u v : List Int) (g : FQ) (tm : Go.Ev.T) (st : S) : Prop := SOk M u v g.q ∧ SF g.q tm st ∧ gp 37 tm = .ptr g.kit 0 0 ∧ gp 18 tm = .ref 0 g.kb ∧ g.q.b.nx.toNat ≤ g.kit.toNat ∧ g.q.b.nx.toNat ≤ g.kb.toNat ∧ g.kb ≠ g.mq ∧ (ents g.x.1).all (finOk M) = true ∧
 ∃ vis rest cur, (vis ++ rest).Perm g.x.1 ∧ ItAt st g.kit g.mq g.x rest cur ∧ MapAt st g.kb (bestOf M (ents vis))
def l5Leaf (M : Mc) (g : FQ) (l : Go.Ev.A) : Prop := ∃ tm' st' vis, l = .ext 9 tm' st' ∧ SF g.q tm' st' ∧ gp 18 tm' = .ref 0 g.kb ∧ List.Perm vis g.x.1 ∧ MapAt st' g.kb (bestOf M (ents vis))
def lt5 (M : Mc) (u v : List Int) : Lt := ltI (l5In M u v) (fun g a => a.all (l5Leaf M g))
theorem loop5 {u v : List Int} {L : Nat → Lt} (h37 : L 37 = lt5 M0 u v) (hT : Holds Tryz.prog (K M0) 86) (hB : Holds Tryz.prog (K M0) 87) : ∀ tm s', (L 37).pre tm s' → (L 37).post tm s' (cSearch_93.run (RkN Tryz.prog (K M0) KN L) tm s') := by
 refine loop_n (L := L) pcOk0.1 pcOk0.2 szSearch_93 (fun tm st => itLen (gp 37 tm) st) ?_ ?_
 ·rw [h37]
  rintro tm s a ⟨q, hq⟩ h
  have h : a.all (l5Leaf M0 q) := h q hq
  exact h.nb (fun a ⟨_, _, _, e, _⟩ => by rw [e]; exact fun h => h)
 rw [h37]
 rintro tm st - IH ⟨q, x, mq, kit, kb⟩ ⟨hq, hF, g37, g18, hkb, hbb, hne, hfin, vis, rest, cur, hp, hit, hbest⟩
 have IH' : ∀ tm' s3 g, itLen (gp 37 tm') s3 < itLen (gp 37 tm) st → l5In M0 u v g tm' s3 → ((RkN Tryz.prog (K M0) KN L).code fiSearch uSearch_93 tm' s3).all (l5Leaf M0 g) := fun tm' s3 g h1 h2 => IH tm' s3 h1 ⟨g, h2⟩ g h2
 clear IH
 show (cSearch_93.run _ tm st).all (l5Leaf M0 _)
 have hR := kept (M0 := M0) (L := L) (Reach_ok hT hB)
 generalize RkN Tryz.prog _ _ _ = r at IH' hR ⊢
 simp only at hq hF g37 g18 hkb hbb hne hfin hp hit hbest
 have kmk : mq ≠ kit := fun e => by
  have := hit.mp
  unfold MapAt at this
  rw [e, hit.it] at this; cases this
 have kkb : kb ≠ kit := fun e => by
  have := hbest
  unfold MapAt at this
  rw [e, hit.it] at this; cases this
 have hEk : ∀ (b : B), Ext q.b (setB st kit b) := fun b => ⟨hF.ext.nx, fun k hk => by rw [setB_get, if_neg (fun e => by rw [e] at hk; omega)]; exact hF.ext.get k hk⟩
 have hMk : ∀ (b : B) {k : Go.Ev.K} {y : LM × Nat}, k ≠ kit → MapAt st k y → MapAt (setB st kit b) k y := fun b k y hk h => by unfold MapAt; rw [setB_get, if_neg hk]; exact h
 cases rest with
 | nil =>
  have hn := fun k => next_nil hit k
  simp -implicitDefEqProofs [lpSearch_93, allSearch, g37, hn, gp_sp]
  exact ⟨_, _, vis, rfl, (hF.frame (by simp [gp_sp]) (by simp [gp_sp]) (by simp [gp_sp]) (by simp [gp_sp]) (by simp [gp_sp])).to (hEk _), by simp [gp_sp, g18], by simpa using hp, hMk _ kkb hbest⟩
 | cons e rest =>
  simp -implicitDefEqProofs only [lpSearch_93, rgSearch_95, g37]
  refine A.all_seq' (A.all_seq' (all_next hit fun l1 e' l2 he => ?_))
  obtain ⟨st1, hst1⟩ : ∃ st1, st1 = setB st kit (.mit mq (x.1.map toME) x.2 ((l1 ++ l2).map toME) (some (toME e'))) := ⟨_, rfl⟩
  have hE1 := hEk (.mit mq (x.1.map toME) x.2 ((l1 ++ l2).map toME) (some (toME e')))
  have hb1 := hMk (.mit mq (x.1.map toME) x.2 ((l1 ++ l2).map toME) (some (toME e'))) kkb hbest
  have hm1 := hMk (.mit mq (x.1.map toME) x.2 ((l1 ++ l2).map toME) (some (toME e'))) kmk hit.mp
  rw [← hst1] at hE1 hb1 hm1 ⊢
  have hit1 : ItAt st1 kit mq x (l1 ++ l2) (some (toME e')) := ⟨by rw [hst1, setB_get, if_pos rfl], hm1⟩
  have he1 := fun c => entry_ok hit1 c
  have hkey : (toME e').key = iv .i64 e'.1 := rfl
  have hval : (toME e').val = .str (stR e'.2.1) := rfl
  have hmem : e' ∈ x.1 := hp.subset (by rw [he]; simp)
  have hmem' : (e'.1, e'.2.1) ∈ ents x.1 := List.mem_map.2 ⟨e', hmem, rfl⟩
  have hok := List.all_eq_true.1 hfin _ hmem'
  have hok' := hok
  unfold finOk at hok
  rw [Bool.and_eq_true, Bool.and_eq_true] at hok
  obtain ⟨⟨hz, hz2⟩, hfr⟩ := hok
  have hz : 0 ≤ e'.1 := of_decide_eq_true hz
  have hz2 : e'.1.toNat < M0.sts.length := of_decide_eq_true hz2
  have hF1 : ∀ tm', gp 1 tm' = gp 1 tm → gp 3 tm' = gp 3 tm → gp 5 tm' = gp 5 tm → gp 7 tm' = gp 7 tm → gp 240 tm' = gp 240 tm → SF q tm' st1 := fun tm' a b c d e => (hF.frame a b c d e).to hE1
  obtain ⟨ws, ps, p0, p1, va, hws, hps, e0, -, l0, -, -⟩ := mr_state hq (hF1 tm rfl rfl rfl rfl rfl) hz hz2
  have hst : M0.sts.getD e'.1.toNat (none, []) = M0.sts[e'.1.toNat] := by
   rw [List.getD_eq_getElem?_getD, List.getElem?_eq_getElem hz2]; rfl
  rw [hst] at hfr
  have cont : ∀ tm' st2, gp 1 tm' = gp 1 tm → gp 3 tm' = gp 3 tm → gp 5 tm' = gp 5 tm → gp 7 tm' = gp 7 tm → gp 240 tm' = gp 240 tm → gp 37 tm' = gp 37 tm → gp 18 tm' = gp 18 tm → Ext q.b st2 → Tr.get B.none kit st2.h = Tr.get B.none kit st1.h → Tr.get B.none mq st2.h = Tr.get B.none mq st1.h → MapAt st2 kb (bestOf M0 (ents (vis ++ [e']))) →
    (r.code fiSearch uSearch_93 tm' st2).all (l5Leaf M0 ⟨q, x, mq, kit, kb⟩) := by
   intro tm' st2 a1 a3 a5 a7 ab a37 a18 hE2 hk hm hb
   have hit2 : ItAt st2 kit mq x (l1 ++ l2) (some (toME e')) := ⟨hk.trans hit1.it, hm.trans hm1⟩
   refine IH' tm' st2 ⟨q, x, mq, kit, kb⟩ (by rw [a37, g37, itLen_at hit2, itLen_at hit, he]; simp) ⟨hq, (hF.frame a1 a3 a5 a7 ab).to hE2, a37.trans g37, a18.trans g18, hkb, hbb, hne, hfin, vis ++ [e'], l1 ++ l2, _, ?_, hit2, hb⟩
   rw [he] at hp
   refine List.Perm.trans ?_ hp
   simp only [List.append_assoc, List.singleton_append]
   exact List.Perm.append_left _ (List.perm_middle).symm
  have hbe : bestOf M0 (ents (vis ++ [e'])) = match finPr M0 (e'.1, e'.2.1) with | some r => putB (bestOf M0 (ents vis)) r | none => bestOf M0 (ents vis) := by
   unfold bestOf ents
   rw [List.map_append, List.filterMap_append, List.foldl_append]
   simp only [List.map_cons, List.map_nil, List.filterMap_cons, List.filterMap_nil]
   cases finPr M0 (e'.1, e'.2.1) <;> rfl
  cases hf : (M0.sts[e'.1.toNat]).1 with
  | none =>
   have hfp : finPr M0 (e'.1, e'.2.1) = none := by unfold finPr; simp only; rw [hst, hf]; rfl
   rw [hfp] at hbe
   rw [hf] at l0
   simp -implicitDefEqProofs [rgSearch_102, rgSearch_104, rgSearch_106, gp_sp, g37, he1, hkey, hval, hF.g3, field_ptr, hws, hps, e0, l0, finT, neq_s]
   exact cont _ st1 (by simp [gp_sp]) (by simp [gp_sp]) (by simp [gp_sp]) (by simp [gp_sp]) (by simp [gp_sp]) (by simp [gp_sp]) (by simp [gp_sp]) hE1 rfl rfl (by rw [hbe]; exact hb1)
  | some f =>
   have hfp : finPr M0 (e'.1, e'.2.1) = some (e'.2.1 + f) := by unfold finPr; simp only; rw [hst, hf]; rfl
   rw [hfp] at hbe
   rw [hf] at l0 hfr
   simp at hfr
   have hnef := finT_ne hfr.1.1
   have hvis_rs : ∀ r ∈ (ents vis).filterMap (finPr M0), rs r = true := by
    intro r hr
    obtain ⟨e2, he2, hpr⟩ := List.mem_filterMap.1 hr
    obtain ⟨e3, he3, rfl⟩ := List.mem_map.1 he2
    have : (e3.1, e3.2.1) ∈ ents x.1 := List.mem_map.2 ⟨e3, hp.subset (by simp [he3]), rfl⟩
    exact fin_rs (List.all_eq_true.1 hfin _ this) hpr
   obtain ⟨b1, b2⟩ := putB_ok (l := (ents vis).filterMap (finPr M0)) empty_ok.1 empty_ok.2 hvis_rs
   obtain ⟨vv, st2, hc, hpost⟩ := hR [.ref 0 kb, iv .i64 0, .str (stR e'.2.1), .str (stR f)] st1 ⟨kb, 0, e'.2.1, f, bestOf M0 (ents vis), rfl, hb1, b2, b1, hfr.1.2, hfr.1.1, hfr.2⟩
   obtain ⟨-, hup⟩ := hpost kb 0 e'.2.1 f (bestOf M0 (ents vis)) rfl hb1 b2 b1 hfr.1.2 hfr.1.1
   simp -implicitDefEqProofs [rgSearch_102, rgSearch_104, rgSearch_106, rgSearch_108, gp_sp, g37, g18, he1, hkey, hval, hF.g3, field_ptr, hws, hps, e0, l0, finT, neq_s, hnef, nat_iv, hc]
   exact cont _ st2 (by simp [gp_sp]) (by simp [gp_sp]) (by simp [gp_sp]) (by simp [gp_sp]) (by simp [gp_sp]) (by simp [gp_sp]) (by simp [gp_sp]) (Ext.updK hE1 hbb hup.k) (hup.other _ (fun e => kkb e.symm)) (hup.other _ (fun e => hne e.symm)) (by rw [hbe]; exact hup.at_)
variable {M0 : Mc}
def resT (x : Option Nat) : List Nat := match x with | some r => stR r | none => infT
def ltS (M : Mc) (u v : List Int) : Nat → Lt
 | 114 => lt4 M u v
 | 142 => lt3 M u v
 | 175 => lt2 M u v
 | 207 => lt1 M u v
 | 37 => lt5 M u v
 | _ => ⟨fun _ _ => True, fun _ _ _ => True⟩
theorem rh_at {b s : S} {n : Nat} {a : Go.Ev.K} {m : Nat → Go.Ev.K} {x : Nat → LM × Nat} (h : RH b s n a m x) {i : Nat} (hi : i < n) : (∀ f : V → Go.Ev.A, xIdxAddrS 1 (.sl a 0 0 n n) (iv .i64 (i : Int)) f = f (.ptr a 0 i)) ∧ ∀ k : V → S → Go.Ev.A, xLoad false 1 (.ptr a 0 i) s k = k (.ref 0 (m i)) s := by
 refine ⟨fun f => ?_, fun k => ?_⟩
 ·show (Bool.rec (motive := fun _ => Go.Ev.A) _ _ (Nat.blt i n) : Go.Ev.A) = _
  rw [show Nat.blt i n = true by rw [Nat.blt_eq]; exact hi]
  show fN (Nat.add 0 (Nat.mul i 1)) (fun o => f (.ptr a 0 o)) = _
  rw [fN_eq]
  show f (.ptr a 0 (0 + i * 1)) = _
  rw [show 0 + i * 1 = i by omega]
 ·have hg : ((List.range n).map fun i => V.ref 0 (m i)).getD i .bad = .ref 0 (m i) := by
   rw [List.getD_eq_getElem?_getD, List.getElem?_map, List.getElem?_range hi]; rfl
  rw [load_at h.row.1 i (by simp) hi (by rw [hg]; exact fun h => by cases h) k, hg]
theorem Search_run (hT : Holds Tryz.prog (K M0) 86) (hB : Holds Tryz.prog (K M0) 87) (hZ : Holds Tryz.prog (K M0) 36) {s : S} {c : List V} {uu vv : V} {u v : List Int} {res : Option Nat} (hM : MR s c M0) (hal : ∀ e ∈ M0.sts, e.2.length < 100000)
  (hu : Ints s uu) (wu : word s uu = u) (hv : Ints s vv) (wv : word s vv = v) (lu : u.length ≤ 10) (lv : v.length ≤ 10) (hres : searchX M0 u v = some res) :
  ((fnC pc0 17).run (RkN Tryz.prog (K M0) KN (ltS M0 u v)) [.ls 0 c, uu, vv] s).all fun v1 s1 => v1 = .str (resT res) ∧ s.nx.toNat ≤ s1.nx.toNat ∧ ∀ k, k.toNat < s.nx.toNat → Tr.get B.none k s1.h = Tr.get B.none k s.h := by
 have l1 := loop1 (M0 := M0) (u := u) (v := v) (L := ltS M0 u v) rfl rfl rfl rfl hT hB
 have l5 := loop5 (M0 := M0) (u := u) (v := v) (L := ltS M0 u v) rfl hT hB
 have hC := kept (M0 := M0) (L := ltS M0 u v) SearchC_ok
 have hZ' := kept (M0 := M0) (L := ltS M0 u v) hZ
 generalize RkN Tryz.prog _ _ _ = r at l1 l5 hC hZ' ⊢
 -- the value
 unfold searchX at hres
 by_cases hlead' : ¬ rs M0.lead = true
 ·rw [if_neg hlead'] at hres; cases hres
 have hlead := Classical.not_not.1 hlead'
 rw [if_pos hlead] at hres
 cases hY : stepsI M0 u v u.length (startX M0) 0 with
 | none => rw [hY] at hres; cases hres
 | some Y =>
 rw [hY] at hres
 simp only at hres
 by_cases hfin' : ¬ (ents (Y false v.length).1).all (finOk M0) = true
 ·rw [if_neg hfin'] at hres; cases hres
 have hfin := Classical.not_not.1 hfin'
 rw [if_pos hfin] at hres
 injection hres with hres
 -- the first blocks
 obtain ⟨kk, ws, hc, hkk, hrest⟩ := hM.ex
 obtain ⟨b1, hb1⟩ : ∃ b1, b1 = addB s (.row c 4 37 false 0 0 0) := ⟨_, rfl⟩
 obtain ⟨b2, hb2⟩ : ∃ b2, b2 = addB b1 (.row [vv] 1 29 false 0 0 0) := ⟨_, rfl⟩
 have hE1 : Ext s b1 := by rw [hb1]; exact ext_addB _ _
 have hE2 : Ext b1 b2 := by rw [hb2]; exact ext_addB _ _
 have hE := hE1.trans hE2
 have hcl : c.length = 4 := by rw [hc]; rfl
 have hcc : ∀ f : List V → Go.Ev.A, cellsC 4 (.ls 0 c) f = f c := fun f => cellsC_ls 4 c hcl f
 have hnr : ∀ f : Go.Ev.K → Nat → S → Go.Ev.A, Go.Ev.newRow s 37 c false f = f s.nx 4 b1 := fun f => by rw [newRow_add, hcl, hb1]
 have hcv : ∀ f : List V → Go.Ev.A, cellsC 1 vv f = f [vv] := fun f => by
  rcases hv.1 with (rfl | rfl) | ⟨_, _, _, _, ⟨_, rfl, _⟩ | ⟨_, rfl⟩, _⟩ <;> rfl
 have hnr2 : ∀ f : Go.Ev.K → Nat → S → Go.Ev.A, Go.Ev.newRow b1 29 [vv] false f = f b1.nx 1 b2 := fun f => by rw [newRow_add, hb2]; rfl
 have hnx1 : b1.nx = s.nx.succ := by rw [hb1]; rfl
 have hnx2 : b2.nx = b1.nx.succ := by rw [hb2]; rfl
 have n1 := K.toNat_succ s.nx
 have n2 := K.toNat_succ b1.nx
 rw [← hnx1] at n1
 rw [← hnx2] at n2
 have hq : SOk M0 u v ⟨b2, s.nx, b1.nx, c, uu, vv⟩ :=
  ⟨(hE2.get s.nx (by omega)).trans (by rw [hb1]; exact addB_get _ _), by show s.nx.toNat < b2.nx.toNat; omega, by show Tr.get B.none b1.nx b2.h = _; rw [hb2]; exact addB_get _ _, by show b1.nx.toNat < b2.nx.toNat; omega, hM.ext hE, hal, (hu.ext hE).1, (hu.word hE).trans wu, (hv.ext hE).1, (hv.word hE).trans wv, lu, lv⟩
 obtain ⟨-, lenv⟩ := word_at wv (i := 0)
 have hF0 : ∀ tm' : Go.Ev.T, ∀ st', gp 1 tm' = uu → gp 3 tm' = .ptr s.nx 0 0 → gp 5 tm' = .ptr b1.nx 0 0 → gp 7 tm' = .fn (.func 33) [] [.ptr b1.nx 0 0] → gp 240 tm' = .bad → Ext b2 st' → SF ⟨b2, s.nx, b1.nx, c, uu, vv⟩ tm' st' := fun tm' st' e1 e3 e5 e7 eb e => ⟨e1, e3, e5, e7, eb, e⟩
 -- the first row
 obtain ⟨vr, st1, hcall, hpost⟩ := hC [.ptr b1.nx 0 0] b2 ⟨b1.nx, vv, 29, rfl, hq.r5, hq.l5, hq.iv_, by omega⟩
 obtain ⟨hE3, a, m, rfl, k1, k2, hr, hm, hinj⟩ := hpost b1.nx vv 29 rfl hq.r5
 rw [← lenv] at hr hm hinj hcall
 have hcf : ∀ tm' f, callV r (.fn (.func 33) [] [.ptr b1.nx 0 0]) [] tm' b2 f = f (.sl a 0 0 (v.length + 1) (v.length + 1)) st1 := fun tm' f => by
  rw [callV_fn]
  show foldF (r.call 33 [.ptr b1.nx 0 0] b2) f = _
  rw [hcall]; rfl
 have hH0 : RH b2 st1 (v.length + 1) a m (fun _ => ([], 0)) := ⟨⟨hr, k1, k2⟩, hm, fun i hi => empty_ok, fun i i' hi hi' e => hinj i i' hi hi' e⟩
 obtain ⟨x1, x2⟩ := rh_at hH0 (i := 0) (by omega)
 have x1 : ∀ f : V → Go.Ev.A, xIdxAddrS 1 (.sl a 0 0 (v.length + 1) (v.length + 1)) (iv .i64 0) f = f (.ptr a 0 0) := x1
 have hup := fun k => mapUpd_m (hm 0 (by omega)).1 (M0.start : Int) M0.lead k
 have hg3 : Tr.get B.none s.nx st1.h = .row c 4 37 false 0 0 0 := (hE3.get _ hq.l3).trans hq.r3
 have ld1 : ∀ f : V → S → Go.Ev.A, xLoad false 1 (.ptr s.nx 0 1) st1 f = f (iv .i64 (M0.start : Int)) st1 := fun f => by
  rw [load_at hg3 1 hcl (by omega) (by rw [hc]; exact (show iv .i64 (M0.start : Int) ≠ .bad from iv_ne _ _)) f, hc]; rfl
 have ld2 : ∀ f : V → S → Go.Ev.A, xLoad false 1 (.ptr s.nx 0 2) st1 f = f (.str (stR M0.lead)) st1 := fun f => by
  rw [load_at hg3 2 hcl (by omega) (by rw [hc]; exact fun h => by cases h) f, hc]; rfl
 obtain ⟨st2, hst2⟩ : ∃ st2, st2 = setB st1 (m 0) (.map ((insE (M0.start : Int) M0.lead 0 []).map toME) 1) := ⟨_, rfl⟩
 have hup : ∀ k : V → S → Go.Ev.A, xMapUpd ⟨7, []⟩ (.ref 0 (m 0)) (iv .i64 (M0.start : Int)) (.str (stR M0.lead)) st1 k = k Go.Ev.undef st2 := fun k => by rw [hup, hst2]; rfl
 have hu1 : UpdK st1 st2 (m 0) ([((M0.start : Int), M0.lead, 0)], 1) := ⟨by unfold MapAt; rw [hst2, setB_get, if_pos rfl]; rfl, fun k _ hk => by rw [hst2, setB_get, if_neg hk], by rw [hst2]; exact Nat.le_refl _⟩
 have hE4 : Ext b2 st2 := Ext.updK hE3 (hm 0 (by omega)).2.1 hu1
 have hx0 : LOk (([((M0.start : Int), M0.lead, 0)], 1) : LM × Nat) ∧ okVals ([((M0.start : Int), M0.lead, 0)] : LM) := by
  refine ⟨⟨⟨fun e he => ?_, List.pairwise_singleton _ _⟩, List.pairwise_singleton _ _⟩, fun z r h => ?_⟩
  ·rcases List.mem_singleton.1 he with rfl; exact Nat.one_pos
  ·simp only [lookL] at h
   split at h
   ·injection h with h; rw [← h]; exact hlead
   ·cases h
 have hH2 : RH b2 st2 (v.length + 1) a m (startX M0 false) := by
  have ham : a ≠ m 0 := fun e => by
   have := (hm 0 (by omega)).1
   unfold MapAt at this
   rw [← e, hr] at this; cases this
  refine ⟨⟨(hu1.other a k2 ham).trans hr, k1, Nat.lt_of_lt_of_le k2 hu1.nx⟩, fun i hi => ⟨?_, (hm i hi).2.1, Nat.lt_of_lt_of_le (hm i hi).2.2 hu1.nx⟩, fun i hi => ?_, fun i i' hi hi' e => hinj i i' hi hi' e⟩
  ·unfold startX
   by_cases h0 : i = 0
   ·subst h0; rw [if_pos ⟨rfl, rfl⟩]; exact hu1.at_
   ·rw [if_neg (fun e => h0 e.2)]
    exact (hu1.other _ (hm i hi).2.2 (fun e => h0 (hinj i 0 hi (by omega) e))).trans (hm i hi).1
  ·unfold startX
   by_cases h0 : i = 0
   ·subst h0; rw [if_pos ⟨rfl, rfl⟩]; exact hx0
   ·rw [if_neg (fun e => h0 e.2)]; exact empty_ok
 have hok0 : okX (startX M0) := fun c i => by
  unfold startX
  split
  ·exact hx0
  ·exact empty_ok
 have hlk0 : lk (pairX (startX M0 false)) = lk (startX M0) := by
  funext c i
  cases c with
  | true => show lookL (([], 0) : LM × Nat).1 = lookL (startX M0 true i).1; unfold startX; rw [if_neg (fun e => by cases e.1)]
  | false => rfl
 simp -implicitDefEqProofs [rgSearch_1, rgSearch_3, rgSearch_5, rgSearch_7, rgSearch_10, eSearchx, gp_sp, hcc, hnr, hcv, hnr2, hcf, nat_iv, x1, x2, field_ptr, ld1, ld2, hup]
 generalize hXX : cSearch_12.run r _ _ = A0
 have h2 : A0.all (l1Leaf u v ⟨⟨b2, s.nx, b1.nx, c, uu, vv⟩, Y⟩) := by
  rw [← hXX]
  exact (fun h => l1 _ _ ⟨_, h⟩ _ h) ⟨hq, hF0 _ _ (by simp [gp_sp]) (by simp [gp_sp]) (by simp [gp_sp]) (by simp [gp_sp]) (by simp [gp_sp]) hE4, 0, u.length, a, m, startX M0 false, startX M0, by omega, by simp [gp_sp], by simp [gp_sp], hH2, hlk0, hok0, hY⟩
 refine F.all_fn (R := fun l => (outF (bindR (fun tm s => finV (gp 240 tm) (A.fin (gp 6 tm) s)) l)).all _) (fun _ _ h => h) ?_
 refine A.all_seq' (A.all_block ?_ h2)
 rintro l - ⟨tm3, st3, a3, m3, x3, rfl, hF3, g8, hH3, hlk3, hokY⟩
 simp only at hF3 hH3
 have hn : v.length < v.length + 1 := Nat.lt_succ_self _
 obtain ⟨st4, hst4⟩ : ∃ st4, st4 = addB st3 (.map [] 0) := ⟨_, rfl⟩
 have hE34 : Ext st3 st4 := by rw [hst4]; exact ext_addB _ _
 have hnew : ∀ f : Go.Ev.K → S → Go.Ev.A, hnew st3 (.map [] 0) f = f st3.nx st4 := fun f => by rw [hnew_add, hst4]
 have hnx4 : st4.nx = st3.nx.succ := by rw [hst4]; rfl
 have n4 := K.toNat_succ st3.nx
 rw [← hnx4] at n4
 have hkb4 : MapAt st4 st3.nx ([], 0) := by rw [hst4]; exact addB_get _ _
 have hF4 : ∀ tm' : Go.Ev.T, gp 1 tm' = gp 1 tm3 → gp 3 tm' = gp 3 tm3 → gp 5 tm' = gp 5 tm3 → gp 7 tm' = gp 7 tm3 → gp 240 tm' = gp 240 tm3 → SF ⟨b2, s.nx, b1.nx, c, uu, vv⟩ tm' st4 := fun tm' e1 e3 e5 e7 eb => (hF3.frame e1 e3 e5 e7 eb).to (hF3.ext.trans hE34)
 have hI4 := (hq.iv_.ext (hF3.ext.trans hE34)).1
 have ld5 : ∀ f : V → S → Go.Ev.A, xLoad false 1 (.ptr b1.nx 0 0) st4 f = f vv st4 := fun f => load_at (((hF3.ext.trans hE34).get _ hq.l5).trans hq.r5) 0 rfl (by omega) hI4.ne f
 have hlen4 : ∀ c : V → Go.Ev.A, xLenS vv c = c (iv .i64 (v.length : Int)) := fun c => by rw [hI4.1.len, lenv]
 have hH4 : RH b2 st4 (v.length + 1) a3 m3 x3 := ⟨⟨(hE34.get _ hH3.row.2.2).trans hH3.row.1, hH3.row.2.1, Nat.lt_of_lt_of_le hH3.row.2.2 hE34.nx⟩, fun i hi => ⟨(hE34.get _ (hH3.map i hi).2.2).trans (hH3.map i hi).1, (hH3.map i hi).2.1, Nat.lt_of_lt_of_le (hH3.map i hi).2.2 hE34.nx⟩, hH3.ok, hH3.inj⟩
 obtain ⟨y1, y2⟩ := rh_at hH4 hn
 obtain ⟨q1, q2, q3⟩ := hH4.map _ hn
 obtain ⟨q4, q5⟩ := hH4.ok _ hn
 have hrg := fun f => rangeM_ok q1 q4 f
 obtain ⟨st5, hst5⟩ : ∃ st5, st5 = addB st4 (.mit (m3 v.length) ((x3 v.length).1.map toME) (x3 v.length).2 ((x3 v.length).1.map toME) none) := ⟨_, rfl⟩
 rw [← hst5] at hrg
 have hE45 : Ext st4 st5 := by rw [hst5]; exact ext_addB _ _
 have hpm : (ents (x3 v.length).1).Perm (ents (Y false v.length).1) := ents_perm q4.2 (hokY false v.length).1.2 (hlk3 v.length)
 have g33 : gp 3 tm3 = .ptr s.nx 0 0 := hF3.g3
 have g53 : gp 5 tm3 = .ptr b1.nx 0 0 := hF3.g5
 simp -implicitDefEqProofs only [blockN_eq, A.all_nrm, seqA_nrm]
 simp -implicitDefEqProofs [rgSearch_88, rgSearch_91, gp_sp, hnew, g53, ld5, hlen4, g8, y1, y2, hrg]
 generalize hXX5 : cSearch_93.run r _ _ = A1
 have h5 : A1.all (l5Leaf M0 ⟨⟨b2, s.nx, b1.nx, c, uu, vv⟩, x3 v.length, m3 v.length, st4.nx, st3.nx⟩) := by
  rw [← hXX5]
  refine (fun h => l5 _ _ ⟨_, h⟩ _ h) ⟨hq, (hF4 _ (by simp [gp_sp]) (by simp [gp_sp]) (by simp [gp_sp]) (by simp [gp_sp]) (by simp [gp_sp])).to ((hF3.ext.trans hE34).trans hE45), by simp [gp_sp], by simp [gp_sp], (hF3.ext.trans hE34).nx, hF3.ext.nx, ?_, ?_, [], (x3 v.length).1, none, List.Perm.refl _, ⟨by rw [hst5]; exact addB_get _ _, (hE45.get _ q3).trans q1⟩, (hE45.get _ (by show st3.nx.toNat < st4.nx.toNat; omega)).trans hkb4⟩
  ·show st3.nx ≠ m3 v.length
   intro e
   have := (hH3.map _ hn).2.2
   rw [← e] at this
   omega
  ·show (ents (x3 v.length).1).all (finOk M0) = true
   rw [List.all_eq_true] at hfin ⊢
   exact fun e he => hfin e (hpm.subset he)
 refine A.all_seq' (A.all_block ?_ h5)
 rintro l - ⟨tm6, st6, vis, rfl, hF6, g18, hvis, hbest⟩
 simp only at hF6 g18 hvis hbest
 have hval : lookL (bestOf M0 (ents vis)).1 0 = res := by
  rw [← hres]
  have h1 : (ents vis).Perm (ents (x3 v.length).1) := hvis.map _
  exact congrFun (best_perm (h1.trans hpm)) 0
 have hlk := fun c => look_ok hbest 0 c
 rw [hval] at hlk
 have hEf : Ext s st6 := hE.trans hF6.ext
 have bd6 : gp 240 tm6 = .bad := hF6.bd
 simp -implicitDefEqProofs only [blockN_eq, A.all_nrm, seqA_nrm]
 cases res with
 | some r0 =>
  simp -implicitDefEqProofs [rgSearch_112, rgSearch_114, rgSearch_117, gp_sp, g18, hlk, nat_iv, bd6, F.all, resT]
  exact ⟨hEf.nx, hEf.get⟩
 | none =>
  obtain ⟨vz, st7, hz, rfl, rfl⟩ := hZ' [iv .i64 1] st6 rfl
  simp -implicitDefEqProofs [rgSearch_112, rgSearch_114, rgSearch_117, rgSearch_121, gp_sp, g18, hlk, nat_iv, bd6, hz, F.all, resT]
  exact ⟨hEf.nx, hEf.get⟩
theorem Search_call (hT : Holds Tryz.prog (K M0) 86) (hB : Holds Tryz.prog (K M0) 87) (hZ : Holds Tryz.prog (K M0) 36) (h24 : Tryz.prog.globals.size < 2 ^ 24) {s : S} {c : List V} {uu vv : V} {u v : List Int} {res : Option Nat} (hM : MRo s c M0) (hal : ∀ e ∈ M0.sts, e.2.length < 100000)
  (hu : Ints s uu) (ku : okS uu) (wu : word s uu = u) (hv : Ints s vv) (kv : okS vv) (wv : word s vv = v) (lu : u.length ≤ 10) (lv : v.length ≤ 10) (hres : searchX M0 u v = some res) :
  CallX Tryz.prog 17 [.ls 0 c, uu, vv] s (.str (resT res)) s := by
 refine CallX.reset h24 trivial fun n0 w0 ν w cargs hst hvs => ?_
 obtain ⟨x0, r0, rfl, v0, x1, r1, rfl, v1, x2, r2, rfl, v2, rfl⟩ := hvs
 obtain ⟨c', e0, hM'⟩ := hM.abs hst v0
 obtain ⟨i1, -, w1, e1⟩ := hu.abs hst ku v1
 obtain ⟨i2, -, w2, e2⟩ := hv.abs hst kv v2
 have hE := ext_abs2 w Tryz.prog.globals.size
 have key := Search_run hT hB hZ (hM'.ext hE) hal (i1.ext hE).1 ((i1.word hE).trans (w1.trans wu)) (i2.ext hE).1 ((i2.word hE).trans (w2.trans wv)) lu lv hres
 obtain ⟨X, hX1, hX2⟩ := fn_callN pcOk0.1 pcOk0.2 (RkN_ok pc0 (K M0) KN _) key
 obtain ⟨s', h1, -⟩ := hX1.trim hX2
 refine ⟨s', ?_⟩
 show CallX Tryz.prog 17 [absV w.heap.size x0, absV w.heap.size x1, absV w.heap.size x2] _ _ _
 rw [e0, e1, e2]
 exact h1
variable {M0 : Mc}
theorem hG4 : Tryz.prog.globals.size = 4 := by kernel_rfl
theorem hg4 : globB 4 = true := by kernel_rfl
noncomputable def tB (p q : Nat) : Bool := retB pc0 1500 86 [iv .i64 1, .str (stR p), .str (stR q)] (Go.Ev.start 4) (.ls 1 [.str (stR (p + q)), .nat .i64 0])
noncomputable def bB (p q : Nat) (z : Int) : Bool := retB pc0 1500 87 [iv .i64 1, .str (stR p), .str (stR q)] (Go.Ev.start 4) (iv .i64 z)
theorem t00 : tB 0 0 = true := by kernel_rfl
theorem t01 : tB 0 1 = true := by kernel_rfl
theorem t02 : tB 0 2 = true := by kernel_rfl
theorem t04 : tB 0 4 = true := by kernel_rfl
theorem t10 : tB 1 0 = true := by kernel_rfl
theorem t11 : tB 1 1 = true := by kernel_rfl
theorem t20 : tB 2 0 = true := by kernel_rfl
theorem t22 : tB 2 2 = true := by kernel_rfl
theorem t40 : tB 4 0 = true := by kernel_rfl
theorem b00 : bB 0 0 (0) = true := by kernel_rfl
theorem b01 : bB 0 1 (-1) = true := by kernel_rfl
theorem b02 : bB 0 2 (-1) = true := by kernel_rfl
theorem b04 : bB 0 4 (-1) = true := by kernel_rfl
theorem b10 : bB 1 0 (1) = true := by kernel_rfl
theorem b11 : bB 1 1 (0) = true := by kernel_rfl
theorem b12 : bB 1 2 (-1) = true := by kernel_rfl
theorem b14 : bB 1 4 (-1) = true := by kernel_rfl
theorem b20 : bB 2 0 (1) = true := by kernel_rfl
theorem b21 : bB 2 1 (1) = true := by kernel_rfl
theorem b22 : bB 2 2 (0) = true := by kernel_rfl
theorem b24 : bB 2 4 (-1) = true := by kernel_rfl
theorem b40 : bB 4 0 (1) = true := by kernel_rfl
theorem b41 : bB 4 1 (1) = true := by kernel_rfl
theorem b42 : bB 4 2 (1) = true := by kernel_rfl
theorem b44 : bB 4 4 (0) = true := by kernel_rfl
theorem z20 : retB pc0 1500 36 [iv .i64 1] (Go.Ev.start 4) (.str infT) = true := by kernel_rfl
theorem tB_ok {p q : Nat} (hp : rs p = true) (hq : rs q = true) (h : rs (p + q) = true) : tB p q = true := by
 rcases rs_cases hp with rfl | rfl | rfl | rfl <;> rcases rs_cases hq with rfl | rfl | rfl | rfl
 ·exact t00
 ·exact t01
 ·exact t02
 ·exact t04
 ·exact t10
 ·exact t11
 ·exact absurd h (by decide)
 ·exact absurd h (by decide)
 ·exact t20
 ·exact absurd h (by decide)
 ·exact t22
 ·exact absurd h (by decide)
 ·exact t40
 ·exact absurd h (by decide)
 ·exact absurd h (by decide)
 ·exact absurd h (by decide)
theorem bB_ok {p q : Nat} (hp : rs p = true) (hq : rs q = true) : ∃ z : Int, bB p q z = true ∧ (0 ≤ z ↔ q ≤ p) := by
 rcases rs_cases hp with rfl | rfl | rfl | rfl <;> rcases rs_cases hq with rfl | rfl | rfl | rfl
 ·exact ⟨_, b00, by decide⟩
 ·exact ⟨_, b01, by decide⟩
 ·exact ⟨_, b02, by decide⟩
 ·exact ⟨_, b04, by decide⟩
 ·exact ⟨_, b10, by decide⟩
 ·exact ⟨_, b11, by decide⟩
 ·exact ⟨_, b12, by decide⟩
 ·exact ⟨_, b14, by decide⟩
 ·exact ⟨_, b20, by decide⟩
 ·exact ⟨_, b21, by decide⟩
 ·exact ⟨_, b22, by decide⟩
 ·exact ⟨_, b24, by decide⟩
 ·exact ⟨_, b40, by decide⟩
 ·exact ⟨_, b41, by decide⟩
 ·exact ⟨_, b42, by decide⟩
 ·exact ⟨_, b44, by decide⟩
theorem fl3 {p q : Nat} : ∀ u ∈ [iv .i64 1, V.str (stR p), V.str (stR q)], u.flat := by
 intro u hu
 simp only [List.mem_cons, List.not_mem_nil, or_false] at hu
 rcases hu with rfl | rfl | rfl <;> trivial
theorem Times_ok : Holds Tryz.prog (K M0) 86 := by
 intro args s hp
 obtain ⟨p, q, rfl, h1, h2, h3⟩ := hp
 refine ⟨_, s, (retB_callX pcOk0.1 pcOk0.2 hG4 hg4 fl3 (by exact trivial) (tB_ok h1 h2 h3) s), ?_⟩
 intro p' q' e h1' h2'
 injection e with e0 e1
 injection e1 with e1 e2
 injection e2 with e2 e3
 injection e1 with e1
 injection e2 with e2
 rw [stR_inj h1 h1' e1, stR_inj h2 h2' e2]
 exact ⟨rfl, rfl⟩
theorem iv_flat (z : Int) : (iv .i64 z).flat := by cases z <;> trivial
theorem Better_ok : Holds Tryz.prog (K M0) 87 := by
 intro args s hp
 obtain ⟨p, q, rfl, h1, h2⟩ := hp
 obtain ⟨z, hz, hz'⟩ := bB_ok h1 h2
 refine ⟨_, s, retB_callX pcOk0.1 pcOk0.2 hG4 hg4 fl3 (iv_flat z) hz s, ?_⟩
 intro p' q' e h1' h2'
 injection e with e0 e1
 injection e1 with e1 e2
 injection e2 with e2 e3
 injection e1 with e1
 injection e2 with e2
 rw [← stR_inj h1 h1' e1, ← stR_inj h2 h2' e2]
 exact ⟨rfl, z, rfl, hz'⟩
theorem Zero_ok : Holds Tryz.prog (K M0) 36 := by
 intro args s hp
 obtain rfl : args = _ := hp
 refine ⟨_, s, retB_callX pcOk0.1 pcOk0.2 hG4 hg4 (fun u hu => by rcases List.mem_singleton.1 hu with rfl; trivial) (by exact trivial) z20 s, ?_⟩
 exact ⟨rfl, rfl⟩
theorem hG24 : Tryz.prog.globals.size < 2 ^ 24 := by rw [hG4]; decide
theorem blt_lt {a b : Nat} (h : Nat.blt a b = true) : a < b := by simpa [Nat.blt_eq] using h
noncomputable def rowB (s : S) (a : Go.Ev.K) (w e : Nat) : Bool := Nat.blt a.toNat s.nx.toNat && (match Tr.get B.none a s.h with | .row l n _ gr mn _ _ => Nat.beq l.length n && rdOk n gr mn w e | _ => false)
theorem rowB_ok {s : S} {a : Go.Ev.K} {w e : Nat} (h : rowB s a w e = true) : a.toNat < s.nx.toNat ∧ ∃ l n el gr mn f1 f2, Tr.get B.none a s.h = .row l n el gr mn f1 f2 ∧ l.length = n ∧ rdOk n gr mn w e = true := by
 unfold rowB at h
 rw [Bool.and_eq_true] at h
 refine ⟨blt_lt h.1, ?_⟩
 have h2 := h.2
 split at h2
 ·rename_i l n el gr mn f1 f2 hg
  rw [Bool.and_eq_true] at h2
  exact ⟨l, n, el, gr, mn, f1, f2, hg, Nat.eq_of_beq_eq_true h2.1, h2.2⟩
 ·cases h2
noncomputable def slB (s : S) (sz : Nat) : V → Bool
 | .nil t => Nat.beq t 1
 | .sl a w o len cap => Nat.ble len cap && rowB s a w (o + len * sz)
 | .so a w o len _ => rowB s a w (o + len * sz)
 | _ => false
theorem slB_ok {s : S} {sz : Nat} : ∀ {v : V}, slB s sz v = true → Sl s sz v := by
 intro v h
 cases v with
 | nil t => exact .inl (.inl (by rw [Nat.eq_of_beq_eq_true h]))
 | sl a w o len cap =>
  have h : (Nat.ble len cap && rowB s a w (o + len * sz)) = true := h
  rw [Bool.and_eq_true] at h
  exact .inr ⟨a, w, o, len, .inl ⟨cap, rfl, Nat.le_of_ble_eq_true h.1⟩, rowB_ok h.2⟩
 | so a w o len e => exact .inr ⟨a, w, o, len, .inr ⟨e, rfl⟩, rowB_ok h⟩
 | _ => cases h
def okSB : V → Bool
 | .nil t => Nat.beq t 1
 | .sl _ _ _ len cap => Nat.blt 0 len || (Nat.beq len 0 && Nat.beq cap 0)
 | .so _ _ _ len _ => Nat.blt 0 len
 | _ => false
theorem okSB_ok : ∀ {v : V}, okSB v = true → okS v := by
 intro v h
 cases v with
 | nil t => exact .inl (by rw [Nat.eq_of_beq_eq_true h])
 | sl a w o len cap =>
  have h : (Nat.blt 0 len || (Nat.beq len 0 && Nat.beq cap 0)) = true := h
  rw [Bool.or_eq_true, Bool.and_eq_true] at h
  rcases h with h | ⟨h1, h2⟩
  ·exact .inr (.inl (blt_lt h))
  ·rw [Nat.eq_of_beq_eq_true h1, Nat.eq_of_beq_eq_true h2]
   exact .inr (.inr ⟨a, w, o, rfl⟩)
 | so a w o len e =>
  have h : Nat.blt 0 len = true := h
  exact .inr (.inl (blt_lt h))
 | _ => cases h
def allI (n : Nat) (p : Nat → Bool) : Bool := (List.range n).all p
theorem allI_ok {n : Nat} {p : Nat → Bool} (h : allI n p = true) (i : Nat) (hi : i < n) : p i = true := (List.all_eq_true.1 h) i (List.mem_range.2 hi)
noncomputable def intsB (s : S) (v : V) (w : List Int) : Bool := slB s 1 v && okSB v && Nat.beq (lenV v) w.length && Nat.ble w.length 10 && allI w.length fun i => beqV (cellV s v i) (iv .i64 (w.getD i 0))
theorem intsB_ok {s : S} {v : V} {w : List Int} (h : intsB s v w = true) : Ints s v ∧ okS v ∧ word s v = w ∧ w.length ≤ 10 := by
 unfold intsB at h
 simp only [Bool.and_eq_true] at h
 obtain ⟨⟨⟨⟨h1, h2⟩, h3⟩, h4⟩, h5⟩ := h
 have h3 := Nat.eq_of_beq_eq_true h3
 have h4 := Nat.le_of_ble_eq_true h4
 have hc : ∀ i, i < w.length → cellV s v i = iv .i64 (w.getD i 0) := fun i hi => beqV_ok _ _ (allI_ok h5 i hi)
 refine ⟨⟨slB_ok h1, by omega, fun j hj => ?_⟩, okSB_ok h2, ?_, h4⟩
 ·rw [hc j (by omega), toI_iv]
 ·unfold word
  apply List.ext_getElem
  ·simp [h3]
  ·intro i hi hi'
   simp only [List.getElem_map, List.getElem_range]
   show toI (cellV s v i) = _
   rw [hc i hi', toI_iv, List.getD_eq_getElem?_getD, List.getElem?_eq_getElem hi']
   rfl
noncomputable def arcsB (s : S) (v : V) (l : ArcL) : Bool := slB s 4 v && okSB v && Nat.beq (lenV v) l.length && allI l.length fun j => match l[j]? with
 | some e => beqV (cellV s v (j * 4)) (iv .i64 (e.1 : Int)) && beqV (cellV s v (j * 4 + 1)) (iv .i64 (e.2.1 : Int)) && beqV (cellV s v (j * 4 + 2)) (.str (stR e.2.2.1)) && beqV (cellV s v (j * 4 + 3)) (iv .i64 (e.2.2.2 : Int))
 | none => false
theorem arcsB_ok {s : S} {v : V} {l : ArcL} (h : arcsB s v l = true) : ArcsR s v l ∧ okS v := by
 unfold arcsB at h
 simp only [Bool.and_eq_true] at h
 obtain ⟨⟨⟨h1, h2⟩, h3⟩, h5⟩ := h
 refine ⟨⟨slB_ok h1, Nat.eq_of_beq_eq_true h3, fun j hj => ?_⟩, okSB_ok h2⟩
 have := allI_ok h5 j hj
 rw [List.getElem?_eq_getElem hj] at this
 simp only [Bool.and_eq_true] at this
 obtain ⟨⟨⟨g1, g2⟩, g3⟩, g4⟩ := this
 exact ⟨beqV_ok _ _ g1, beqV_ok _ _ g2, beqV_ok _ _ g3, beqV_ok _ _ g4⟩
noncomputable def mroB (s : S) (c : List V) (M : Mc) : Bool := match c with
 | [k, a, b, v] => beqV k (iv .i64 1) && beqV a (iv .i64 (M.start : Int)) && beqV b (.str (stR M.lead)) && slB s 2 v && okSB v && Nat.beq (lenV v) M.sts.length && allI M.sts.length fun i => match M.sts[i]? with
  | some e => beqV (cellV s v (i * 2)) (.str (finT e.1)) && arcsB s (cellV s v (i * 2 + 1)) e.2 && Nat.blt e.2.length 100000
  | none => false
 | _ => false
theorem mroB_ok {s : S} {c : List V} {M : Mc} (h : mroB s c M = true) : MRo s c M ∧ ∀ e ∈ M.sts, e.2.length < 100000 := by
 unfold mroB at h
 split at h
 ·rename_i k a b v
  simp only [Bool.and_eq_true] at h
  obtain ⟨⟨⟨⟨⟨⟨h1, h2⟩, h3⟩, h4⟩, h5⟩, h6⟩, h7⟩ := h
  have key : ∀ i (hi : i < M.sts.length), cellV s v (i * 2) = .str (finT M.sts[i].1) ∧ (ArcsR s (cellV s v (i * 2 + 1)) M.sts[i].2 ∧ okS (cellV s v (i * 2 + 1))) ∧ M.sts[i].2.length < 100000 := fun i hi => by
   have := allI_ok h7 i hi
   rw [List.getElem?_eq_getElem hi] at this
   simp only [Bool.and_eq_true] at this
   obtain ⟨⟨g1, g2⟩, g3⟩ := this
   exact ⟨beqV_ok _ _ g1, arcsB_ok g2, blt_lt g3⟩
  refine ⟨⟨1, v, by rw [beqV_ok _ _ h1, beqV_ok _ _ h2, beqV_ok _ _ h3], slB_ok h4, okSB_ok h5, Nat.eq_of_beq_eq_true h6, fun i hi => ⟨(key i hi).1, (key i hi).2.1.1, (key i hi).2.1.2⟩⟩, fun e he => ?_⟩
  obtain ⟨i, hi, rfl⟩ := List.mem_iff_getElem.1 he
  exact (key i hi).2.2
 ·cases h
noncomputable def seB (s : S) (c : List V) (uu vv : V) (M : Mc) (u v : List Int) : Bool := mroB s c M && intsB s uu u && intsB s vv v
theorem search_hook {s : S} {c : List V} {uu vv : V} {M : Mc} {u v : List Int} {res : Option Nat} (h : seB s c uu vv M u v = true) (hres : searchX M u v = some res) : HookOk Tryz.prog ⟨17, [.ls 0 c, uu, vv], s, .str (resT res), s⟩ := by
 unfold seB at h
 simp only [Bool.and_eq_true] at h
 obtain ⟨⟨h1, h2⟩, h3⟩ := h
 obtain ⟨m1, m2⟩ := mroB_ok h1
 obtain ⟨u1, u2, u3, u4⟩ := intsB_ok h2
 obtain ⟨v1, v2, v3, v4⟩ := intsB_ok h3
 exact Search_call Times_ok Better_ok Zero_ok hG24 m1 m2 u1 u2 u3 v1 v2 v3 u4 v4 hres
end Go.Proofs.YtobflfopdndfdaaGreatDoor.oev
