/- The contracts of the functions that the statements reach, for all arguments. No statement of the seat stands here. Conditions: the arguments are as their types say. By an AI agent. -/
import Derived.Test.YtdeffnjoddncnaaGreatDoorOvU2
namespace Go.Proofs.YtdeffnjoddncnaaGreatDoor.oev
open Go.Ev Go.RowKit
set_option maxRecDepth 100000
theorem pcOk0 : PcOk Tryz.prog pc0 ∧ pc0.hooks = [] := by
 unfold pc0 pc
 exact pcOk_of (by kernel_rfl) (by kernel_rfl) (by kernel_rfl) (by kernel_rfl) (by kernel_rfl)
def Byts (l : List Nat) : Prop := ∀ x ∈ l, x < 256
def decF (l : List Nat) : Nat × Nat := if l = [] then (65533, 0) else dcL l
def strL : V → List Nat | .str l => l | _ => []
def Strs (s : S) (v : V) : Prop := Sl s 1 v ∧ lenV v ≤ 9223372036854775807 ∧ ∀ j, j < lenV v → cellV s v j = .str (strL (cellV s v j)) ∧ Byts (strL (cellV s v j))
noncomputable def names (s : S) (v : V) : List (List Nat) := (List.range (lenV v)).map fun j => strL (cellV s v j)
def okU : Nat → List Nat → Bool
 | 0, _ => true
 | n + 1, l => if l = [] then true else if (dcL l).1 = 65533 ∧ (dcL l).2 ≤ 1 then false else okU n (l.drop (dcL l).2)
def isNm (l : List Nat) : Bool := decide (l ≠ [] ∧ l.length ≤ 40) && okU l.length l
def okT (ns : List (List Nat)) : Prop := ns.length ≤ 500 ∧ ns.all isNm = true ∧ ns.Nodup
def okX (ns : List (List Nat)) (x : List Int) : Prop := okT ns ∧ x.length ≤ 200 ∧ ∀ z ∈ x, 1 ≤ z ∧ z ≤ ns.length
def txtW (ns : List (List Nat)) (x : List Int) : List Nat := (x.map fun z => ns.getD (z.toNat - 1) []).flatten
def Gw (el : Nat) (b s : S) (v : V) (l : List V) : Prop := (v = .nil 1 ∧ l = []) ∨ ∃ a n mn, v = .so a n 0 n 0 ∧ b.nx.toNat ≤ a.toNat ∧ a.toNat < s.nx.toNat ∧ (0 < n ∧ mn ≤ n) ∧ Tr.get B.none a s.h = .row l n el true mn 0 0 ∧ l.length = n
def u8s (w : List Nat) : List V := w.map fun n : Nat => iv .u8 (n : Int)
def Bld (b s : S) (p : V) (w : List Nat) : Prop := ∃ a c0 buf, p = .ptr a 0 0 ∧ b.nx.toNat ≤ a.toNat ∧ a.toNat < s.nx.toNat ∧ Tr.get B.none a s.h = .row [c0, buf] 2 52 false 0 0 0 ∧ (c0 = .nil 0 ∨ c0 = p) ∧ Gw 5 b s buf (u8s w)
structure StD where
 rule : Int
 before : List Int
 after : List Int
 spans : List (Int × Int × Int)
def i64ok (z : Int) : Prop := -9223372036854775808 ≤ z ∧ z < 9223372036854775808
def Spn (s : S) (v : V) : Prop := Sl s 3 v ∧ lenV v ≤ 9223372036854775807 ∧ ∀ j, j < lenV v * 3 → cellV s v j = iv .i64 (toI (cellV s v j)) ∧ i64ok (toI (cellV s v j))
noncomputable def spanV (s : S) (v : V) (j : Nat) : Int × Int × Int := (toI (cellV s v (j * 3)), toI (cellV s v (j * 3 + 1)), toI (cellV s v (j * 3 + 2)))
noncomputable def spansV (s : S) (v : V) : List (Int × Int × Int) := (List.range (lenV v)).map (spanV s v)
def Stp (s : S) (v : V) : Prop := Sl s 4 v ∧ (lenV v ≤ 9223372036854775807 ∧ Fx v) ∧ ∀ i, i < lenV v → (cellV s v (i * 4) = iv .i64 (toI (cellV s v (i * 4))) ∧ i64ok (toI (cellV s v (i * 4)))) ∧ Ints s (cellV s v (i * 4 + 1)) ∧ Ints s (cellV s v (i * 4 + 2)) ∧ Spn s (cellV s v (i * 4 + 3))
noncomputable def stepV (s : S) (v : V) (i : Nat) : StD := ⟨toI (cellV s v (i * 4)), word s (cellV s v (i * 4 + 1)), word s (cellV s v (i * 4 + 2)), spansV s (cellV s v (i * 4 + 3))⟩
noncomputable def stepsV (s : S) (v : V) : List StD := (List.range (lenV v)).map (stepV s v)
def manyP (l : List StD) : Prop := 120 < l.length ∨ ∃ st ∈ l, 250 < st.before.length ∨ 250 < st.after.length ∨ 250 < st.spans.length
def digs (n : Nat) : List Nat := if n < 10 then [48 + n] else digs (n / 10) ++ [48 + n % 10]
def itoa (z : Int) : List Nat := if z < 0 then 45 :: digs z.natAbs else digs z.natAbs
def spanT (p : Int × Int × Int) : List Nat := [32, 40] ++ itoa p.1 ++ [45] ++ itoa p.2.1 ++ [32] ++ itoa p.2.2 ++ [41]
def lineT (ns : List (List Nat)) (st : StD) : List Nat := itoa st.rule ++ [58, 32] ++ txtW ns st.before ++ [32, 45, 62, 32] ++ txtW ns st.after ++ (st.spans.map spanT).flatten ++ [10]
def txtS (ns : List (List Nat)) (l : List StD) : List Nat := (l.map (lineT ns)).flatten
def okS (ns : List (List Nat)) (l : List StD) : Prop := okT ns ∧ ∀ st ∈ l, okX ns st.before ∧ okX ns st.after
open Classical in
noncomputable def textR (ns : List (List Nat)) (l : List StD) : V := if okS ns l then (if (txtS ns l).length ≤ 16384 then .ls 1 [.str (txtS ns l), iv .i64 0] else .ls 1 [.str [], iv .i64 2]) else .ls 1 [.str [], iv .i64 1]
def inR (s : S) (x : V) (n : Int) : Prop := ∀ j, j < lenV x → 1 ≤ intV s x j ∧ intV s x j ≤ n
def CellI (s : S) (p : V) (n : Int) : Prop := Pt s p 1 (fun _ => iv .i64 n)
def FrB (s s' : S) : Prop := ∀ c : Go.Ev.K, c.toNat < s.nx.toNat → (∀ l n mn, Tr.get B.none c s.h ≠ .row l n 5 true mn 0 0) → (∀ l, Tr.get B.none c s.h ≠ .row l 2 52 false 0 0 0) → Tr.get B.none c s'.h = Tr.get B.none c s.h
def len8 : List Nat := [0, 1, 2, 2, 3, 3, 3, 3, 4, 4, 4, 4, 4, 4, 4, 4, 5, 5, 5, 5, 5, 5, 5, 5, 5, 5, 5, 5, 5, 5, 5, 5, 6, 6, 6, 6, 6, 6, 6, 6, 6, 6, 6, 6, 6, 6, 6, 6, 6, 6, 6, 6, 6, 6, 6, 6, 6, 6, 6, 6, 6, 6, 6, 6, 7, 7, 7, 7, 7, 7, 7, 7, 7, 7, 7, 7, 7, 7, 7, 7, 7, 7, 7, 7, 7, 7, 7, 7, 7, 7, 7, 7, 7, 7, 7, 7, 7, 7, 7, 7, 7, 7, 7, 7, 7, 7, 7, 7, 7, 7, 7, 7, 7, 7, 7, 7, 7, 7, 7, 7, 7, 7, 7, 7, 7, 7, 7, 7, 8, 8, 8, 8, 8, 8, 8, 8, 8, 8, 8, 8, 8, 8, 8, 8, 8, 8, 8, 8, 8, 8, 8, 8, 8, 8, 8, 8, 8, 8, 8, 8, 8, 8, 8, 8, 8, 8, 8, 8, 8, 8, 8, 8, 8, 8, 8, 8, 8, 8, 8, 8, 8, 8, 8, 8, 8, 8, 8, 8, 8, 8, 8, 8, 8, 8, 8, 8, 8, 8, 8, 8, 8, 8, 8, 8, 8, 8, 8, 8, 8, 8, 8, 8, 8, 8, 8, 8, 8, 8, 8, 8, 8, 8, 8, 8, 8, 8, 8, 8, 8, 8, 8, 8, 8, 8, 8, 8, 8, 8, 8, 8, 8, 8, 8, 8, 8, 8, 8, 8, 8, 8, 8, 8, 8, 8, 8, 8]
def l8 (x : Nat) : Nat := len8.getD x 0
def b8 (x : Nat) : Nat := if 256 ≤ x then 8 + l8 (x / 256) else l8 x
def b16 (x : Nat) : Nat := if 65536 ≤ x then 16 + b8 (x / 65536) else b8 x
def b32 (x : Nat) : Nat := if 4294967296 ≤ x then 32 + b16 (x / 4294967296) else b16 x
def nd (n : Nat) : Nat := b32 n * 78913 / 262144 + if 10 ^ (b32 n * 78913 / 262144) ≤ n then 1 else 0
def ds : Nat → Nat → List Nat
 | 0, _ => []
 | k + 1, n => ds k (n / 10) ++ [48 + n % 10]
open Classical in
noncomputable def K : Nat → Ct
 | 119 => ⟨fun a s => ∃ l, a = [.str l] ∧ Byts l ∧ Tabs s, fun a s v s' => ∀ l, a = [.str l] → Ext s s' ∧ v = .ls 1 [iv .i32 ((decF l).1 : Nat), iv .i64 ((decF l).2 : Nat)]⟩
 | 144 => ⟨fun a s => ∃ l, a = [.str l] ∧ Byts l ∧ Tabs s ∧ (l ≠ [] → 128 ≤ l.getD 0 0), fun a s v s' => ∀ l, a = [.str l] → Ext s s' ∧ v = .ls 1 [iv .i32 ((decF l).1 : Nat), iv .i64 ((decF l).2 : Nat)]⟩
 | 82 => ⟨fun a s => ∃ l, a = [.str l] ∧ Byts l ∧ Tabs s, fun a s v s' => ∀ l, a = [.str l] → Ext s s' ∧ v = .ls 1 [iv .i32 ((decF l).1 : Nat), iv .i64 ((decF l).2 : Nat), .bool (decide ((decF l).1 = 65533 → 1 < (decF l).2))]⟩
 | 61 => ⟨fun a s => ∃ l, a = [.str l] ∧ Byts l ∧ Tabs s ∧ l.length ≤ 40, fun a s v s' => ∀ l, a = [.str l] → Ext s s' ∧ ∃ y z, v = .ls 1 [y, z, iv .i64 (if okU l.length l then 0 else 3)]⟩
 | 44 => ⟨fun a s => ∃ l, a = [.str l] ∧ Byts l ∧ Tabs s, fun a s v s' => ∀ l, a = [.str l] → Ext s s' ∧ v = .bool (isNm l)⟩
 | 43 => ⟨fun a s => ∃ v, a = [v, .fn (.func 44) [] []] ∧ Strs s v ∧ Tabs s, fun a s w s' => ∀ v f, a = [v, f] → Ext s s' ∧ w = .bool ((names s v).all isNm)⟩
 | 45 => ⟨fun a s => ∃ v, a = [v] ∧ Strs s v, fun a s w s' => ∀ v, a = [v] → Ext s s' ∧ ∃ b es ck, w = .ref 0 b ∧ Tr.get B.none b s'.h = .map es ck ∧ es.length ≤ lenV v ∧ (es.length = lenV v ↔ (names s v).Nodup)⟩
 | 16 => ⟨fun a s => ∃ v, a = [v] ∧ Strs s v ∧ Tabs s, fun a s w s' => ∀ v, a = [v] → Ext s s' ∧ w = .bool (decide (okT (names s v)))⟩
 | 49 => ⟨fun a s => ∃ b p w, a = [p] ∧ Bld b s p w ∧ Ext b s, fun a s _ s' => ∀ b p w, a = [p] → Bld b s p w → Ext b s → (Bld b s' p w ∧ Ext b s') ∧ FrB s s' ∧ s.nx.toNat ≤ s'.nx.toNat⟩
 | 20 => ⟨fun a s => ∃ b p w l, a = [p, .str l] ∧ Bld b s p w ∧ Ext b s ∧ w.length + l.length ≤ 1048576, fun a s _ s' => ∀ b p w l, a = [p, .str l] → Bld b s p w → Ext b s → w.length + l.length ≤ 1048576 → (Bld b s' p (w ++ l) ∧ Ext b s') ∧ FrB s s' ∧ s.nx.toNat ≤ s'.nx.toNat⟩
 | 21 => ⟨fun a s => ∃ b p w, a = [p] ∧ Bld b s p w, fun a s v s' => ∀ b p w, a = [p] → Bld b s p w → s' = s ∧ v = iv .i64 (w.length : Int)⟩
 | 22 => ⟨fun a s => ∃ b p w, a = [p] ∧ Bld b s p w ∧ Ext b s ∧ Byts w ∧ w.length ≤ 1048576, fun a s v s' => ∀ b p w, a = [p] → Bld b s p w → Ext b s → Byts w → w.length ≤ 1048576 → Ext b s' ∧ v = .str w⟩
 | 9 => ⟨fun a s => ∃ t x, a = [t, x] ∧ Strs s t ∧ Ints s x ∧ Tabs s, fun a s v s' => ∀ t x, a = [t, x] → Ext s s' ∧ v = if okX (names s t) (word s x) then .ls 1 [.str (txtW (names s t) (word s x)), iv .i64 0] else .ls 1 [.str [], iv .i64 1]⟩
 | 47 => ⟨fun a s => ∃ z p n, a = [iv .i64 z, p] ∧ CellI s p n, fun a s v s' => ∀ z p n, a = [iv .i64 z, p] → CellI s p n → s' = s ∧ v = .bool (decide (z < 1 ∨ n < z))⟩
 | 62 => ⟨fun a s => ∃ x p n, a = [x, .fn (.func 47) [] [p]] ∧ Ints s x ∧ CellI s p n, fun a s v s' => ∀ x p n, a = [x, .fn (.func 47) [] [p]] → CellI s p n → s' = s ∧ ∃ k : Int, v = iv .i64 k ∧ (0 ≤ k ↔ ¬ inR s x n)⟩
 | 46 => ⟨fun a s => ∃ x p n, a = [x, .fn (.func 47) [] [p]] ∧ Ints s x ∧ CellI s p n, fun a s v s' => ∀ x p n, a = [x, .fn (.func 47) [] [p]] → CellI s p n → s' = s ∧ v = .bool (decide (¬ inR s x n))⟩
 | 17 => ⟨fun a s => ∃ x n, a = [x, iv .i64 n] ∧ Ints s x, fun a s v s' => ∀ x n, a = [x, iv .i64 n] → Ext s s' ∧ v = .bool (decide (lenV x ≤ 200 ∧ inR s x n))⟩
 | 18 => ⟨fun a s => ∃ z, a = [iv .i64 z] ∧ i64ok z ∧ Tabs s, fun a s v s' => ∀ z, a = [iv .i64 z] → Ext s s' ∧ v = .str (itoa z)⟩
 | 19 => ⟨fun a s => ∃ z, a = [iv .i64 z] ∧ i64ok z ∧ Tabs s, fun a s v s' => ∀ z, a = [iv .i64 z] → Ext s s' ∧ v = .str (itoa z)⟩
 | 48 => ⟨fun a s => ∃ z, a = [iv .i64 z] ∧ i64ok z ∧ Tabs s, fun a s v s' => ∀ z, a = [iv .i64 z] → Ext s s' ∧ v = .str (itoa z)⟩
 | 63 => ⟨fun a s => ∃ z, a = [iv .i64 z, iv .i64 10] ∧ i64ok z ∧ Tabs s, fun a s v s' => ∀ z b, a = [iv .i64 z, b] → Ext s s' ∧ v = .str (itoa z)⟩
 | 5 => ⟨fun a s => ∃ v, a = [v] ∧ Stp s v, fun a s w s' => ∀ v, a = [v] → s' = s ∧ w = .bool (decide (manyP (stepsV s v)))⟩
 | 7 => ⟨fun a s => ∃ v t, a = [v, t] ∧ Stp s v ∧ Strs s t ∧ Tabs s ∧ ¬ manyP (stepsV s v), fun a s w s' => ∀ v t, a = [v, t] → Ext s s' ∧ w = textR (names s t) (stepsV s v)⟩
 | 6 => ⟨fun a _ => a = [], fun _ s v s' => s' = s ∧ v = .bool true⟩
 | 121 => ⟨fun a _ => ∃ n : Nat, a = [iv .u64 (n : Int)] ∧ n < 18446744073709551616, fun a s v s' => ∀ n : Nat, a = [iv .u64 (n : Int)] → s' = s ∧ v = iv .i64 (b32 n : Nat)⟩
 | 120 => ⟨fun a _ => ∃ n : Nat, a = [iv .i64 (n : Int)] ∧ n ≤ 64, fun a s v s' => ∀ n : Nat, a = [iv .i64 (n : Int)] → s' = s ∧ v = iv .i64 ((n * 78913 / 262144 : Nat) : Int)⟩
 | 122 => ⟨fun a _ => ∃ b, a = [.bool b], fun a s v s' => ∀ b, a = [.bool b] → s' = s ∧ v = iv .i64 ((if b = true then 1 else 0 : Nat) : Int)⟩
 | 84 => ⟨fun a s => ∃ n : Nat, a = [iv .u64 (n : Int)] ∧ 0 < n ∧ n < 18446744073709551616 ∧ Tabs s, fun a s v s' => ∀ n : Nat, a = [iv .u64 (n : Int)] → s' = s ∧ v = iv .i64 (nd n : Nat)⟩
 | 83 => ⟨fun a _ => ∃ n : Nat, a = [iv .i64 (n : Int)] ∧ n < 100, fun a s v s' => ∀ n : Nat, a = [iv .i64 (n : Int)] → s' = s ∧ v = .str (digs n)⟩
 | 85 => ⟨fun a s => ∃ (A : Go.Ev.K) (k cap u : Nat) (l : List V), a = [.sl A 0 1 k cap, iv .u64 (u : Int)] ∧ Tr.get B.none A s.h = .row l 24 139 false 0 0 0 ∧ l.length = 24 ∧ k ≤ 23 ∧ 0 < k ∧ u < 18446744073709551616 ∧ u < 10 ^ k,
   fun a s _ s' => ∀ (A : Go.Ev.K) (k cap u : Nat) (l : List V), a = [.sl A 0 1 k cap, iv .u64 (u : Int)] → Tr.get B.none A s.h = .row l 24 139 false 0 0 0 → l.length = 24 → u < 10 ^ k →
    ∃ l', Tr.get B.none A s'.h = .row l' 24 139 false 0 0 0 ∧ s'.nx = s.nx ∧ (∀ c, c ≠ A → Tr.get B.none c s'.h = Tr.get B.none c s.h) ∧ l'.length = 24 ∧ (∀ j, j < k → l'.getD (1 + j) .bad = iv .u8 ((ds k u).getD j 0 : Nat)) ∧ l'.getD 0 .bad = l.getD 0 .bad⟩
 | _ => ⟨fun _ _ => False, fun _ _ _ _ => True⟩
theorem fn_k {L : Nat → Lt} {f : Nat} {a : List V} {s s' : S} {v : V} (h : (fnC pc0 f).run (Rk Tryz.prog K L) a s = .ret v s') : CallX Tryz.prog f a s v s' := fn_call pcOk0.1 pcOk0.2 (Rk_ok pc0 K L) h
abbrev noL : Nat → Lt := fun _ => ⟨fun _ _ => True, fun _ _ _ => True⟩
theorem Byts.at_ {l : List Nat} (h : Byts l) (i : Nat) : l.getD i 0 < 256 := by
 by_cases hi : i < l.length
 ·rw [List.getD_eq_getElem?_getD, List.getElem?_eq_getElem hi]; exact h _ (List.getElem_mem hi)
 ·rw [List.getD_eq_getElem?_getD, List.getElem?_eq_none (by omega)]; exact Nat.zero_lt_succ _
theorem andNot_all (q : EK) (cst : Bool) (a : Nat) (c : V → A) : xBin q cst .andNot (iv .i32 (a : Int)) (iv .i32 (-1)) c = c (iv .i32 (0 : Nat)) := by
 show xBin q cst .andNot (.nat .i32 a) (.neg .i32 0) c = _
 rw [xBin_np]
 show wrapV .i32 ((BitVec.ofInt 32 (a : Int) &&& ~~~ BitVec.ofInt 32 (-1)).toNat : Int) c = _
 rw [wrapV_eq, show (BitVec.ofInt 32 (a : Int) &&& ~~~ BitVec.ofInt 32 (-1)) = 0 from by
  rw [show (~~~ BitVec.ofInt 32 (-1) : BitVec 32) = 0 from by decide]; simp]
 rfl
theorem first_at {s : S} (hT : Tabs s) {b : Nat} (hb : b < 256) (k : V → S → A) : xLoad false 1 (.ptr (.o .h) 0 (0 + b * 1)) s k = k (iv .u8 (firstF b : Nat)) s := by
 obtain ⟨el, f2, h⟩ := hT.first
 have hP := row_pt h (by simp [firstL]) (o := 0 + b * 1) (m := 1) (by omega)
 have e : (firstL.map fun n : Nat => iv .u8 (n : Int)).getD (0 + b * 1 + 0) .bad = iv .u8 (firstF b : Nat) := by
  rw [List.getD_eq_getElem?_getD]
  simp [firstL, hb]
 have := hP.load1 Nat.zero_lt_one (by rw [e]; exact iv_ne _ _) k
 rw [e] at this
 exact this
theorem acc_at {s : S} (hT : Tabs s) {i : Nat} (hi : i < 16) (k : V → S → A) : xLoad true 2 (.ptr (.i .h) 0 (0 + i * 2)) s k = k (.ls 0 [iv .u8 (accL.getD (i * 2) 0 : Nat), iv .u8 (accL.getD (i * 2 + 1) 0 : Nat)]) s := by
 obtain ⟨el, f2, h⟩ := hT.acc
 have hP := row_pt h (by simp [accL]) (o := 0 + i * 2) (m := 2) (by omega)
 have e : ∀ j, j < 32 → (accL.map fun n : Nat => iv .u8 (n : Int)).getD j .bad = iv .u8 (accL.getD j 0 : Nat) := fun j hj => by
  rw [List.getD_eq_getElem?_getD, List.getD_eq_getElem?_getD, List.getElem?_map]
  have : j < accL.length := by simpa [accL] using hj
  rw [List.getElem?_eq_getElem this]; rfl
 have := hP.loadN 2 (Nat.le_refl _) (fun j hj => by rw [e _ (by omega)]; exact iv_ne _ _) k
 rw [this]
 simp only [List.range_succ, List.range_zero, List.nil_append, List.map_cons, List.map_nil, List.cons_append]
 rw [e _ (by omega), e _ (by omega)]
 simp
theorem or_add (q : EK) (cst : Bool) (k : IntKind) {a b p : Nat} (n : Nat) (hp : p = a * 2 ^ n) (hb : b < 2 ^ n) (h : p + b < lim k) (c : V → A) : xBin q cst .or (iv k (p : Int)) (iv k (b : Int)) c = c (iv k ((p + b : Nat) : Int)) := by
 rw [or_nat q cst k c (by omega) (by omega)]
 subst hp
 rw [Nat.mul_comm, Nat.two_pow_add_eq_or_of_lt hb]
theorem and_mod (q : EK) (cst : Bool) (k : IntKind) {a m : Nat} (n : Nat) (hm : m = 2 ^ n - 1) (ha : a < lim k) (hml : m < lim k) (c : V → A) : xBin q cst .and (iv k (a : Int)) (iv k (m : Int)) c = c (iv k ((a % 2 ^ n : Nat) : Int)) := by
 rw [and_nat q cst k c ha hml, hm, Nat.and_two_pow_sub_one_eq_mod]
def decG (b0 b1 b2 b3 n sz lo hi : Nat) : Nat × Nat :=
 if n < sz then (65533, 1) else if b1 < lo ∨ hi < b1 then (65533, 1) else if sz ≤ 2 then ((b0 % 32) * 64 + b1 % 64, 2)
 else if b2 < 128 ∨ 191 < b2 then (65533, 1) else if sz ≤ 3 then ((b0 % 16) * 4096 + (b1 % 64) * 64 + b2 % 64, 3)
 else if b3 < 128 ∨ 191 < b3 then (65533, 1) else ((b0 % 8) * 262144 + (b1 % 64) * 4096 + (b2 % 64) * 64 + b3 % 64, 4)
theorem DecS_run {l : List Nat} {s : S} {r : R} (hB : Byts l) (hT : Tabs s) (x sz ai lo hi : Nat) (hx : firstF (l.getD 0 0) = x) (hlt : x < 240) (hl0 : 0 < l.length)
  (a7 : ∀ c : V → A, xBin ⟨9, []⟩ false .and (iv .u8 (x : Int)) (iv .u8 7) c = c (iv .u8 (sz : Int))) (hsz : 2 ≤ sz ∧ sz ≤ 4) (s4 : ∀ c : V → A, xShift .shr (iv .u8 (x : Int)) (iv .u64 4) c = c (iv .u8 (ai : Int))) (hai : ai < 16)
  (hlo : accL.getD (ai * 2) 0 = lo) (hhi : accL.getD (ai * 2 + 1) 0 = hi) :
  ∃ s', (fnC pc0 144).run r [.str l] s = .ret (.ls 1 [iv .i32 ((decG (l.getD 0 0) (l.getD 1 0) (l.getD 2 0) (l.getD 3 0) l.length sz lo hi).1 : Nat), iv .i64 ((decG (l.getD 0 0) (l.getD 1 0) (l.getD 2 0) (l.getD 3 0) l.length sz lo hi).2 : Nat)]) s' ∧ Ext s s' := by
 have hE : Ext s (addB s (.row [iv .u8 (lo : Int), iv .u8 (hi : Int)] 2 246 false 0 0 0)) := ext_addB _ _
 refine ⟨_, ?_, hE⟩
 have hst := store_new s 246 2 [iv .u8 0, iv .u8 0] [iv .u8 (lo : Int), iv .u8 (hi : Int)] rfl rfl
 have hP := new_pt s 246 2 [iv .u8 (lo : Int), iv .u8 (hi : Int)] rfl
 have hf0 : ∀ c : V → A, xFieldAddr 0 (.ptr s.nx 0 0) c = c (.ptr s.nx 0 0) := fun c => rfl
 have hf1 : ∀ c : V → A, xFieldAddr 1 (.ptr s.nx 0 0) c = c (.ptr s.nx 0 1) := fun c => rfl
 have hl_0 : ∀ k : V → S → A, xLoad false 1 (.ptr s.nx 0 0) (addB s (.row [iv .u8 (lo : Int), iv .u8 (hi : Int)] 2 246 false 0 0 0)) k = k (iv .u8 (lo : Int)) (addB s (.row [iv .u8 (lo : Int), iv .u8 (hi : Int)] 2 246 false 0 0 0)) := fun k => hP.load1 (by omega) (fun h => iv_ne .u8 (lo : Int) h) k
 have hl_1 : ∀ k : V → S → A, xLoad false 1 (.ptr s.nx 0 1) (addB s (.row [iv .u8 (lo : Int), iv .u8 (hi : Int)] 2 246 false 0 0 0)) k = k (iv .u8 (hi : Int)) (addB s (.row [iv .u8 (lo : Int), iv .u8 (hi : Int)] 2 246 false 0 0 0)) := fun k => by
  obtain ⟨p', e1, P1⟩ := hP.field 1 (by omega)
  have e2 : p' = .ptr s.nx 0 1 := by
   have := e1 (fun v => .fin v s)
   exact (A.fin.inj this).1.symm
  subst e2
  exact P1.load1 (by omega) (fun h => iv_ne .u8 (hi : Int) h) k
 have q0 := hB.at_ 0
 have q1 := hB.at_ 1
 have q2 := hB.at_ 2
 have q3 := hB.at_ 3
 have i0 : ∀ c : V → A, xIndexS (.str l) (iv .i64 0) c = c (iv .u8 (l.getD 0 0 : Nat)) := fun c => idxS_s l .i64 (i := 0) hl0 c
 have i1 : 1 < l.length → ∀ c : V → A, xIndexS (.str l) (iv .i64 1) c = c (iv .u8 (l.getD 1 0 : Nat)) := fun h c => idxS_s l .i64 (i := 1) h c
 have i2 : 2 < l.length → ∀ c : V → A, xIndexS (.str l) (iv .i64 2) c = c (iv .u8 (l.getD 2 0 : Nat)) := fun h c => idxS_s l .i64 (i := 2) h c
 have i3 : 3 < l.length → ∀ c : V → A, xIndexS (.str l) (iv .i64 3) c = c (iv .u8 (l.getD 3 0 : Nat)) := fun h c => idxS_s l .i64 (i := 3) h c
 have fl := first_at hT q0
 have hac := acc_at hT hai
 rw [hlo, hhi] at hac
 rw [hx] at fl
 generalize l.getD 0 0 = b0 at *
 generalize l.getD 1 0 = b1 at *
 generalize l.getD 2 0 = b2 at *
 generalize l.getD 3 0 = b3 at *
 have fi0 : ∀ c : V → A, xIdxAddrA 256 1 (.ptr (.o .h) 0 0) (iv .u8 (b0 : Int)) c = c (.ptr (.o .h) 0 b0) := fun c => by rw [idxA_p 256 1 _ 0 0 b0 .u8 q0]; simp
 have fl' : ∀ k : V → S → A, xLoad false 1 (.ptr (.o .h) 0 b0) s k = k (iv .u8 (x : Int)) s := fun k => by have := fl k; simpa using this
 have ai0 : ∀ c : V → A, xIdxAddrA 16 2 (.ptr (.i .h) 0 0) (iv .u8 (ai : Int)) c = c (.ptr (.i .h) 0 (ai * 2)) := fun c => by rw [idxA_p 16 2 _ 0 0 ai .u8 hai]; simp
 have hac' : ∀ k : V → S → A, xLoad true 2 (.ptr (.i .h) 0 (ai * 2)) s k = k (.ls 0 [iv .u8 (lo : Int), iv .u8 (hi : Int)]) s := fun k => by have := hac k; simpa using this
 have cz : ∀ c : V → A, xIntConv .i64 (iv .u8 (sz : Int)) c = c (iv .i64 (sz : Int)) := fun c => conv_nat .i64 .u8 (by show sz < 9223372036854775808; omega) c
 generalize hs1 : addB s (.row [iv .u8 (lo : Int), iv .u8 (hi : Int)] 2 246 false 0 0 0) = s1 at hst hl_0 hl_1
 have hn : (l.length : Int) < 1 ↔ False := ⟨fun h => by omega, fun h => h.elim⟩
 have hge : (240 : Int) ≤ x ↔ False := ⟨fun h => by omega, fun h => h.elim⟩
 have u8i : ∀ {n : Nat}, n < 256 → n < lim .u8 := fun h => h
 have u8i3 : ∀ {n : Nat}, n < 2147483648 → n < lim .i32 := fun h => h
 by_cases g1 : l.length < sz
 ·simp only [decG, if_pos g1]
  simp [allDecS, gp_sp, lenT_s, lss_ii, geq_ii, nat_iv, hn, hge, i0, fi0, fl', a7, cz, s4, ai0, hac', newRow_add, hst, g1]
 by_cases g2 : b1 < lo
 ·simp only [decG, if_neg g1, if_pos (show b1 < lo ∨ hi < b1 from .inl g2)]
  simp [allDecS, gp_sp, lenT_s, lss_ii, geq_ii, nat_iv, hn, hge, i0, i1 (by omega), fi0, fl', a7, cz, s4, ai0, hac', newRow_add, hst, hf0, hl_0, g1, g2]
 by_cases g3 : hi < b1
 ·simp only [decG, if_neg g1, if_pos (show b1 < lo ∨ hi < b1 from .inr g3)]
  simp [allDecS, gp_sp, lenT_s, lss_ii, geq_ii, nat_iv, hn, hge, i0, i1 (by omega), fi0, fl', a7, cz, s4, ai0, hac', newRow_add, hst, hf0, hf1, hl_0, hl_1, g1, g2, g3]
 simp only [decG, if_neg g1, if_neg (show ¬ (b1 < lo ∨ hi < b1) from fun h => h.elim g2 g3)]
 by_cases g4 : sz ≤ 2
 ·have g4' : (sz : Int) ≤ 2 := by omega
  simp only [if_pos g4]
  obtain ⟨p, hp⟩ : ∃ p, p = b0 % 32 := ⟨_, rfl⟩
  obtain ⟨p', hp'⟩ : ∃ p', p' = p * 64 := ⟨_, rfl⟩
  obtain ⟨w, hw⟩ : ∃ w, w = b1 % 64 := ⟨_, rfl⟩
  obtain ⟨z, hz⟩ : ∃ z, z = p' + w := ⟨_, rfl⟩
  have e1 : ∀ c : V → A, xBin ⟨9, []⟩ false .and (iv .u8 (b0 : Int)) (iv .u8 31) c = c (iv .u8 (p : Int)) := fun c => by rw [hp]; exact and_mod _ _ .u8 (m := 31) 5 rfl q0 (by decide) c
  have e2 : ∀ c : V → A, xIntConv .i32 (iv .u8 (p : Int)) c = c (iv .i32 (p : Int)) := fun c => conv_nat .i32 .u8 (u8i3 (by omega)) c
  have e3 : ∀ c : V → A, xShift .shl (iv .i32 (p : Int)) (iv .u64 6) c = c (iv .i32 (p' : Int)) := fun c => by rw [hp']; exact shl_nat .i32 .u64 (b := 6) (by decide) (u8i3 (by omega)) c
  have e4 : ∀ c : V → A, xBin ⟨9, []⟩ false .and (iv .u8 (b1 : Int)) (iv .u8 63) c = c (iv .u8 (w : Int)) := fun c => by rw [hw]; exact and_mod _ _ .u8 (m := 63) 6 rfl q1 (by decide) c
  have e5 : ∀ c : V → A, xIntConv .i32 (iv .u8 (w : Int)) c = c (iv .i32 (w : Int)) := fun c => conv_nat .i32 .u8 (u8i3 (by omega)) c
  have e6 : ∀ c : V → A, xBin ⟨9, []⟩ false .or (iv .i32 (p' : Int)) (iv .i32 (w : Int)) c = c (iv .i32 (z : Int)) := fun c => by rw [hz]; exact or_add _ _ .i32 6 hp' (by omega) (u8i3 (by omega)) c
  rw [← hp, ← hp', ← hw, ← hz]
  simp [allDecS, gp_sp, lenT_s, lss_ii, leq_ii, geq_ii, nat_iv, hn, hge, i0, i1 (by omega), fi0, fl', a7, cz, s4, ai0, hac', newRow_add, hst, hf0, hf1, hl_0, hl_1, g1, g2, g3, g4', e1, e2, e3, e4, e5, e6]
 simp only [if_neg g4]
 have g4' : ¬ (sz : Int) ≤ 2 := by omega
 by_cases g5 : b2 < 128
 ·have g5' : (b2 : Int) < 128 := by omega
  simp only [if_pos (show b2 < 128 ∨ 191 < b2 from .inl g5)]
  simp [allDecS, gp_sp, lenT_s, lss_ii, leq_ii, geq_ii, nat_iv, hn, hge, i0, i1 (by omega), i2 (by omega), fi0, fl', a7, cz, s4, ai0, hac', newRow_add, hst, hf0, hf1, hl_0, hl_1, g1, g2, g3, g4', g5']
 have g5' : ¬ (b2 : Int) < 128 := by omega
 by_cases g6 : 191 < b2
 ·have g6' : (191 : Int) < b2 := by omega
  simp only [if_pos (show b2 < 128 ∨ 191 < b2 from .inr g6)]
  simp [allDecS, gp_sp, lenT_s, lss_ii, leq_ii, geq_ii, nat_iv, hn, hge, i0, i1 (by omega), i2 (by omega), fi0, fl', a7, cz, s4, ai0, hac', newRow_add, hst, hf0, hf1, hl_0, hl_1, g1, g2, g3, g4', g5', g6']
 have g6' : ¬ (191 : Int) < b2 := by omega
 simp only [if_neg (show ¬ (b2 < 128 ∨ 191 < b2) from fun h => h.elim g5 g6)]
 obtain ⟨w, hw⟩ : ∃ w, w = b1 % 64 := ⟨_, rfl⟩
 obtain ⟨y, hy⟩ : ∃ y, y = b2 % 64 := ⟨_, rfl⟩
 have e4 : ∀ c : V → A, xBin ⟨9, []⟩ false .and (iv .u8 (b1 : Int)) (iv .u8 63) c = c (iv .u8 (w : Int)) := fun c => by rw [hw]; exact and_mod _ _ .u8 (m := 63) 6 rfl q1 (by decide) c
 have e5 : ∀ c : V → A, xIntConv .i32 (iv .u8 (w : Int)) c = c (iv .i32 (w : Int)) := fun c => conv_nat .i32 .u8 (u8i3 (by omega)) c
 have e7 : ∀ c : V → A, xBin ⟨9, []⟩ false .and (iv .u8 (b2 : Int)) (iv .u8 63) c = c (iv .u8 (y : Int)) := fun c => by rw [hy]; exact and_mod _ _ .u8 (m := 63) 6 rfl q2 (by decide) c
 have e8 : ∀ c : V → A, xIntConv .i32 (iv .u8 (y : Int)) c = c (iv .i32 (y : Int)) := fun c => conv_nat .i32 .u8 (u8i3 (by omega)) c
 by_cases g7 : sz ≤ 3
 ·have g7' : (sz : Int) ≤ 3 := by omega
  simp only [if_pos g7]
  obtain ⟨p, hp⟩ : ∃ p, p = b0 % 16 := ⟨_, rfl⟩
  obtain ⟨p', hp'⟩ : ∃ p', p' = p * 4096 := ⟨_, rfl⟩
  obtain ⟨w', hw'⟩ : ∃ w', w' = w * 64 := ⟨_, rfl⟩
  obtain ⟨z, hz⟩ : ∃ z, z = p' + w' := ⟨_, rfl⟩
  obtain ⟨t, ht⟩ : ∃ t, t = z + y := ⟨_, rfl⟩
  have e1 : ∀ c : V → A, xBin ⟨9, []⟩ false .and (iv .u8 (b0 : Int)) (iv .u8 15) c = c (iv .u8 (p : Int)) := fun c => by rw [hp]; exact and_mod _ _ .u8 (m := 15) 4 rfl q0 (by decide) c
  have e2 : ∀ c : V → A, xIntConv .i32 (iv .u8 (p : Int)) c = c (iv .i32 (p : Int)) := fun c => conv_nat .i32 .u8 (u8i3 (by omega)) c
  have e3 : ∀ c : V → A, xShift .shl (iv .i32 (p : Int)) (iv .u64 12) c = c (iv .i32 (p' : Int)) := fun c => by rw [hp']; exact shl_nat .i32 .u64 (b := 12) (by decide) (u8i3 (by omega)) c
  have e9 : ∀ c : V → A, xShift .shl (iv .i32 (w : Int)) (iv .u64 6) c = c (iv .i32 (w' : Int)) := fun c => by rw [hw']; exact shl_nat .i32 .u64 (b := 6) (by decide) (u8i3 (by omega)) c
  have e6 : ∀ c : V → A, xBin ⟨9, []⟩ false .or (iv .i32 (p' : Int)) (iv .i32 (w' : Int)) c = c (iv .i32 (z : Int)) := fun c => by rw [hz]; exact or_add _ _ .i32 12 hp' (by omega) (u8i3 (by omega)) c
  have e10 : ∀ c : V → A, xBin ⟨9, []⟩ false .or (iv .i32 (z : Int)) (iv .i32 (y : Int)) c = c (iv .i32 (t : Int)) := fun c => by rw [ht]; exact or_add _ _ .i32 (a := p * 64 + w) 6 (by omega) (by omega) (u8i3 (by omega)) c
  rw [← hp, ← hw, ← hy, ← hp', ← hw', ← hz, ← ht]
  simp [allDecS, gp_sp, lenT_s, lss_ii, leq_ii, geq_ii, nat_iv, hn, hge, i0, i1 (by omega), i2 (by omega), fi0, fl', a7, cz, s4, ai0, hac', newRow_add, hst, hf0, hf1, hl_0, hl_1, g1, g2, g3, g4', g5', g6', g7', e1, e2, e3, e4, e5, e6, e7, e8, e9, e10]
 simp only [if_neg g7]
 have g7' : ¬ (sz : Int) ≤ 3 := by omega
 by_cases g8 : b3 < 128
 ·have g8' : (b3 : Int) < 128 := by omega
  simp only [if_pos (show b3 < 128 ∨ 191 < b3 from .inl g8)]
  simp [allDecS, gp_sp, lenT_s, lss_ii, leq_ii, geq_ii, nat_iv, hn, hge, i0, i1 (by omega), i2 (by omega), i3 (by omega), fi0, fl', a7, cz, s4, ai0, hac', newRow_add, hst, hf0, hf1, hl_0, hl_1, g1, g2, g3, g4', g5', g6', g7', g8']
 have g8' : ¬ (b3 : Int) < 128 := by omega
 by_cases g9 : 191 < b3
 ·have g9' : (191 : Int) < b3 := by omega
  simp only [if_pos (show b3 < 128 ∨ 191 < b3 from .inr g9)]
  simp [allDecS, gp_sp, lenT_s, lss_ii, leq_ii, geq_ii, nat_iv, hn, hge, i0, i1 (by omega), i2 (by omega), i3 (by omega), fi0, fl', a7, cz, s4, ai0, hac', newRow_add, hst, hf0, hf1, hl_0, hl_1, g1, g2, g3, g4', g5', g6', g7', g8', g9']
 have g9' : ¬ (191 : Int) < b3 := by omega
 simp only [if_neg (show ¬ (b3 < 128 ∨ 191 < b3) from fun h => h.elim g8 g9)]
 obtain ⟨u, hu⟩ : ∃ u, u = b3 % 64 := ⟨_, rfl⟩
 obtain ⟨p, hp⟩ : ∃ p, p = b0 % 8 := ⟨_, rfl⟩
 obtain ⟨p', hp'⟩ : ∃ p', p' = p * 262144 := ⟨_, rfl⟩
 obtain ⟨w', hw'⟩ : ∃ w', w' = w * 4096 := ⟨_, rfl⟩
 obtain ⟨y', hy'⟩ : ∃ y', y' = y * 64 := ⟨_, rfl⟩
 obtain ⟨z, hz⟩ : ∃ z, z = p' + w' := ⟨_, rfl⟩
 obtain ⟨t, ht⟩ : ∃ t, t = z + y' := ⟨_, rfl⟩
 obtain ⟨v, hv⟩ : ∃ v, v = t + u := ⟨_, rfl⟩
 have e1 : ∀ c : V → A, xBin ⟨9, []⟩ false .and (iv .u8 (b0 : Int)) (iv .u8 7) c = c (iv .u8 (p : Int)) := fun c => by rw [hp]; exact and_mod _ _ .u8 (m := 7) 3 rfl q0 (by decide) c
 have e2 : ∀ c : V → A, xIntConv .i32 (iv .u8 (p : Int)) c = c (iv .i32 (p : Int)) := fun c => conv_nat .i32 .u8 (u8i3 (by omega)) c
 have e3 : ∀ c : V → A, xShift .shl (iv .i32 (p : Int)) (iv .u64 18) c = c (iv .i32 (p' : Int)) := fun c => by rw [hp']; exact shl_nat .i32 .u64 (b := 18) (by decide) (u8i3 (by omega)) c
 have e9 : ∀ c : V → A, xShift .shl (iv .i32 (w : Int)) (iv .u64 12) c = c (iv .i32 (w' : Int)) := fun c => by rw [hw']; exact shl_nat .i32 .u64 (b := 12) (by decide) (u8i3 (by omega)) c
 have e11 : ∀ c : V → A, xShift .shl (iv .i32 (y : Int)) (iv .u64 6) c = c (iv .i32 (y' : Int)) := fun c => by rw [hy']; exact shl_nat .i32 .u64 (b := 6) (by decide) (u8i3 (by omega)) c
 have e12 : ∀ c : V → A, xBin ⟨9, []⟩ false .and (iv .u8 (b3 : Int)) (iv .u8 63) c = c (iv .u8 (u : Int)) := fun c => by rw [hu]; exact and_mod _ _ .u8 (m := 63) 6 rfl q3 (by decide) c
 have e13 : ∀ c : V → A, xIntConv .i32 (iv .u8 (u : Int)) c = c (iv .i32 (u : Int)) := fun c => conv_nat .i32 .u8 (u8i3 (by omega)) c
 have e6 : ∀ c : V → A, xBin ⟨9, []⟩ false .or (iv .i32 (p' : Int)) (iv .i32 (w' : Int)) c = c (iv .i32 (z : Int)) := fun c => by rw [hz]; exact or_add _ _ .i32 18 hp' (by omega) (u8i3 (by omega)) c
 have e10 : ∀ c : V → A, xBin ⟨9, []⟩ false .or (iv .i32 (z : Int)) (iv .i32 (y' : Int)) c = c (iv .i32 (t : Int)) := fun c => by rw [ht]; exact or_add _ _ .i32 (a := p * 64 + w) 12 (by omega) (by omega) (u8i3 (by omega)) c
 have e14 : ∀ c : V → A, xBin ⟨9, []⟩ false .or (iv .i32 (t : Int)) (iv .i32 (u : Int)) c = c (iv .i32 (v : Int)) := fun c => by rw [hv]; exact or_add _ _ .i32 (a := p * 4096 + w * 64 + y) 6 (by omega) (by omega) (u8i3 (by omega)) c
 rw [← hp, ← hw, ← hy, ← hu, ← hp', ← hw', ← hy', ← hz, ← ht, ← hv]
 simp [allDecS, gp_sp, lenT_s, lss_ii, leq_ii, geq_ii, nat_iv, hn, hge, i0, i1 (by omega), i2 (by omega), i3 (by omega), fi0, fl', a7, cz, s4, ai0, hac', newRow_add, hst, hf0, hf1, hl_0, hl_1, g1, g2, g3, g4', g5', g6', g7', g8', g9', e1, e2, e3, e4, e5, e6, e7, e8, e9, e10, e11, e12, e13, e14]
def dcN (b0 b1 b2 b3 n : Nat) : Nat × Nat :=
 if b0 < 128 then (b0, 1)
 else if b0 / 32 = 6 ∧ 1 < n ∧ b1 / 64 = 2 then
  if 128 ≤ (b0 % 32) * 64 + b1 % 64 then ((b0 % 32) * 64 + b1 % 64, 2) else (65533, 1)
 else if b0 / 16 = 14 ∧ 1 < n ∧ b1 / 64 = 2 ∧ 2 < n ∧ b2 / 64 = 2 then
  if 2048 ≤ (b0 % 16) * 4096 + (b1 % 64) * 64 + b2 % 64 ∧ ((b0 % 16) * 4096 + (b1 % 64) * 64 + b2 % 64 < 55296 ∨ (57344 ≤ (b0 % 16) * 4096 + (b1 % 64) * 64 + b2 % 64 ∧ (b0 % 16) * 4096 + (b1 % 64) * 64 + b2 % 64 ≤ 1114111)) then ((b0 % 16) * 4096 + (b1 % 64) * 64 + b2 % 64, 3) else (65533, 1)
 else if b0 / 8 = 30 ∧ 1 < n ∧ b1 / 64 = 2 ∧ 2 < n ∧ b2 / 64 = 2 ∧ 3 < n ∧ b3 / 64 = 2 then
  if 65536 ≤ (b0 % 8) * 262144 + (b1 % 64) * 4096 + (b2 % 64) * 64 + b3 % 64 ∧ ((b0 % 8) * 262144 + (b1 % 64) * 4096 + (b2 % 64) * 64 + b3 % 64 < 55296 ∨ (57344 ≤ (b0 % 8) * 262144 + (b1 % 64) * 4096 + (b2 % 64) * 64 + b3 % 64 ∧ (b0 % 8) * 262144 + (b1 % 64) * 4096 + (b2 % 64) * 64 + b3 % 64 ≤ 1114111)) then ((b0 % 8) * 262144 + (b1 % 64) * 4096 + (b2 % 64) * 64 + b3 % 64, 4) else (65533, 1)
 else (65533, 1)
theorem valid_nat (c : Nat) : Utf8.valid (c : Int) = decide (c < 55296 ∨ (57344 ≤ c ∧ c ≤ 1114111)) := by
 unfold Utf8.valid
 rw [Bool.eq_iff_iff]
 simp
 omega
theorem dcL_N (l : List Nat) : dcL l = dcN (l.getD 0 0) (l.getD 1 0) (l.getD 2 0) (l.getD 3 0) l.length := by
 unfold dcL dcN
 simp only [valid_nat, Bool.and_eq_true, decide_eq_true_eq, beq_iff_eq, ge_iff_le, and_assoc]
theorem dec_2 {b0 b1 b2 b3 n : Nat} (h0 : 194 ≤ b0) (h1 : b0 < 224) : dcN b0 b1 b2 b3 n = decG b0 b1 b2 b3 n 2 128 191 := by
 unfold dcN decG
 (repeat' split) <;> first | rfl | (exfalso; omega)
theorem dec_3 {b0 b1 b2 b3 n lo hi : Nat} (h : (b0 = 224 ∧ lo = 160 ∧ hi = 191) ∨ (225 ≤ b0 ∧ b0 < 240 ∧ b0 ≠ 237 ∧ lo = 128 ∧ hi = 191) ∨ (b0 = 237 ∧ lo = 128 ∧ hi = 159)) : dcN b0 b1 b2 b3 n = decG b0 b1 b2 b3 n 3 lo hi := by
 unfold dcN decG
 (repeat' split) <;> first | rfl | (exfalso; omega)
theorem dec_4 {b0 b1 b2 b3 n lo hi : Nat} (h : (b0 = 240 ∧ lo = 144 ∧ hi = 191) ∨ (241 ≤ b0 ∧ b0 < 244 ∧ lo = 128 ∧ hi = 191) ∨ (b0 = 244 ∧ lo = 128 ∧ hi = 143)) : dcN b0 b1 b2 b3 n = decG b0 b1 b2 b3 n 4 lo hi := by
 unfold dcN decG
 (repeat' split) <;> first | rfl | (exfalso; omega)
theorem dec_x {b0 b1 b2 b3 n : Nat} (hb : b0 < 256) (_ : b1 < 256) (h : (128 ≤ b0 ∧ b0 < 194) ∨ 244 < b0) : dcN b0 b1 b2 b3 n = (65533, 1) := by
 unfold dcN
 (repeat' split) <;> first | rfl | (exfalso; omega)
theorem ff_x {b : Nat} (hb : b < 256) (h : (128 ≤ b ∧ b < 194) ∨ 244 < b) : firstF b = 241 := by unfold firstF; (repeat' split) <;> first | rfl | (exfalso; omega)
theorem ff_2 {b : Nat} (h : 194 ≤ b ∧ b < 224) : firstF b = 2 := by unfold firstF; (repeat' split) <;> first | rfl | (exfalso; omega)
theorem ff_19 {b : Nat} (h : b = 224) : firstF b = 19 := by subst h; rfl
theorem ff_35 {b : Nat} (h : b = 237) : firstF b = 35 := by subst h; rfl
theorem ff_3 {b : Nat} (h : 225 ≤ b ∧ b < 240 ∧ b ≠ 237) : firstF b = 3 := by unfold firstF; (repeat' split) <;> first | rfl | (exfalso; omega)
theorem ff_52 {b : Nat} (h : b = 240) : firstF b = 52 := by subst h; rfl
theorem ff_68 {b : Nat} (h : b = 244) : firstF b = 68 := by subst h; rfl
theorem ff_4 {b : Nat} (h : 241 ≤ b ∧ b < 244) : firstF b = 4 := by unfold firstF; (repeat' split) <;> first | rfl | (exfalso; omega)
theorem DecS_ok : Holds Tryz.prog K 144 := by
 rintro a s ⟨l, rfl, hB, hT, h128⟩
 suffices h : ∃ s', (fnC pc0 144).run (Rk Tryz.prog K noL) [.str l] s = .ret (.ls 1 [iv .i32 ((decF l).1 : Nat), iv .i64 ((decF l).2 : Nat)]) s' ∧ Ext s s' by
  obtain ⟨s', h1, h2⟩ := h
  exact ⟨_, s', fn_k h1, fun l' e => by cases e; exact ⟨h2, rfl⟩⟩
 generalize Rk Tryz.prog _ _ = r
 by_cases hl : l = []
 ·subst hl
  refine ⟨s, ?_, Ext.refl _⟩
  simp [allDecS, gp_sp, lenT_s, lss_ii, nat_iv, decF]
 have hl0 : 0 < l.length := List.length_pos_iff.2 hl
 have h128 := h128 hl
 have q0 := hB.at_ 0
 have e : decF l = dcN (l.getD 0 0) (l.getD 1 0) (l.getD 2 0) (l.getD 3 0) l.length := by unfold decF; rw [if_neg hl, dcL_N]
 rw [e]
 have go : ∀ (x sz ai lo hi : Nat), firstF (l.getD 0 0) = x → x < 240 → (∀ c : V → A, xBin ⟨9, []⟩ false .and (iv .u8 (x : Int)) (iv .u8 7) c = c (iv .u8 (sz : Int))) → 2 ≤ sz ∧ sz ≤ 4 → (∀ c : V → A, xShift .shr (iv .u8 (x : Int)) (iv .u64 4) c = c (iv .u8 (ai : Int))) → ai < 16 →
   accL.getD (ai * 2) 0 = lo → accL.getD (ai * 2 + 1) 0 = hi → dcN (l.getD 0 0) (l.getD 1 0) (l.getD 2 0) (l.getD 3 0) l.length = decG (l.getD 0 0) (l.getD 1 0) (l.getD 2 0) (l.getD 3 0) l.length sz lo hi →
   ∃ s', (fnC pc0 144).run r [.str l] s = .ret (.ls 1 [iv .i32 ((dcN (l.getD 0 0) (l.getD 1 0) (l.getD 2 0) (l.getD 3 0) l.length).1 : Nat), iv .i64 ((dcN (l.getD 0 0) (l.getD 1 0) (l.getD 2 0) (l.getD 3 0) l.length).2 : Nat)]) s' ∧ Ext s s' := by
  intro x sz ai lo hi a1 a2 a3 a4 a5 a6 a7 a8 a9
  rw [a9]
  exact DecS_run hB hT x sz ai lo hi a1 a2 hl0 a3 a4 a5 a6 a7 a8
 have q1 := hB.at_ 1
 have bad : firstF (l.getD 0 0) = 241 → ∃ s', (fnC pc0 144).run r [.str l] s = .ret (.ls 1 [iv .i32 65533, iv .i64 1]) s' ∧ Ext s s' := fun hx => by
  refine ⟨s, ?_, Ext.refl _⟩
  have i0 : ∀ c : V → A, xIndexS (.str l) (iv .i64 0) c = c (iv .u8 (l.getD 0 0 : Nat)) := fun c => idxS_s l .i64 (i := 0) hl0 c
  have fl := first_at hT q0
  rw [hx] at fl
  generalize l.getD 0 0 = b0 at *
  have fi0 : ∀ c : V → A, xIdxAddrA 256 1 (.ptr (.o .h) 0 0) (iv .u8 (b0 : Int)) c = c (.ptr (.o .h) 0 b0) := fun c => by rw [idxA_p 256 1 _ 0 0 b0 .u8 q0]; simp
  have fl' : ∀ k : V → S → A, xLoad false 1 (.ptr (.o .h) 0 b0) s k = k (iv .u8 241) s := fun k => by have := fl k; simpa using this
  have e1 : ∀ c : V → A, xIntConv .i32 (iv .u8 241) c = c (iv .i32 241) := fun c => rfl
  have e2 : ∀ c : V → A, xShift .shl (iv .i32 241) (iv .u64 31) c = c (iv .i32 (-2147483648)) := fun c => rfl
  have e3 : ∀ c : V → A, xShift .shr (iv .i32 (-2147483648)) (iv .u64 31) c = c (iv .i32 (-1)) := fun c => rfl
  have e4 : ∀ c : V → A, xIntConv .i32 (iv .u8 (b0 : Int)) c = c (iv .i32 (b0 : Int)) := fun c => conv_nat .i32 .u8 (show b0 < 2147483648 by omega) c
  have e5 : ∀ c : V → A, xBin ⟨9, []⟩ false .andNot (iv .i32 (b0 : Int)) (iv .i32 (-1)) c = c (iv .i32 0) := fun c => andNot_all _ _ b0 c
  have e6 : ∀ c : V → A, xBin ⟨9, []⟩ false .and (iv .i32 65533) (iv .i32 (-1)) c = c (iv .i32 65533) := fun c => rfl
  have e7 : ∀ c : V → A, xBin ⟨9, []⟩ false .or (iv .i32 0) (iv .i32 65533) c = c (iv .i32 65533) := fun c => rfl
  have hn : (l.length : Int) < 1 ↔ False := ⟨fun h => by omega, fun h => h.elim⟩
  simp [allDecS, gp_sp, lenT_s, lss_ii, geq_ii, nat_iv, hn, i0, fi0, fl', e1, e2, e3, e4, e5, e6, e7]
 have cls : ∀ (lo hi : Nat), (lo ≤ l.getD 0 0 ∧ l.getD 0 0 < hi) ∨ ¬ (lo ≤ l.getD 0 0 ∧ l.getD 0 0 < hi) := fun lo hi => Classical.em _
 rcases Nat.lt_or_ge (l.getD 0 0) 194 with c1 | c1
 ·rw [dec_x q0 q1 (.inl ⟨h128, c1⟩)]
  exact bad (ff_x q0 (.inl ⟨h128, c1⟩))
 rcases Nat.lt_or_ge (l.getD 0 0) 224 with c2 | c2
 ·exact go 2 2 0 128 191 (ff_2 ⟨c1, c2⟩) (by omega) (fun c => rfl) (by omega) (fun c => rfl) (by omega) rfl rfl (dec_2 c1 c2)
 rcases Nat.lt_or_ge (l.getD 0 0) 240 with c3 | c3
 ·by_cases d1 : l.getD 0 0 = 224
  ·exact go 19 3 1 160 191 (ff_19 d1) (by omega) (fun c => rfl) (by omega) (fun c => rfl) (by omega) rfl rfl (dec_3 (.inl ⟨d1, rfl, rfl⟩))
  by_cases d2 : l.getD 0 0 = 237
  ·exact go 35 3 2 128 159 (ff_35 d2) (by omega) (fun c => rfl) (by omega) (fun c => rfl) (by omega) rfl rfl (dec_3 (.inr (.inr ⟨d2, rfl, rfl⟩)))
  exact go 3 3 0 128 191 (ff_3 ⟨by omega, c3, d2⟩) (by omega) (fun c => rfl) (by omega) (fun c => rfl) (by omega) rfl rfl (dec_3 (.inr (.inl ⟨by omega, c3, d2, rfl, rfl⟩)))
 rcases Nat.lt_or_ge (l.getD 0 0) 245 with c4 | c4
 ·by_cases d1 : l.getD 0 0 = 240
  ·exact go 52 4 3 144 191 (ff_52 d1) (by omega) (fun c => rfl) (by omega) (fun c => rfl) (by omega) rfl rfl (dec_4 (.inl ⟨d1, rfl, rfl⟩))
  by_cases d2 : l.getD 0 0 = 244
  ·exact go 68 4 4 128 143 (ff_68 d2) (by omega) (fun c => rfl) (by omega) (fun c => rfl) (by omega) rfl rfl (dec_4 (.inr (.inr ⟨d2, rfl, rfl⟩)))
  exact go 4 4 0 128 191 (ff_4 ⟨by omega, by omega⟩) (by omega) (fun c => rfl) (by omega) (fun c => rfl) (by omega) rfl rfl (dec_4 (.inr (.inl ⟨by omega, by omega, rfl, rfl⟩)))
 ·rw [dec_x q0 q1 (.inr (by omega))]
  exact bad (ff_x q0 (.inr (by omega)))
theorem Dec_ok : Holds Tryz.prog K 119 := by
 rintro a s ⟨l, rfl, hB, hT⟩
 have hS := Rk_kept (L := noL) DecS_ok
 suffices h : ∃ s', (fnC pc0 119).run (Rk Tryz.prog K noL) [.str l] s = .ret (.ls 1 [iv .i32 ((decF l).1 : Nat), iv .i64 ((decF l).2 : Nat)]) s' ∧ Ext s s' by
  obtain ⟨s', h1, h2⟩ := h
  exact ⟨_, s', fn_k h1, fun l' e => by cases e; exact ⟨h2, rfl⟩⟩
 generalize Rk Tryz.prog _ _ = r at hS ⊢
 by_cases hl : l = []
 ·subst hl
  obtain ⟨w, s', he, hp⟩ := hS [.str []] s ⟨[], rfl, hB, hT, fun h => absurd rfl h⟩
  obtain ⟨hE, rfl⟩ := hp _ rfl
  refine ⟨s', ?_, hE⟩
  have e0 : ∀ c : V → A, xBin ⟨8, []⟩ true .neq (.str []) (.str []) c = c (.bool false) := fun c => rfl
  simp [allDec, gp_sp, e0, he]
 have hl0 : 0 < l.length := List.length_pos_iff.2 hl
 have q0 := hB.at_ 0
 have i0 : ∀ c : V → A, xIndexS (.str l) (iv .i64 0) c = c (iv .u8 (l.getD 0 0 : Nat)) := fun c => idxS_s l .i64 (i := 0) hl0 c
 have e0 : ∀ c : V → A, xBin ⟨8, []⟩ true .neq (.str l) (.str []) c = c (.bool true) := fun c => by
  cases l with
  | nil => exact absurd rfl hl
  | cons x t => rfl
 by_cases h128 : l.getD 0 0 < 128
 ·refine ⟨s, ?_, Ext.refl _⟩
  have e : decF l = (l.getD 0 0, 1) := by unfold decF; rw [if_neg hl, dcL_N]; unfold dcN; rw [if_pos h128]
  rw [e]
  generalize l.getD 0 0 = b0 at *
  have h' : (b0 : Int) < 128 := by omega
  have e1 : ∀ c : V → A, xIntConv .i32 (iv .u8 (b0 : Int)) c = c (iv .i32 (b0 : Int)) := fun c => conv_nat .i32 .u8 (show b0 < 2147483648 by omega) c
  simp [allDec, gp_sp, e0, i0, lss_ii, nat_iv, h', e1]
 ·obtain ⟨w, s', he, hp⟩ := hS [.str l] s ⟨l, rfl, hB, hT, fun _ => by omega⟩
  obtain ⟨hE, rfl⟩ := hp _ rfl
  refine ⟨s', ?_, hE⟩
  generalize l.getD 0 0 = b0 at *
  have h' : ¬ (b0 : Int) < 128 := by omega
  simp [allDec, gp_sp, e0, i0, lss_ii, nat_iv, h', he]
theorem Gw.ext {el : Nat} {b s s' : S} {v : V} {l : List V} (h : Gw el b s v l) (e : Ext s s') : Gw el b s' v l := by
 rcases h with h | ⟨a, n, mn, rfl, h1, h2, h3, h4, h5⟩
 ·exact .inl h
 ·exact .inr ⟨a, n, mn, rfl, h1, Nat.lt_of_lt_of_le h2 e.nx, h3, (e.get a h2).trans h4, h5⟩
theorem Gw.len {el : Nat} {b s : S} {v : V} {l : List V} (h : Gw el b s v l) (c : V → A) : xLenS v c = c (iv .i64 (l.length : Int)) := by
 rcases h with ⟨rfl, rfl⟩ | ⟨a, n, mn, rfl, h1, h2, h3, h4, rfl⟩ <;> rfl
theorem growNew_el (s : S) (el : Nat) (l : List V) (need : Nat) (hn : need ≤ 1048576) (hl : l.length = need) (k : V → S → A) : growNew s el l need k = k (.so s.nx need 0 need 0) (addB s (.row l need el true 0 0 0)) := by
 show (Bool.rec (motive := fun _ => A) _ _ (Nat.ble need 1048576) : A) = _
 rw [Nat.ble_eq_true_of_le hn]
 show Go.Ev.newRow s el l true (fun a n s => k (.so a n 0 need 0) s) = _
 rw [newRow_add, hl]
theorem Gw.append {el : Nat} {b s : S} {v : V} {l : List V} (h : Gw el b s v l) (hb : Ext b s) (new : List V) (hlim : l.length + new.length ≤ 1048576) :
  ∃ v' s', (∀ k : V → S → A, appendN el 1 v new.length new s k = k v' s') ∧ Ext b s' ∧ Gw el b s' v' (l ++ new) ∧ s.nx.toNat ≤ s'.nx.toNat ∧
   ∀ c, c.toNat < s.nx.toNat → (∀ l n mn, Tr.get B.none c s.h ≠ .row l n el true mn 0 0) → Tr.get B.none c s'.h = Tr.get B.none c s.h := by
 by_cases h0 : new = []
 ·subst h0
  refine ⟨v, s, fun k => ?_, hb, by simpa using h, Nat.le_refl _, fun _ _ _ => rfl⟩
  rcases h with ⟨rfl, rfl⟩ | ⟨a, n, mn, rfl, _⟩ <;> rfl
 ·have hpos : 0 < new.length := Nat.pos_of_ne_zero (fun h => h0 (List.length_eq_zero_iff.1 h))
  have hne : Nat.beq new.length 0 = false := by
   cases e : Nat.beq new.length 0 with
   | true => have := Nat.eq_of_beq_eq_true e; omega
   | false => rfl
  rcases h with ⟨rfl, rfl⟩ | ⟨a, n, mn, rfl, h1, h2, h3, h4, h5⟩
  ·refine ⟨.so s.nx new.length 0 new.length 0, addB s (.row new new.length el true 0 0 0), fun k => ?_, hb.trans (ext_addB _ _), .inr ⟨s.nx, new.length, 0, rfl, hb.nx, ?_, ⟨hpos, Nat.zero_le _⟩, by rw [addB_get]; rfl, by simp⟩, (ext_addB _ _).nx, fun c hc _ => (ext_addB _ _).get c hc⟩
   ·show (Bool.rec (motive := fun _ => A) _ _ (Nat.beq new.length 0) : A) = _
    rw [hne]
    show growNew s el _ _ k = _
    rw [growNew_el _ _ _ _ (by have : ([] : List V).length = 0 := rfl; omega) rfl]
   ·show s.nx.toNat < s.nx.succ.toNat
    rw [K.toNat_succ]; omega
  ·have hstate : ∀ k : V → S → A, appendN el 1 (.so a n 0 n 0) new.length new s k = k (.so a (n + new.length) 0 (n + new.length) 0) (setB s a (.row (l ++ new) (n + new.length) el true mn 0 0)) := by
    intro k
    show (Bool.rec (motive := fun _ => A) _ _ (Nat.beq new.length 0) : A) = _
    rw [hne]
    show fN (Nat.add n new.length) _ = _
    rw [fN_eq]
    show hget s a _ = _
    rw [hget_eq, h4]
    show fN (Nat.add 0 (Nat.mul n 1)) _ = _
    rw [fN_eq]
    show (Bool.rec (motive := fun _ => A) _ _ (andB (Nat.beq el el) true) : A) = _
    rw [show Nat.beq el el = true from Nat.beq_refl el]
    show (Bool.rec (motive := fun _ => A) _ _ (andB (Nat.beq n n) (Nat.ble (Nat.add (Nat.add 0 (Nat.mul n 1)) (Nat.mul new.length 1)) n)) : A) = _
    have e0 : Nat.add 0 (Nat.mul n 1) = n := by show 0 + n * 1 = n; omega
    rw [e0, show Nat.beq n n = true from Nat.beq_refl n, show Nat.ble (Nat.add n (Nat.mul new.length 1)) n = false by
     cases e : Nat.ble (Nat.add n (Nat.mul new.length 1)) n with
     | true => have := Nat.le_of_ble_eq_true e; have e2 : Nat.add n (Nat.mul new.length 1) = n + new.length * 1 := rfl; omega
     | false => rfl]
    show (Bool.rec (motive := fun _ => A) _ _ (Nat.ble (Nat.add n new.length) 1048576) : A) = _
    rw [show Nat.ble (Nat.add n new.length) 1048576 = true from Nat.ble_eq_true_of_le (by show n + new.length ≤ _; omega)]
    show appL l new _ = _
    rw [appL_eq, fN_eq, hset_eq]
    show k (.so a (n + new.length * 1) 0 (n + new.length) 0) ⟨Tr.set B.none (.row _ (n + new.length * 1) el true mn 0 0) a s.h, s.nx⟩ = _
    rw [Nat.mul_one]; rfl
   refine ⟨_, _, hstate, ⟨hb.nx, fun x hx => ?_⟩, .inr ⟨a, n + new.length, mn, rfl, h1, h2, by omega, ?_, by simp [h5]⟩, Nat.le_refl _, fun c hc hne => ?_⟩
   ·rw [setB_get, if_neg (fun e => by rw [e] at hx; omega)]; exact hb.get x hx
   ·rw [setB_get, if_pos rfl]
   ·rw [setB_get, if_neg (fun e => hne l n mn (by rw [e]; exact h4))]
theorem u8s_len (t : List Nat) : (u8s t).length = t.length := by simp [u8s]
theorem src_str {s : S} {l : List Nat} (c : Nat → List V → A) : srcCells 1 (.str l) s c = c l.length (l.map fun n : Nat => iv .u8 (n : Int)) := by
 show strCells l (fun cs => lenL l fun n => c n cs) = _
 rw [strCells_eq, lenL_eq]
 rfl
theorem src_one {s : S} (el : Nat) {x : V} (hx : x ≠ .bad) (c : Nat → List V → A) : srcCells 1 (.sl s.nx 0 0 1 1) (addB s (.row [x] 1 el false 0 0 0)) c = c 1 [x] := by
 show readCells _ s.nx 0 0 (Nat.mul 1 1) _ = _
 unfold readCells
 rw [hget_eq, addB_get]
 show dropL 0 [x] _ = _
 rw [dropL_eq]
 show takeK 1 [x] _ = _
 rw [takeK_eq _ _ _ (by intro y hy; simp at hy; subst hy; exact hx)]
 rfl
theorem Gw.appS {el : Nat} {b s : S} {v : V} {l : List V} (h : Gw el b s v l) (hb : Ext b s) (t : List Nat) (hlim : l.length + t.length ≤ 1048576) :
  ∃ v' s', (∀ k : V → S → A, xAppend el 1 v (.str t) s k = k v' s') ∧ Ext b s' ∧ Gw el b s' v' (l ++ u8s t) ∧ s.nx.toNat ≤ s'.nx.toNat ∧
   ∀ c, c.toNat < s.nx.toNat → (∀ l n mn, Tr.get B.none c s.h ≠ .row l n el true mn 0 0) → Tr.get B.none c s'.h = Tr.get B.none c s.h := by
 obtain ⟨v', s', h1, h2⟩ := h.append hb (u8s t) (by rw [u8s_len]; exact hlim)
 refine ⟨v', s', fun k => ?_, h2⟩
 show srcCells 1 (.str t) s _ = _
 rw [src_str]
 have := h1 k
 rwa [u8s_len] at this
theorem Gw.app1 {el : Nat} {b s : S} {v : V} {l : List V} (h : Gw el b s v l) (hb : Ext b s) {x : V} (hx : x ≠ .bad) (hlim : l.length + 1 ≤ 1048576) :
  ∃ v' s', (∀ k : V → S → A, xAppend el 1 v (.sl s.nx 0 0 1 1) (addB s (.row [x] 1 el false 0 0 0)) k = k v' s') ∧ Ext b s' ∧ Gw el b s' v' (l ++ [x]) ∧ s.nx.toNat ≤ s'.nx.toNat ∧
   ∀ c, c.toNat < s.nx.toNat → (∀ l n mn, Tr.get B.none c s.h ≠ .row l n el true mn 0 0) → Tr.get B.none c s'.h = Tr.get B.none c s.h := by
 have hE := ext_addB s (.row [x] 1 el false 0 0 0)
 obtain ⟨v', s', h1, h2, h3, h4, h5⟩ := (h.ext hE).append (hb.trans hE) [x] hlim
 refine ⟨v', s', fun k => ?_, h2, h3, Nat.le_trans hE.nx h4, fun c hc hn => ?_⟩
 ·show srcCells 1 (.sl s.nx 0 0 1 1) _ _ = _
  rw [src_one _ hx]
  exact h1 k
 ·rw [h5 c (Nat.lt_of_lt_of_le hc hE.nx) (by rw [hE.get c hc]; exact hn), hE.get c hc]
theorem dcN_le {b0 b1 b2 b3 n : Nat} (h : 0 < n) : 1 ≤ (dcN b0 b1 b2 b3 n).2 ∧ (dcN b0 b1 b2 b3 n).2 ≤ n := by
 unfold dcN
 (repeat' split) <;> exact ⟨by omega, by omega⟩
theorem dcL_le {l : List Nat} (h : l ≠ []) : 1 ≤ (dcL l).2 ∧ (dcL l).2 ≤ l.length := by
 rw [dcL_N]; exact dcN_le (List.length_pos_iff.2 h)
theorem dcL_small {c : Nat} {l : List Nat} (h : c < 128) : dcL (c :: l) = (c, 1) := by
 rw [dcL_N]; unfold dcN; rw [if_pos (by simpa using h)]; rfl
theorem dcL_max {l : List Nat} (h : Byts l) : (dcL l).1 ≤ 1114111 := by
 rw [dcL_N]
 have := h.at_ 0
 generalize l.getD 0 0 = b0 at *
 unfold dcN
 (repeat' split) <;> (show (_ : Nat) ≤ _) <;> dsimp only <;> omega
theorem okU_nil (n : Nat) : okU n [] = true := by cases n <;> rfl
theorem okU_fuel : ∀ (n m : Nat) (l : List Nat), l.length ≤ n → l.length ≤ m → okU n l = okU m l := by
 intro n
 induction n with
 | zero => intro m l h _; rw [List.length_eq_zero_iff.1 (Nat.le_zero.1 h), okU_nil, okU_nil]
 | succ n ih =>
  intro m l h1 h2
  by_cases hl : l = []
  ·subst hl; rw [okU_nil, okU_nil]
  ·have hd := dcL_le hl
   cases m with
   | zero => exact absurd (List.length_eq_zero_iff.1 (Nat.le_zero.1 h2)) hl
   | succ m =>
    unfold okU
    rw [if_neg hl, if_neg hl, ih m (l.drop (dcL l).2) (by rw [List.length_drop]; omega) (by rw [List.length_drop]; omega)]
theorem okU_step {l : List Nat} (hl : l ≠ []) : okU l.length l = if (dcL l).1 = 65533 ∧ (dcL l).2 ≤ 1 then false else okU (l.drop (dcL l).2).length (l.drop (dcL l).2) := by
 have hd := dcL_le hl
 obtain ⟨m, hm⟩ : ∃ m, l.length = m + 1 := ⟨l.length - 1, by omega⟩
 rw [hm]
 show (if l = [] then true else _) = _
 rw [if_neg hl, okU_fuel m _ (l.drop (dcL l).2) (by rw [List.length_drop]; omega) (Nat.le_refl _)]
theorem Byts.drop {l : List Nat} (h : Byts l) (n : Nat) : Byts (l.drop n) := fun x hx => h x (List.mem_of_mem_drop hx)
theorem next_nil {s : S} {a : Go.Ev.K} {p r : Nat} (hg : Tr.get B.none a s.h = .it [] p r) (k : V → S → A) : xNextS (.ptr a 0 0) s k = k (.ls 1 [.bool false]) s := by
 show hget s a _ = _
 rw [hget_eq, hg]
theorem next_cons {s : S} {a : Go.Ev.K} {p r : Nat} {l : List Nat} (hl : l ≠ []) (hg : Tr.get B.none a s.h = .it l p r) (k : V → S → A) :
  xNextS (.ptr a 0 0) s k = k (.ls 1 [.bool true, iv .i64 (p : Int), iv .i32 ((dcL l).1 : Int)]) (setB s a (.it (l.drop (dcL l).2) (p + (dcL l).2) r)) := by
 cases l with
 | nil => exact absurd rfl hl
 | cons c l =>
  show hget s a _ = _
  rw [hget_eq, hg]
  show (Bool.rec (motive := fun _ => A) (nextU a (dcL (c :: l)) (c :: l) p r s k) (fN (Nat.succ p) (fun p' => hset s a (.it l p' r) fun s => k (.ls 1 [.bool true, .nat .i64 p, .nat .i32 c]) s)) (Nat.blt c 128) : A) = _
  by_cases hc : c < 128
  ·rw [show Nat.blt c 128 = true by rw [Nat.blt_eq]; exact hc]
   show fN (Nat.succ p) _ = _
   rw [fN_eq, hset_eq, dcL_small hc]; rfl
  ·rw [show Nat.blt c 128 = false by
    cases e : Nat.blt c 128 with
    | true => rw [Nat.blt_eq] at e; exact absurd e hc
    | false => rfl]
   show nextU a (dcL (c :: l)) (c :: l) p r s k = _
   unfold nextU
   rw [fN_eq, fN_eq, hset_eq]; rfl
theorem range_s (l : List Nat) (s : S) (k : V → S → A) : xRangeS (.str l) s k = k (.ptr s.nx 0 0) (addB s (.it l 0 0)) := by
 show hnew s (.it l 0 0) (fun a s => k (.ptr a 0 0) s) = _
 rw [hnew_add]
theorem Piece_ok : Holds Tryz.prog K 82 := by
 rintro a s ⟨l, rfl, hB, hT⟩
 have hD := Rk_kept (L := noL) Dec_ok
 suffices h : ∃ s', (fnC pc0 82).run (Rk Tryz.prog K noL) [.str l] s = .ret (.ls 1 [iv .i32 ((decF l).1 : Nat), iv .i64 ((decF l).2 : Nat), .bool (decide ((decF l).1 = 65533 → 1 < (decF l).2))]) s' ∧ Ext s s' by
  obtain ⟨s', h1, h2⟩ := h
  exact ⟨_, s', fn_k h1, fun l' e => by cases e; exact ⟨h2, rfl⟩⟩
 generalize Rk Tryz.prog _ _ = r at hD ⊢
 obtain ⟨w, s', he, hp⟩ := hD [.str l] s ⟨l, rfl, hB, hT⟩
 obtain ⟨hE, rfl⟩ := hp _ rfl
 refine ⟨s', ?_, hE⟩
 generalize decF l = q at *
 by_cases h1 : q.1 = 65533
 ·have h1' : (q.1 : Int) = 65533 := by omega
  by_cases h2 : 1 < q.2
  ·have h2' : (1 : Int) < q.2 := by omega
   simp [allPiece, gp_sp, he, neq_ii, gtr_ii, nat_iv, h1, h2, h2']
  ·have h2' : ¬ (1 : Int) < q.2 := by omega
   simp [allPiece, gp_sp, he, neq_ii, gtr_ii, nat_iv, h1, h2, h2']
 ·have h1' : ¬ (q.1 : Int) = 65533 := by omega
  simp [allPiece, gp_sp, he, neq_ii, nat_iv, h1, h1']
theorem ext_2 (x y z : V) (c : V → A) : xExtract 2 (.ls 1 [x, y, z]) c = c z := rfl
def ltSplit (l : List Nat) (s : S) : Lt := ⟨fun tm s' => Ext s s' ∧ gp 0 tm = .str l ∧ gp 240 tm = .bad ∧ ∃ (a : Go.Ev.K) (p : Nat) (ls : List V), gp 10 tm = .ptr a 0 0 ∧ s.nx.toNat ≤ a.toNat ∧ a.toNat < s'.nx.toNat ∧ Tr.get B.none a s'.h = .it (l.drop p) p 0 ∧ p ≤ l.length ∧
  Gw 9 s s' (gp 2 tm) ls ∧ ls.length ≤ p ∧ okU l.length l = okU (l.drop p).length (l.drop p),
 fun _ _ a => LP 0 4 (iv .i64 3) (okU l.length l = true) (fun _ s' => Ext s s') a⟩
def itV (tm : T) (s : S) : Nat := match gp 10 tm with | .ptr a _ _ => (match Tr.get B.none a s.h with | .it l _ _ => l.length | _ => 0) | _ => 0
theorem itV_eq {tm : T} {s : S} {a : Go.Ev.K} {l : List Nat} {p r : Nat} (h : gp 10 tm = .ptr a 0 0) (hg : Tr.get B.none a s.h = .it l p r) : itV tm s = l.length := by
 simp only [itV, h, hg]
theorem ext_set {s s' : S} {a : Go.Ev.K} {b : B} (h : Ext s s') (ha : s.nx.toNat ≤ a.toNat) : Ext s (setB s' a b) :=
 ⟨h.nx, fun x hx => by rw [setB_get, if_neg (fun e => by rw [e] at hx; omega)]; exact h.get x hx⟩
theorem Gw.set {el : Nat} {b s : S} {v : V} {l : List V} (h : Gw el b s v l) (a : Go.Ev.K) (x : B) (hne : ∀ l n mn, Tr.get B.none a s.h ≠ .row l n el true mn 0 0) : Gw el b (setB s a x) v l := by
 rcases h with h | ⟨c, n, mn, rfl, h1, h2, h3, h4, h5⟩
 ·exact .inl h
 ·exact .inr ⟨c, n, mn, rfl, h1, h2, h3, by rw [setB_get, if_neg (fun e => hne l n mn (by rw [← e]; exact h4))]; exact h4, h5⟩
theorem loopSplit {l : List Nat} {s : S} (hB : Byts l) (hT : Tabs s) (h40 : l.length ≤ 40) : ∀ tm s', (ltSplit l s).pre tm s' → (ltSplit l s).post tm s' (cSplit_14.run (Rk Tryz.prog K fun _ => ltSplit l s) tm s') := by
 refine loop_k (L := fun _ => ltSplit l s) pcOk0.1 pcOk0.2 szSplit_14 itV (fun _ _ _ _ (h : LP _ _ _ _ _ _) => h.nb) ?_
 rintro tm s' ⟨hE, h0, h240, a, p, ls, h10, ha1, ha2, hg, hp, hG, hls, hok⟩ IH
 show LP _ _ _ _ _ (cSplit_14.run _ tm s')
 have hP := Rk_kept (L := fun _ => ltSplit l s) Piece_ok
 generalize Rk Tryz.prog _ _ = r at IH hP ⊢
 have hmu := itV_eq h10 hg
 by_cases hl : l.drop p = []
 ·have hn : ∀ k : V → S → A, xNextS (.ptr a 0 0) s' k = k (.ls 1 [.bool false]) s' := fun k => by rw [hl] at hg; exact next_nil hg k
  simp [lpSplit_14, allSplit, gp_sp, h10, hn]
  refine .inl ⟨by rw [hok, hl]; rfl, _, _, rfl, by simp [gp_sp, h240], hE⟩
 ·have hn := fun k => next_cons hl hg k
  have hd := dcL_le hl
  have hBd := hB.drop p
  have hmax := dcL_max hBd
  have hlen : (l.drop p).length = l.length - p := by rw [List.length_drop]
  have hE2 : Ext s (setB s' a (.it ((l.drop p).drop (dcL (l.drop p)).2) (p + (dcL (l.drop p)).2) 0)) := ext_set hE ha1
  have hG2 := hG.set a (.it ((l.drop p).drop (dcL (l.drop p)).2) (p + (dcL (l.drop p)).2) 0) (fun l n mn h => by rw [hg] at h; cases h)
  have hg2 : Tr.get B.none a (setB s' a (.it ((l.drop p).drop (dcL (l.drop p)).2) (p + (dcL (l.drop p)).2) 0)).h = .it ((l.drop p).drop (dcL (l.drop p)).2) (p + (dcL (l.drop p)).2) 0 := by rw [setB_get, if_pos rfl]
  have hnx2 : (setB s' a (.it ((l.drop p).drop (dcL (l.drop p)).2) (p + (dcL (l.drop p)).2) 0)).nx = s'.nx := rfl
  generalize hs2 : setB s' a (.it ((l.drop p).drop (dcL (l.drop p)).2) (p + (dcL (l.drop p)).2) 0) = s2 at hE2 hG2 hg2 hnx2
  obtain ⟨w, s3, he, hpp⟩ := hP [.str (l.drop p)] s2 ⟨_, rfl, hBd, hT.ext hE2⟩
  obtain ⟨hE3, rfl⟩ := hpp _ rfl
  rw [show decF (l.drop p) = dcL (l.drop p) by unfold decF; rw [if_neg hl]] at he
  have hsl : ∀ c : V → A, xSliceT (.str l) (some (iv .i64 (p : Int))) none c = c (.str (l.drop p)) := fun c => by
   rw [sliceT_s l (a := p) (b := l.length) (.inr ⟨.i64, rfl⟩) (.inl ⟨rfl, rfl⟩) (by omega) (Nat.le_refl _), List.take_of_length_le (by rw [List.length_drop]; exact Nat.le_refl _)]
  have hstep := okU_step hl
  clear hpp
  generalize dcL (l.drop p) = q at *
  have hE3' := hE2.trans hE3
  by_cases g : q.1 = 65533 ∧ q.2 ≤ 1
  ·have g1 : (q.1 : Int) = 65533 := by omega
   have g2 : ¬ 1 < q.2 := by omega
   have hxn : ∀ c : V → A, xUn .not (.bool false) c = c (.bool true) := fun c => rfl
   rw [if_pos g] at hstep
   simp [-List.drop_drop, lpSplit_14, allSplit, gp_sp, ext_2, h0, h10, hn, hs2, hsl, he, eql_ii, nat_iv, g.1, g2, hxn]
   exact .inr ⟨by rw [hok, hstep]; simp, _, _, rfl, by simp [gp_sp, h240], by simp [gp_sp], hE3'⟩
  ·rw [if_neg g] at hstep
   have hgr : Tr.get B.none a s3.h = _ := (hE3.get a (by rw [hnx2]; exact ha2)).trans hg2
   obtain ⟨v', s4, ha, hE4, hG4, hnx4, hfr⟩ := (hG2.ext hE3).app1 hE3' (x := .str ((l.drop p).take q.2)) (fun h => by cases h) (by omega)
   have hgr4 := hfr a (by have := hE3.nx; rw [hnx2] at this; omega) (fun l n mn h => by rw [hgr] at h; cases h)
   have hsl2 : ∀ c : V → A, xSliceT (.str l) (some (iv .i64 (p : Int))) (some (iv .i64 ((p : Int) + q.2))) c = c (.str ((l.drop p).take q.2)) := fun c => by
    rw [sliceT_s l (a := p) (b := p + q.2) (.inr ⟨.i64, rfl⟩) (.inr ⟨.i64, by simp⟩) (by omega) (by omega), Nat.add_sub_cancel_left]
   have hw : IntKind.i64.wrap ((p : Int) + q.2) = (p : Int) + q.2 := wrap64 (by omega) (by omega)
   have hcell : ∀ (x : List Nat) (c : List V → A), cellsC 1 (.str x) c = c [.str x] := fun x c => rfl
   have hupd : ∀ (x : V) (c : List V → A), updL [x] 0 [.str []] c = c [x] := fun x c => rfl
   have hrep : ∀ (c : List V → A), repL [(V.str [])] 1 c = c [.str []] := fun c => rfl
   have hpost : ∀ (t : T), gp 0 t = .str l → gp 10 t = .ptr a 0 0 → gp 240 t = .bad → gp 2 t = v' → (ltSplit l s).pre t s4 ∧ itV t s4 < itV tm s' := fun t t0 t1 t2 t3 => by
    refine ⟨⟨hE4, t0, t2, a, p + q.2, _, t1, ha1, by have := hE3.nx; rw [hnx2] at this; omega, ?_, by omega, by rw [t3]; exact hG4, by simp; omega, ?_⟩, ?_⟩
    ·rw [hgr4, hgr, List.drop_drop]
    ·rw [hok, hstep, List.drop_drop]
    ·rw [itV_eq t1 (hgr4.trans hgr), hmu, List.length_drop]; omega
   have hxn : ∀ b c, xUn .not (.bool b) c = c (.bool !b) := fun b c => by cases b <;> rfl
   by_cases g1 : q.1 = 65533
   ·have g2 : 1 < q.2 := by omega
    simp [-List.drop_drop, lpSplit_14, allSplit, gp_sp, ext_2, h0, h10, hn, hs2, hsl, he, eql_ii, add_ii, nat_iv, g1, g2, hxn, hw, hsl2, hcell, hupd, hrep, newRow_add, ha]
    have := hpost
    refine IH _ _ (hpost _ ?_ ?_ ?_ ?_).2 (hpost _ ?_ ?_ ?_ ?_).1 <;> simp [gp_sp, h0, h10, h240]
   ·have g1' : ¬ (q.1 : Int) = 65533 := by omega
    simp [-List.drop_drop, lpSplit_14, allSplit, gp_sp, ext_2, h0, h10, hn, hs2, hsl, he, eql_ii, add_ii, nat_iv, g1, g1', hw, hsl2, hcell, hupd, hrep, newRow_add, ha]
    refine IH _ _ (hpost _ ?_ ?_ ?_ ?_).2 (hpost _ ?_ ?_ ?_ ?_).1 <;> simp [gp_sp, h0, h10, h240]
theorem Split_ok : Holds Tryz.prog K 61 := by
 rintro a s ⟨l, rfl, hB, hT, h40⟩
 have hL := loopSplit hB hT h40
 suffices h : ∃ y z s', (fnC pc0 61).run (Rk Tryz.prog K fun _ => ltSplit l s) [.str l] s = .ret (.ls 1 [y, z, iv .i64 (if okU l.length l then 0 else 3)]) s' ∧ Ext s s' by
  obtain ⟨y, z, s', h1, h2⟩ := h
  exact ⟨_, s', fn_k h1, fun l' e => by cases e; exact ⟨h2, y, z, rfl⟩⟩
 generalize Rk Tryz.prog _ _ = r at hL ⊢
 have hgt : ¬ (16384 : Int) < l.length := by omega
 simp [allSplit, gp_sp, lenT_s, gtr_ii, nat_iv, hgt, range_s]
 generalize hA : cSplit_14.run r _ _ = x
 have hG : Gw 9 s (addB s (.it l 0 0)) (.nil 1) [] := .inl ⟨rfl, rfl⟩
 have := hA ▸ hL _ _ ⟨ext_addB s _, by simp [gp_sp], by simp [gp_sp], s.nx, 0, [], by simp [gp_sp], Nat.le_refl _, (by show s.nx.toNat < s.nx.succ.toNat; rw [K.toNat_succ]; omega), by rw [addB_get]; rfl, Nat.zero_le _, by simp [gp_sp]; exact hG, Nat.le_refl _, rfl⟩
 rcases this with ⟨hg, tm', s', rfl, k1, hE⟩ | ⟨hg, tm', s', rfl, k1, k2, hE⟩
 ·exact ⟨gp 2 tm', iv .i64 0, s', by simp [blockA_ext, gp_sp, k1, hg], hE⟩
 ·exact ⟨gp 2 tm', gp 3 tm', s', by simp [k1, k2, hg], hE⟩
theorem eqlS_e (cst : Bool) (l : List Nat) (c : V → A) : xBin ⟨8, []⟩ cst .eql (.str l) (.str []) c = c (.bool (decide (l = []))) := by
 cases l <;> rfl
theorem IsName_ok : Holds Tryz.prog K 44 := by
 rintro a s ⟨l, rfl, hB, hT⟩
 have hS := Rk_kept (L := noL) Split_ok
 suffices h : ∃ s', (fnC pc0 44).run (Rk Tryz.prog K noL) [.str l] s = .ret (.bool (isNm l)) s' ∧ Ext s s' by
  obtain ⟨s', h1, h2⟩ := h
  exact ⟨_, s', fn_k h1, fun l' e => by cases e; exact ⟨h2, rfl⟩⟩
 generalize Rk Tryz.prog _ _ = r at hS ⊢
 by_cases h1 : l = []
 ·subst h1
  exact ⟨s, by simp [allIsName, gp_sp, eqlS_e, nat_iv, isNm], Ext.refl _⟩
 by_cases h2 : 40 < l.length
 ·have h2' : (40 : Int) < l.length := by omega
  refine ⟨s, ?_, Ext.refl _⟩
  rw [show isNm l = false by unfold isNm; rw [decide_eq_false (by omega)]; rfl]
  simp [allIsName, gp_sp, eqlS_e, lenT_s, gtr_ii, nat_iv, h1, h2']
 ·have h2' : ¬ (40 : Int) < l.length := by omega
  obtain ⟨w, s', he, hp⟩ := hS [.str l] s ⟨l, rfl, hB, hT, by omega⟩
  obtain ⟨hE, y, z, rfl⟩ := hp _ rfl
  refine ⟨s', ?_, hE⟩
  rw [show isNm l = okU l.length l by unfold isNm; rw [decide_eq_true ⟨h1, by omega⟩]; rfl]
  cases hk : okU l.length l <;> rw [hk] at he <;> simp [allIsName, gp_sp, eqlS_e, lenT_s, gtr_ii, eql_ii, ext_2, nat_iv, h1, h2', he]
theorem Strs.at_ {s : S} {v : V} (h : Strs s v) {i : Nat} (hi : i < lenV v) : ∃ p, (∀ k c, xIdxAddrS 1 v (iv k i) c = c p) ∧ ∀ k : V → S → A, xLoad false 1 p s k = k (.str (strL (cellV s v i))) s := by
 obtain ⟨p, h1, h2⟩ := h.1.idx (i := (i : Int)) (by omega) (by omega)
 refine ⟨p, h1, fun k => ?_⟩
 have e := (h.2.2 i hi).1
 have e' : cellV s v ((i : Int).toNat * 1 + 0) = .str (strL (cellV s v i)) := by simp; exact e
 rw [h2.load1 (by omega) (by rw [e']; exact fun h => by cases h), e']
theorem Strs.ext {s s' : S} {v : V} (h : Strs s v) (e : Ext s s') : Strs s' v ∧ names s' v = names s v := by
 obtain ⟨h1, h2⟩ := h.1.ext e
 refine ⟨⟨h1, h.2.1, fun j hj => by rw [h2]; exact h.2.2 j hj⟩, ?_⟩
 unfold names
 exact List.map_congr_left fun j _ => by rw [h2]
theorem names_len {s : S} {v : V} : (names s v).length = lenV v := by simp [names]
theorem names_get {s : S} {v : V} {i : Nat} (h : i < lenV v) : (names s v)[i]? = some (strL (cellV s v i)) := by simp [names, h]
def ltAllS (v : V) (s : S) : Lt := ⟨fun tm s' => Ext s s' ∧ gp 7 tm = v ∧ gp 1 tm = .fn (.func 44) [] [] ∧ gp 8 tm = iv .i64 (lenV v) ∧ gp 240 tm = .bad ∧ ∃ i : Nat, i ≤ lenV v ∧ gp 9 tm = iv .i64 i ∧ ∀ j, j < i → isNm (strL (cellV s v j)) = true,
 fun _ _ a => LP 0 4 (.bool false) (∀ j, j < lenV v → isNm (strL (cellV s v j)) = true) (fun _ s' => Ext s s') a⟩
theorem callV_fn0 (r : R) (g : Nat) (x : V) (tm : T) (s : S) (k : V → S → A) : callV r (.fn (.func g) [] []) [x] tm s k = foldF (r.call g [x] s) k := callV_fn r g [] [] [x] tm s k
theorem wrapS {i n : Nat} (h : i < n) (hn : n ≤ 9223372036854775807) : IntKind.i64.wrap ((i : Int) + 1) = (i : Int) + 1 := wrap64 (by omega) (by omega)
theorem loopAllS {v : V} {s : S} (hv : Strs s v) (hT : Tabs s) : ∀ tm s', (ltAllS v s).pre tm s' → (ltAllS v s).post tm s' (cAllS_6.run (Rk Tryz.prog K fun _ => ltAllS v s) tm s') := by
 refine loop_k (L := fun _ => ltAllS v s) pcOk0.1 pcOk0.2 szAllS_6 (fun tm _ => lenV v - (toI (gp 9 tm)).toNat) (fun _ _ _ _ (h : LP _ _ _ _ _ _) => h.nb) ?_
 rintro tm s' ⟨hE, h7, h1, h8, h240, i, hi, h9, hj⟩ IH
 show LP _ _ _ _ _ (cAllS_6.run _ tm s')
 have hN := Rk_kept (L := fun _ => ltAllS v s) IsName_ok
 generalize Rk Tryz.prog _ _ = r at IH hN ⊢
 by_cases hlt : i < lenV v
 ·have hw := wrapS hlt hv.2.1
  obtain ⟨hv', hn'⟩ := hv.ext hE
  obtain ⟨p, hp, hP⟩ := hv'.at_ hlt
  have hc : cellV s' v i = cellV s v i := (hv.1.ext hE).2 i
  rw [hc] at hP
  obtain ⟨w, s2, he, hpp⟩ := hN [.str (strL (cellV s v i))] s' ⟨_, rfl, (hv.2.2 i hlt).2, hT.ext hE⟩
  obtain ⟨hE2, rfl⟩ := hpp _ rfl
  have hxn : ∀ b c, xUn .not (.bool b) c = c (.bool !b) := fun b c => by cases b <;> rfl
  by_cases g : isNm (strL (cellV s v i)) = true
  ·rw [g] at he
   simp [lpAllS_6, allAllS, gp_sp, h7, h1, h8, h9, lss_ii, add_ii, hw, hp, hP, callV_fn0, he, hxn, nat_iv, hlt]
   refine IH _ _ (mu_lt h9 (by simp [gp_sp]) hlt) ⟨hE.trans hE2, ?_, ?_, ?_, ?_, i + 1, by omega, ?_, fun j h => ?_⟩
   ·simp [gp_sp, h7]
   ·simp [gp_sp, h1]
   ·simp [gp_sp, h8]
   ·simp [gp_sp, h240]
   ·simp [gp_sp]
   ·rcases Nat.lt_or_ge j i with h' | h'
    ·exact hj j h'
    ·rw [show j = i by omega]; exact g
  ·rw [show isNm (strL (cellV s v i)) = false by simpa using g] at he
   simp [lpAllS_6, allAllS, gp_sp, h7, h1, h8, h9, lss_ii, hp, hP, callV_fn0, he, hxn, nat_iv, hlt]
   exact .inr ⟨fun h => g (h i hlt), _, _, rfl, by simp [gp_sp, h240], by simp [gp_sp], hE.trans hE2⟩
 ·simp [lpAllS_6, allAllS, gp_sp, h8, h9, lss_ii, nat_iv, hlt]
  exact .inl ⟨fun j h => hj j (by omega), _, _, rfl, by simp [gp_sp, h240], hE⟩
theorem all_names {s : S} {v : V} {f : List Nat → Bool} : (names s v).all f = true ↔ ∀ j, j < lenV v → f (strL (cellV s v j)) = true := by
 simp [names, List.all_eq_true]
theorem AllS_ok : Holds Tryz.prog K 43 := by
 rintro a s ⟨v, rfl, hv, hT⟩
 have hL := loopAllS hv hT
 suffices h : ∃ s', (fnC pc0 43).run (Rk Tryz.prog K fun _ => ltAllS v s) [v, .fn (.func 44) [] []] s = .ret (.bool ((names s v).all isNm)) s' ∧ Ext s s' by
  obtain ⟨s', h1, h2⟩ := h
  exact ⟨_, s', fn_k h1, fun v' f e => by cases e; exact ⟨h2, rfl⟩⟩
 generalize Rk Tryz.prog _ _ = r at hL ⊢
 simp [allAllS, gp_sp, hv.1.len, nat_iv]
 generalize hA : cAllS_6.run r _ _ = x
 have := hA ▸ hL _ _ ⟨Ext.refl _, by simp [gp_sp], by simp [gp_sp], by simp [gp_sp], by simp [gp_sp], 0, by omega, by simp [gp_sp], fun _ h => by omega⟩
 rcases this with ⟨hg, tm', s', rfl, k1, hE⟩ | ⟨hg, tm', s', rfl, k1, k2, hE⟩
 ·rw [all_names.2 hg]; exact ⟨s', by simp [blockA_ext, gp_sp, k1], hE⟩
 ·rw [show (names s v).all isNm = false by cases h : (names s v).all isNm with | true => exact absurd (all_names.1 h) hg | false => rfl]
  exact ⟨s', by simp [k1, k2], hE⟩
theorem eqS_eq (a b : List Nat) : eqS a b = decide (a = b) := by
 rw [Bool.eq_iff_iff, decide_eq_true_eq]; exact eqS_iff a b
theorem eqV_ss (cst : Bool) (a b : List Nat) : eqV ⟨8, []⟩ cst (.str a) (.str b) = some (decide (a = b)) := by
 show some (eqS a b) = _
 rw [eqS_eq]
def KS (es : List ME) : Prop := ∀ e ∈ es, e.key = .str (strL e.key)
def ks (es : List ME) : List (List Nat) := es.map fun e => strL e.key
theorem updE_s (z : List Nat) (val : V) (ck : Nat) : ∀ (es : List ME), KS es → ∃ b es', (∀ c : Bool → List ME → A, updE ⟨8, []⟩ (.str z) val ck es c = c b es') ∧ KS es' ∧ ks es' = if z ∈ ks es then ks es else ks es ++ [z]
 | [], _ => ⟨true, [⟨.str z, val, ck⟩], fun _ => rfl, fun e he => by simp at he; subst he; rfl, rfl⟩
 | e :: l, h => by
  obtain ⟨b, es', h1, h2, h3⟩ := updE_s z val ck l (fun x hx => h x (by simp [hx]))
  have hu : ∀ c : Bool → List ME → A, updE ⟨8, []⟩ (.str z) val ck (e :: l) c = (match eqV ⟨8, []⟩ false (.str z) e.key with | some true => c false (⟨.str z, val, e.born⟩ :: l) | some false => updE ⟨8, []⟩ (.str z) val ck l (fun b l => c b (e :: l)) | none => .bad 81) := fun _ => rfl
  have hks : ks (e :: l) = strL e.key :: ks l := rfl
  by_cases g : z = strL e.key
  ·refine ⟨false, ⟨.str z, val, e.born⟩ :: l, fun c => by rw [hu, h e (by simp), eqV_ss, decide_eq_true g], ?_, ?_⟩
   ·intro x hx
    simp at hx
    rcases hx with rfl | hx
    ·rfl
    ·exact h x (by simp [hx])
   ·rw [hks, if_pos (by simp [g])]
    show z :: ks l = _
    rw [g]
  ·refine ⟨b, e :: es', fun c => by rw [hu, h e (by simp), eqV_ss, decide_eq_false g]; exact h1 _, ?_, ?_⟩
   ·intro x hx
    simp at hx
    rcases hx with rfl | hx
    ·exact h _ (by simp)
    ·exact h2 x hx
   ·rw [hks]
    show strL e.key :: ks es' = _
    rw [h3]
    by_cases g' : z ∈ ks l
    ·rw [if_pos g', if_pos (by simp [g'])]
    ·rw [if_neg g', if_neg (by simp [g', g])]; rfl
theorem mapUpd_s {s : S} {a : Go.Ev.K} {es : List ME} {ck : Nat} (hg : Tr.get B.none a s.h = .map es ck) (hk : KS es) (z : List Nat) (val : V) :
  ∃ es' ck', (∀ k : V → S → A, xMapUpd ⟨8, []⟩ (.ref 0 a) (.str z) val s k = k Go.Ev.undef (setB s a (.map es' ck'))) ∧ KS es' ∧ ks es' = if z ∈ ks es then ks es else ks es ++ [z] := by
 obtain ⟨b, es', h1, h2, h3⟩ := updE_s z val ck es hk
 refine ⟨es', Bool.rec (motive := fun _ => Nat) ck (Nat.succ ck) b, fun k => ?_, h2, h3⟩
 show hget s a _ = _
 rw [hget_eq, hg]
 show updE ⟨8, []⟩ (.str z) val ck es _ = _
 rw [h1, fN_eq, hset_eq]; rfl
theorem ks_len (es : List ME) : (ks es).length = es.length := by simp [ks]
def NumP (v : V) (s : S) (i : Nat) (m : V) (s' : S) : Prop := ∃ (b : Go.Ev.K) (es : List ME) (ck : Nat), m = .ref 0 b ∧ s.nx.toNat ≤ b.toNat ∧ b.toNat < s'.nx.toNat ∧ Tr.get B.none b s'.h = .map es ck ∧ KS es ∧ es.length ≤ i ∧ (es.length = i ↔ ((names s v).take i).Nodup) ∧ ∀ x, x ∈ ks es ↔ x ∈ (names s v).take i
theorem NumP.step {v m : V} {s s' : S} {i : Nat} (h : NumP v s i m s') (hi : i < lenV v) (val : V) : ∃ s'', (∀ k : V → S → A, xMapUpd ⟨8, []⟩ m (.str (strL (cellV s v i))) val s' k = k Go.Ev.undef s'') ∧ NumP v s (i + 1) m s'' ∧ (Ext s s' → Ext s s'') := by
 obtain ⟨b, es, ck, rfl, h1, h2, h3, h4, h5, h6, h7⟩ := h
 obtain ⟨es', ck', e1, e2, e3⟩ := mapUpd_s h3 h4 (strL (cellV s v i)) val
 have ht : (names s v).take (i + 1) = (names s v).take i ++ [strL (cellV s v i)] := by
  have hlt : i < (names s v).length := by rw [names_len]; exact hi
  rw [List.take_succ_eq_append_getElem hlt]
  have := names_get (s := s) hi
  rw [List.getElem?_eq_getElem hlt] at this
  rw [Option.some.inj this]
 refine ⟨_, e1, ⟨b, es', ck', rfl, h1, h2, by rw [setB_get, if_pos rfl], e2, ?_, ?_, fun x => ?_⟩, fun hE => ext_set hE h1⟩
 ·rw [← ks_len, e3]; split <;> simp [ks_len] <;> omega
 ·rw [← ks_len, e3, ht, List.nodup_append]
  by_cases g : strL (cellV s v i) ∈ ks es
  ·rw [if_pos g, ks_len]
   exact ⟨fun h => by omega, fun h => absurd rfl (h.2.2 _ ((h7 _).1 g) _ (by simp))⟩
  ·rw [if_neg g]
   simp only [List.length_append, ks_len, List.length_cons, List.length_nil]
   refine ⟨fun h => ⟨h6.1 (by omega), by simp, fun x hx y hy => ?_⟩, fun h => by have := h6.2 h.1; omega⟩
   simp at hy
   subst hy
   exact fun e => g ((h7 _).2 (e ▸ hx))
 ·rw [e3, ht]
  by_cases g : strL (cellV s v i) ∈ ks es
  ·rw [if_pos g, h7]
   simp
   rintro rfl
   exact (h7 _).1 g
  ·rw [if_neg g]
   simp [h7]
def ltNumbers (v : V) (s : S) : Lt := ⟨fun tm s' => Ext s s' ∧ gp 6 tm = v ∧ gp 7 tm = iv .i64 (lenV v) ∧ gp 240 tm = .bad ∧ ∃ i : Nat, i ≤ lenV v ∧ gp 8 tm = iv .i64 i ∧ NumP v s i (gp 3 tm) s',
 fun _ _ a => ∃ tm' s', a = .ext 0 tm' s' ∧ gp 240 tm' = .bad ∧ Ext s s' ∧ NumP v s (lenV v) (gp 3 tm') s'⟩
theorem loopNumbers {v : V} {s : S} (hv : Strs s v) : ∀ tm s', (ltNumbers v s).pre tm s' → (ltNumbers v s).post tm s' (cNumbers_8.run (Rk Tryz.prog K fun _ => ltNumbers v s) tm s') := by
 refine loop_k (L := fun _ => ltNumbers v s) pcOk0.1 pcOk0.2 szNumbers_8 (fun tm _ => lenV v - (toI (gp 8 tm)).toNat) (fun _ _ _ _ h => by obtain ⟨_, _, rfl, _⟩ := h; exact fun h => h) ?_
 rintro tm s' ⟨hE, h6, h7, h240, i, hi, h8, hN⟩ IH
 show ∃ tm'' s'', cNumbers_8.run _ tm s' = .ext 0 tm'' s'' ∧ _
 generalize Rk Tryz.prog _ _ = r at IH ⊢
 by_cases hlt : i < lenV v
 ·have hw := wrapS hlt hv.2.1
  obtain ⟨hv', hn'⟩ := hv.ext hE
  obtain ⟨p, hp, hP⟩ := hv'.at_ hlt
  have hc : cellV s' v i = cellV s v i := (hv.1.ext hE).2 i
  rw [hc] at hP
  obtain ⟨s2, hu, hN2, hE2⟩ := hN.step hlt (iv .i64 ((i : Int) + 1))
  generalize h3 : gp 3 tm = m at *
  simp [lpNumbers_8, allNumbers, gp_sp, h3, h6, h7, h8, lss_ii, add_ii, hw, hp, hP, hu, nat_iv, hlt]
  refine IH _ _ (mu_lt h8 (by simp [gp_sp]) hlt) ⟨hE2 hE, ?_, ?_, ?_, i + 1, by omega, ?_, ?_⟩
  ·simp [gp_sp, h6]
  ·simp [gp_sp, h7]
  ·simp [gp_sp, h240]
  ·simp [gp_sp]
  ·simp [gp_sp, h3]; exact hN2
 ·simp [lpNumbers_8, allNumbers, gp_sp, h7, h8, lss_ii, nat_iv, hlt]
  rw [show i = lenV v by omega] at hN
  exact ⟨_, _, ⟨rfl, rfl⟩, by simp [gp_sp, h240], hE, by simp [gp_sp]; exact hN⟩
theorem makeMap_i (n : Nat) (s : S) (k : V → S → A) : xMakeMap (iv .i64 (n : Int)) s k = k (.ref 0 s.nx) (addB s (.map [] 0)) := by
 show hnew s (.map [] 0) (fun a s => k (.ref 0 a) s) = _
 rw [hnew_add]
theorem Numbers_ok : Holds Tryz.prog K 45 := by
 rintro a s ⟨v, rfl, hv⟩
 have hL := loopNumbers hv
 suffices h : ∃ m s', (fnC pc0 45).run (Rk Tryz.prog K fun _ => ltNumbers v s) [v] s = .ret m s' ∧ Ext s s' ∧ NumP v s (lenV v) m s' by
  obtain ⟨m, s', h1, h2, b, es, ck, rfl, g1, g2, g3, g4, g5, g6, g7⟩ := h
  rw [List.take_of_length_le (by rw [names_len]; exact Nat.le_refl _)] at g6
  exact ⟨_, s', fn_k h1, fun v' e => by cases e; exact ⟨h2, b, es, ck, rfl, g3, g5, g6⟩⟩
 generalize Rk Tryz.prog _ _ = r at hL ⊢
 simp [allNumbers, gp_sp, hv.1.len, nat_iv, makeMap_i]
 generalize hA : cNumbers_8.run r _ _ = x
 have := hA ▸ hL _ _ ⟨ext_addB s (.map [] 0), by simp [gp_sp], by simp [gp_sp], by simp [gp_sp], 0, by omega, by simp [gp_sp], by
  simp [gp_sp]
  exact ⟨s.nx, [], 0, rfl, Nat.le_refl _, (by show s.nx.toNat < s.nx.succ.toNat; rw [K.toNat_succ]; omega), by rw [addB_get], (fun e he => by cases he), Nat.le_refl _, by simp, by simp [ks]⟩⟩
 obtain ⟨tm', s', rfl, k1, hE, hN⟩ := this
 exact ⟨gp 3 tm', s', by simp [blockA_ext, gp_sp, k1], hE, hN⟩
theorem lenM_m {s : S} {a : Go.Ev.K} {es : List ME} {ck : Nat} (hg : Tr.get B.none a s.h = .map es ck) (c : V → A) : xLenM (.ref 0 a) s c = c (iv .i64 (es.length : Int)) := by
 show hget s a _ = _
 rw [hget_eq, hg]
 show lenL es (fun n => c (.nat .i64 n)) = _
 rw [lenL_eq]; rfl
open Classical in
theorem SValid_ok : Holds Tryz.prog K 16 := by
 rintro a s ⟨v, rfl, hv, hT⟩
 have hA := Rk_kept (L := noL) AllS_ok
 have hN := Rk_kept (L := noL) Numbers_ok
 suffices h : ∃ s', (fnC pc0 16).run (Rk Tryz.prog K noL) [v] s = .ret (.bool (decide (okT (names s v)))) s' ∧ Ext s s' by
  obtain ⟨s', h1, h2⟩ := h
  exact ⟨_, s', fn_k h1, fun v' e => by cases e; exact ⟨h2, rfl⟩⟩
 generalize Rk Tryz.prog _ _ = r at hA hN ⊢
 by_cases g1 : lenV v ≤ 500
 ·have g1' : (lenV v : Int) ≤ 500 := by omega
  obtain ⟨w, s1, e1, hp⟩ := hA [v, .fn (.func 44) [] []] s ⟨v, rfl, hv, hT⟩
  obtain ⟨hE1, rfl⟩ := hp _ _ rfl
  by_cases g2 : (names s v).all isNm = true
  ·rw [g2] at e1
   obtain ⟨hv1, hn1⟩ := hv.ext hE1
   obtain ⟨w, s2, e2, hp⟩ := hN [v] s1 ⟨v, rfl, hv1⟩
   obtain ⟨hE2, b, es, ck, rfl, hg, hle, hnd⟩ := hp _ rfl
   rw [hn1] at hnd
   refine ⟨s2, ?_, hE1.trans hE2⟩
   have hk : okT (names s v) ↔ ((es.length : Int) = lenV v) := by
    unfold okT
    rw [names_len, ← hnd]
    exact ⟨fun h => by have := h.2.2; omega, fun h => ⟨g1, g2, by omega⟩⟩
   rw [show decide (okT (names s v)) = decide ((es.length : Int) = lenV v) by rw [decide_eq_decide]; exact hk]
   simp [allSValid, gp_sp, hv.1.len, leq_ii, eql_ii, nat_iv, g1', e1, e2, lenM_m hg]
  ·refine ⟨s1, ?_, hE1⟩
   rw [show (names s v).all isNm = false by simpa using g2] at e1
   rw [decide_eq_false (fun h => g2 h.2.1)]
   simp [allSValid, gp_sp, hv.1.len, leq_ii, nat_iv, g1', e1]
 ·have g1' : ¬ (lenV v : Int) ≤ 500 := by omega
  refine ⟨s, ?_, Ext.refl _⟩
  rw [decide_eq_false (fun h => g1 (by have := h.1; rwa [names_len] at this))]
  simp [allSValid, gp_sp, hv.1.len, leq_ii, nat_iv, g1']
theorem Gw.ne {el : Nat} {b s : S} {v : V} {l : List V} (h : Gw el b s v l) : v ≠ .bad := by
 rcases h with ⟨rfl, _⟩ | ⟨a, n, mn, rfl, _⟩ <;> exact fun h => by cases h
theorem Gw.cell {el : Nat} {b s : S} {v : V} {l : List V} (h : Gw el b s v l) (c : List V → A) : cellsC 1 v c = c [v] := by
 rcases h with ⟨rfl, _⟩ | ⟨a, n, mn, rfl, _⟩ <;> rfl
theorem toUns {s : S} {a : Go.Ev.K} {l : List V} {n el : Nat} (hg : Tr.get B.none a s.h = .row l n el false 0 0 0) (hn : 0 < n) (k : V → S → A) : xToUnsafe (.ptr a 0 0) s k = k (.ptr a 0 0) s := by
 show hget s a _ = _
 rw [hget_eq, hg]
 show (Bool.rec (motive := fun _ => A) (.bad 212) (k (.ptr a 0 0) s) (rdOk n false 0 0 (Nat.succ 0)) : A) = _
 rw [show rdOk n false 0 0 (Nat.succ 0) = true from rdOk_or.2 (.inr ⟨rfl, hn⟩)]
theorem ofUns {s : S} {a : Go.Ev.K} {l : List V} (hg : Tr.get B.none a s.h = .row l 2 52 false 0 0 0) (k : V → S → A) : xOfUnsafe 52 2 (.ptr a 0 0) s k = k (.ptr a 0 0) s := by
 show hget s a _ = _
 rw [hget_eq, hg]
 rfl
theorem ext0 (x : V) (s : S) (k : V → S → A) : xExt 0 [x] s k = k x s := rfl
theorem neq_ptr (cst : Bool) (a : Go.Ev.K) (c : V → A) : xBin ⟨1, []⟩ cst .neq (.ptr a 0 0) (.ptr a 0 0) c = c (.bool false) := by
 show eqRes ⟨1, []⟩ cst true (.ptr a 0 0) (.ptr a 0 0) c = _
 unfold eqRes
 have : eqV ⟨1, []⟩ cst (.ptr a 0 0) (.ptr a 0 0) = some true := by
  show (Bool.rec (motive := fun _ => Option Bool) none (some (Nat.beq 0 0)) (andB (K.beq a a) (Nat.beq 0 0)) : Option Bool) = _
  rw [kbeq_self]; rfl
 rw [this]; rfl
theorem Bld.set {b s : S} {p : V} {a : Go.Ev.K} {c0 buf c1 buf' : V} {w' : List Nat} (h1 : b.nx.toNat ≤ a.toNat) (h2 : a.toNat < s.nx.toNat) (hg : Tr.get B.none a s.h = .row [c0, buf] 2 52 false 0 0 0) (hp : p = .ptr a 0 0) (hc : c1 = .nil 0 ∨ c1 = p) (hG : Gw 5 b s buf' (u8s w')) (hE : Ext b s) :
  Bld b (setB s a (.row [c1, buf'] 2 52 false 0 0 0)) p w' ∧ Ext b (setB s a (.row [c1, buf'] 2 52 false 0 0 0)) :=
 ⟨⟨a, c1, buf', hp, h1, h2, by rw [setB_get, if_pos rfl], hc, hG.set a _ (fun l n mn h => by rw [hg] at h; cases h)⟩, ext_set hE h1⟩
theorem BCheck_ok : Holds Tryz.prog K 49 := by
 rintro x s ⟨b0, p, w0, rfl, hBd, hE⟩
 suffices h : ∀ b w, Bld b s p w → Ext b s → ∃ s', (fnC pc0 49).run (Rk Tryz.prog K noL) [p] s = .ret (.ls 1 []) s' ∧ (Bld b s' p w ∧ Ext b s') ∧ FrB s s' ∧ s.nx.toNat ≤ s'.nx.toNat by
  obtain ⟨s', h1, h2⟩ := h b0 w0 hBd hE
  refine ⟨_, s', fn_k h1, fun b p w e hb he => ?_⟩
  cases e
  obtain ⟨s2, h3, h4⟩ := h b w hb he
  cases (F.ret.inj (h1.symm.trans h3)).2
  exact h4
 clear hBd hE b0 w0
 intro b w hBd hE
 generalize Rk Tryz.prog _ _ = r
 obtain ⟨a, c0, buf, rfl, h1, h2, hg, hc, hG⟩ := hBd
 rcases hc with rfl | rfl
 ·have hl := load_at hg 0 rfl (by omega) (fun h => by cases h)
  have hs := fun k => store_at hg 0 (.ptr a 0 0) (cellsC_ptr a 0 0) (by omega) k
  have hu : upd [V.ptr a 0 0] 0 [V.nil 0, buf] = [.ptr a 0 0, buf] := rfl
  rw [hu] at hs
  have hl' : ∀ k : V → S → A, xLoad false 1 (.ptr a 0 0) s k = k (.nil 0) s := hl
  refine ⟨setB s a (.row [.ptr a 0 0, buf] 2 52 false 0 0 0), ?_, Bld.set (p := .ptr a 0 0) h1 h2 hg rfl (.inr rfl) hG hE, fun c _ _ h => by rw [setB_get, if_neg (fun e => h _ (by rw [e]; exact hg))], Nat.le_refl _⟩
  simp [allBCheck, gp_sp, nilCheck_ptr, field_ptr, hl', eql_nil_nil, toUns hg, ext0, ofUns hg, hs]
 ·have hl := load_at hg 0 rfl (by omega) (fun h => by cases h)
  have hl' : ∀ k : V → S → A, xLoad false 1 (.ptr a 0 0) s k = k (.ptr a 0 0) s := hl
  refine ⟨s, ?_, ⟨⟨a, _, buf, rfl, h1, h2, hg, .inr rfl, hG⟩, hE⟩, fun _ _ _ _ => rfl, Nat.le_refl _⟩
  simp [allBCheck, gp_sp, nilCheck_ptr, field_ptr, hl', eql_ptr_nil, neq_ptr]
theorem BWrite_ok : Holds Tryz.prog K 20 := by
 rintro x s ⟨b0, p, w0, l, rfl, hBd, hE, hlim⟩
 have hC := Rk_kept (L := noL) BCheck_ok
 suffices h : ∀ b w, Bld b s p w → Ext b s → w.length + l.length ≤ 1048576 → ∃ s', (fnC pc0 20).run (Rk Tryz.prog K noL) [p, .str l] s = .ret (.ls 1 [iv .i64 (l.length : Int), .nil 4]) s' ∧ (Bld b s' p (w ++ l) ∧ Ext b s') ∧ FrB s s' ∧ s.nx.toNat ≤ s'.nx.toNat by
  obtain ⟨s', h1, h2⟩ := h b0 w0 hBd hE hlim
  refine ⟨_, s', fn_k h1, fun b p w l e hb he hl => ?_⟩
  cases e
  obtain ⟨s2, h3, h4⟩ := h b w hb he hl
  cases (F.ret.inj (h1.symm.trans h3)).2
  exact h4
 clear hBd hE hlim b0 w0
 intro b w hBd hE hlim
 generalize Rk Tryz.prog _ _ = r at hC ⊢
 obtain ⟨v, s1, e1, hp⟩ := hC [p] s ⟨b, p, w, rfl, hBd, hE⟩
 obtain ⟨⟨⟨a, c0, buf, rfl, h1, h2, hg, hc, hG⟩, hE1⟩, hF1, hnx1⟩ := hp b p w rfl hBd hE
 have hl := load_at hg 1 rfl (by omega) hG.ne
 have hl' : ∀ k : V → S → A, xLoad false 1 (.ptr a 0 1) s1 k = k buf s1 := hl
 obtain ⟨buf', s2, ha, hE2, hG2, hnx2, hfr⟩ := hG.appS hE1 l (by rw [u8s_len]; exact hlim)
 have hg2 := (hfr a h2 (fun l n mn h => by rw [hg] at h; cases h)).trans hg
 have hs := fun k => store_at hg2 1 buf' hG2.cell (by omega) k
 have hu : upd [buf'] 1 [c0, buf] = [c0, buf'] := rfl
 rw [hu] at hs
 have hG3 : Gw 5 b s2 buf' (u8s (w ++ l)) := by unfold u8s at hG2 ⊢; rw [List.map_append]; exact hG2
 refine ⟨setB s2 a (.row [c0, buf'] 2 52 false 0 0 0), ?_, Bld.set (p := .ptr a 0 0) h1 (Nat.lt_of_lt_of_le h2 hnx2) hg2 rfl hc hG3 hE2, fun c i1 i2 i3 => ?_, Nat.le_trans hnx1 hnx2⟩
 rotate_left
 ·have j1 := hF1 c i1 i2 i3
  have j2 := hfr c (Nat.lt_of_lt_of_le i1 hnx1) (by rw [j1]; exact i2)
  rw [setB_get, if_neg (fun e => i3 [c0, buf] (by rw [← j1, e]; exact hg)), j2, j1]
 simp [allBWrite, gp_sp, nilCheck_ptr, field_ptr, e1, hl', ha, hs, lenT_s, nat_iv]
theorem BLen_ok : Holds Tryz.prog K 21 := by
 rintro x s ⟨b0, p, w0, rfl, hBd⟩
 suffices h : ∀ b w, Bld b s p w → (fnC pc0 21).run (Rk Tryz.prog K noL) [p] s = .ret (iv .i64 (w.length : Int)) s by
  refine ⟨_, s, fn_k (h b0 w0 hBd), fun b p w e hb => ?_⟩
  cases e
  exact ⟨rfl, (F.ret.inj ((h b0 w0 hBd).symm.trans (h b w hb))).1⟩
 clear hBd b0 w0
 intro b w hBd
 generalize Rk Tryz.prog _ _ = r
 obtain ⟨a, c0, buf, rfl, h1, h2, hg, hc, hG⟩ := hBd
 have hl := load_at hg 1 rfl (by omega) hG.ne
 have hl' : ∀ k : V → S → A, xLoad false 1 (.ptr a 0 1) s k = k buf s := hl
 simp [allBLen, gp_sp, nilCheck_ptr, field_ptr, hl', hG.len, u8s_len]
theorem beqV_iv (k : IntKind) (n : Nat) : beqV (iv k (n : Int)) (iv k (n : Int)) = true := by
 show andB (kbeq k k) (Nat.beq n n) = true
 rw [kbeq_refl, Nat.beq_refl]; rfl
theorem Gw.beq {el : Nat} {b s : S} {v : V} {l : List V} (h : Gw el b s v l) : beqV v v = true := by
 rcases h with ⟨rfl, _⟩ | ⟨a, n, mn, rfl, _⟩
 ·rfl
 ·show andB (K.beq a a) (andB (Nat.beq n n) (andB (Nat.beq 0 0) (andB (Nat.beq n n) (Nat.beq 0 0)))) = true
  rw [kbeq_self, Nat.beq_refl]; rfl
theorem bytesC_u8s (w : List Nat) (h : Byts w) (c : List Nat → A) : bytesC (u8s w) c = c w := by
 induction w generalizing c with
 | nil => rfl
 | cons n w ih =>
  show (Bool.rec (motive := fun _ => A) (.bad 100) (bytesC (u8s w) (fun l => c (n :: l))) (andB (kbeq .u8 .u8) (Nat.blt n 256)) : A) = _
  rw [show Nat.blt n 256 = true by rw [Nat.blt_eq]; exact h n (by simp)]
  exact ih (fun x hx => h x (by simp [hx])) _
theorem Gw.str {b s : S} {v : V} {w : List Nat} (h : Gw 5 b s v (u8s w)) (hE : Ext b s) (hB : Byts w) (hl : w.length ≤ 9223372036854775807) : ∃ p s', (∀ c : V → A, xSliceData v c = c p) ∧ (∀ k : V → S → A, xUStr 5 p (iv .i64 (w.length : Int)) s k = k (.str w) s') ∧ Ext b s' := by
 rcases h with ⟨rfl, h⟩ | ⟨a, n, mn, rfl, h1, h2, h3, h4, h5⟩
 ·have : w = [] := by unfold u8s at h; simpa using h
  subst this
  exact ⟨.nil 0, s, fun c => rfl, fun k => rfl, hE⟩
 ·rw [u8s_len] at h5
  subst h5
  obtain ⟨g1, g2, hf, -⟩ : ∃ g1 g2, (∀ c : Nat → Nat → A, freezeN 0 0 0 w.length c = c g1 g2) ∧ True := ⟨0, 0 + w.length, fun c => by
   show fN (Nat.add 0 w.length) (fun e => c 0 e) = _
   rw [fN_eq]; rfl, trivial⟩
  refine ⟨.ptr a w.length 0, setB s a (.row (u8s w) w.length 5 true mn g1 g2), fun c => ?_, fun k => ?_, ext_set hE h1⟩
  ·show (Bool.rec (motive := fun _ => A) (c (.ptr a w.length 0)) (.bad 124) (Nat.beq w.length 0) : A) = _
   rw [show Nat.beq w.length 0 = false by
    cases e : Nat.beq w.length 0 with
    | true => have := Nat.eq_of_beq_eq_true e; omega
    | false => rfl]
  ·show (Bool.rec (motive := fun _ => A) _ _ (Nat.ble w.length 9223372036854775807) : A) = _
   rw [Nat.ble_eq_true_of_le hl]
   show (Bool.rec (motive := fun _ => A) _ _ (Nat.beq w.length 0) : A) = _
   rw [show Nat.beq w.length 0 = false by
    cases e : Nat.beq w.length 0 with
    | true => have := Nat.eq_of_beq_eq_true e; omega
    | false => rfl]
   show hget s a _ = _
   rw [hget_eq, h4]
   show readCells s a w.length 0 w.length _ = _
   unfold readCells
   rw [hget_eq, h4]
   show (Bool.rec (motive := fun _ => A) _ _ (rdOk w.length true mn w.length (Nat.add 0 w.length)) : A) = _
   rw [show rdOk w.length true mn w.length (Nat.add 0 w.length) = true from rdOk_or.2 (.inl ⟨rfl, h3.2, Nat.le_refl _, by show 0 + w.length ≤ _; omega⟩)]
   show dropL 0 (u8s w) _ = _
   rw [dropL_eq]
   show takeK w.length (u8s w) _ = _
   rw [takeK_eq _ _ _ (fun x hx => by
    have := List.mem_of_mem_take hx
    unfold u8s at this
    obtain ⟨n, _, rfl⟩ := List.mem_map.1 this
    exact iv_ne _ _), List.take_of_length_le (by rw [u8s_len]; exact Nat.le_refl _)]
   rw [bytesC_u8s w hB, hf, hset_eq]; rfl
theorem BString_ok : Holds Tryz.prog K 22 := by
 rintro x s ⟨b0, p, w0, rfl, hBd, hE, hB, hN⟩
 suffices h : ∀ b w, Bld b s p w → Ext b s → Byts w → w.length ≤ 1048576 → ∃ s', (fnC pc0 22).run (Rk Tryz.prog K noL) [p] s = .ret (.str w) s' ∧ Ext b s' by
  obtain ⟨s', h1, h2⟩ := h b0 w0 hBd hE hB hN
  refine ⟨_, s', fn_k h1, fun b p w e hb he hw hn => ?_⟩
  cases e
  obtain ⟨s2, h3, h4⟩ := h b w hb he hw hn
  obtain ⟨i1, i2⟩ := F.ret.inj (h1.symm.trans h3)
  cases i2
  exact ⟨h4, i1⟩
 clear hBd hE hB hN b0 w0
 intro b w hBd hE hB hN
 generalize Rk Tryz.prog _ _ = r
 obtain ⟨a, c0, buf, rfl, h1, h2, hg, hc, hG⟩ := hBd
 have hl := load_at hg 1 rfl (by omega) hG.ne
 have hl' : ∀ k : V → S → A, xLoad false 1 (.ptr a 0 1) s k = k buf s := hl
 obtain ⟨q, s', hq, hu, hE'⟩ := hG.str hE hB (by omega)
 refine ⟨s', ?_, hE'⟩
 simp [allBString, gp_sp, nilCheck_ptr, field_ptr, hl', hG.len, u8s_len, hq, hG.beq, beqV_iv, hu, boolA]
theorem txt_snoc (ns : List (List Nat)) (x : List Int) (z : Int) : txtW ns (x ++ [z]) = txtW ns x ++ ns.getD (z.toNat - 1) [] := by
 simp [txtW]
theorem names_byts {s : S} {t : V} (h : Strs s t) : ∀ n ∈ names s t, Byts n := by
 intro n hn
 unfold names at hn
 obtain ⟨j, hj, rfl⟩ := List.mem_map.1 hn
 exact (h.2.2 j (by simpa using hj)).2
theorem getD_byts {ns : List (List Nat)} (h : ∀ n ∈ ns, Byts n) (i : Nat) : Byts (ns.getD i []) := by
 rw [List.getD_eq_getElem?_getD]
 cases e : ns[i]? with
 | none => intro x hx; cases hx
 | some n => exact h n (List.mem_of_getElem? e)
theorem txt_byts {ns : List (List Nat)} (h : ∀ n ∈ ns, Byts n) (x : List Int) : Byts (txtW ns x) := by
 intro b hb
 unfold txtW at hb
 obtain ⟨l, hl, hb⟩ := List.mem_flatten.1 hb
 obtain ⟨z, _, rfl⟩ := List.mem_map.1 hl
 exact getD_byts h _ b hb
theorem getD_len {ns : List (List Nat)} (h : ns.all isNm = true) (i : Nat) : (ns.getD i []).length ≤ 40 := by
 rw [List.getD_eq_getElem?_getD]
 cases e : ns[i]? with
 | none => exact Nat.zero_le _
 | some n =>
  have := List.all_eq_true.1 h n (List.mem_of_getElem? e)
  unfold isNm at this
  simp at this
  exact this.1.2
theorem txt_len {ns : List (List Nat)} (h : ns.all isNm = true) (x : List Int) : (txtW ns x).length ≤ x.length * 40 := by
 induction x with
 | nil => exact Nat.le_refl _
 | cons z x ih =>
  have := getD_len h (z.toNat - 1)
  have e : txtW ns (z :: x) = ns.getD (z.toNat - 1) [] ++ txtW ns x := by simp [txtW]
  rw [e, List.length_append, List.length_cons]; omega
def inS (s : S) (t x : V) (j : Nat) : Prop := 1 ≤ intV s x j ∧ intV s x j ≤ lenV t
def SLPost (t x : V) (s : S) (a : A) : Prop :=
 ((∀ j, j < lenV x → inS s t x j) ∧ ∃ tm' s', a = .ext 0 tm' s' ∧ gp 240 tm' = .bad ∧ Ext s s' ∧ Bld s s' (gp 6 tm') (txtW (names s t) (word s x))) ∨
 ((¬ ∀ j, j < lenV x → inS s t x j) ∧ ∃ tm' s', a = .ret tm' s' ∧ gp 240 tm' = .bad ∧ gp 4 tm' = .str [] ∧ gp 5 tm' = iv .i64 1 ∧ Ext s s')
def ltSText (t x : V) (s : S) : Lt := ⟨fun tm s' => Ext s s' ∧ gp 0 tm = t ∧ gp 10 tm = x ∧ gp 11 tm = iv .i64 (lenV x) ∧ gp 240 tm = .bad ∧ ∃ i : Nat, i ≤ lenV x ∧ gp 12 tm = iv .i64 i ∧ (∀ j, j < i → inS s t x j) ∧ Bld s s' (gp 6 tm) (txtW (names s t) ((word s x).take i)),
 fun _ _ a => SLPost t x s a⟩
theorem word_take {s : S} {x : V} {i : Nat} (h : i < lenV x) : (word s x).take (i + 1) = (word s x).take i ++ [intV s x i] := by
 have hlt : i < (word s x).length := by rw [word_len]; exact h
 rw [List.take_succ_eq_append_getElem hlt]
 have := word_get (s := s) h
 rw [List.getElem?_eq_getElem hlt] at this
 rw [Option.some.inj this]
theorem loopSText {t x : V} {s : S} (ht : Strs s t) (hx : Ints s x) (hN : (names s t).all isNm = true) (hX : lenV x ≤ 200) (hT5 : lenV t ≤ 500) : ∀ tm s', (ltSText t x s).pre tm s' → (ltSText t x s).post tm s' (cSText_16.run (Rk Tryz.prog K fun _ => ltSText t x s) tm s') := by
 refine loop_k (L := fun _ => ltSText t x s) pcOk0.1 pcOk0.2 szSText_16 (fun tm _ => lenV x - (toI (gp 12 tm)).toNat) (fun _ _ _ _ (h : SLPost _ _ _ _) => by rcases h with ⟨_, _, _, rfl, _⟩ | ⟨_, _, _, rfl, _⟩ <;> exact fun h => h) ?_
 rintro tm s' ⟨hE, h0, h10, h11, h240, i, hi, h12, hj, hBd⟩ IH
 show SLPost _ _ _ (cSText_16.run _ tm s')
 have hW := Rk_kept (L := fun _ => ltSText t x s) BWrite_ok
 generalize Rk Tryz.prog _ _ = r at IH hW ⊢
 generalize h6 : gp 6 tm = p at *
 by_cases hlt : i < lenV x
 ·have hw := wrapS hlt hx.2.1
  obtain ⟨hx', hxi⟩ := hx.ext hE
  obtain ⟨q, hq, hQ⟩ := hx'.at_ hlt
  rw [hxi i] at hQ
  have hti := word_take (s := s) hlt
  obtain ⟨z, hz⟩ : ∃ z, z = intV s x i := ⟨_, rfl⟩
  rw [← hz] at hQ hti
  by_cases g1 : z < 1
  ·simp [lpSText_16, allSText, gp_sp, h10, h11, h12, lss_ii, hq, hQ, nat_iv, hlt, g1]
   exact .inr ⟨fun h => by have := (h i hlt).1; omega, _, _, rfl, by simp [gp_sp, h240], by simp [gp_sp], by simp [gp_sp], hE⟩
  obtain ⟨ht', hn'⟩ := ht.ext hE
  by_cases g2 : (lenV t : Int) < z
  ·simp [lpSText_16, allSText, gp_sp, h0, h10, h11, h12, lss_ii, gtr_ii, hq, hQ, ht'.1.len, nat_iv, hlt, g1, g2]
   exact .inr ⟨fun h => by have := (h i hlt).2; omega, _, _, rfl, by simp [gp_sp, h240], by simp [gp_sp], by simp [gp_sp], hE⟩
  obtain ⟨m, hm⟩ : ∃ m : Nat, z = (m : Int) + 1 := ⟨(z - 1).toNat, by omega⟩
  have hml : m < lenV t := by omega
  have hw1 : IntKind.i64.wrap (z - 1) = (m : Int) := by rw [wrap64 (by omega) (by omega)]; omega
  obtain ⟨q2, hq2, hQ2⟩ := ht'.at_ hml
  have hc : cellV s' t m = cellV s t m := (ht.1.ext hE).2 m
  rw [hc] at hQ2
  have hgd : (names s t).getD (z.toNat - 1) [] = strL (cellV s t m) := by
   rw [List.getD_eq_getElem?_getD, show z.toNat - 1 = m by omega, names_get hml]; rfl
  have hl1 := txt_len hN ((word s x).take i)
  have hl2 := getD_len hN (z.toNat - 1)
  rw [hgd] at hl2
  have hl3 : ((word s x).take i).length = i := by rw [List.length_take, word_len]; omega
  obtain ⟨w, s2, he, hp⟩ := hW [p, .str (strL (cellV s t m))] s' ⟨s, p, _, _, rfl, hBd, hE, by omega⟩
  obtain ⟨⟨hB2, hE2⟩, -⟩ := hp s p _ _ rfl hBd hE (by omega)
  rw [← hgd, ← txt_snoc, ← hti] at hB2
  simp [lpSText_16, allSText, gp_sp, h0, h6, h10, h11, h12, lss_ii, gtr_ii, add_ii, sub_ii, hw, hw1, hq, hQ, hq2, hQ2, ht'.1.len, he, nat_iv, hlt, g1, g2]
  refine IH _ _ (mu_lt h12 (by simp [gp_sp]) hlt) ⟨hE2, ?_, ?_, ?_, ?_, i + 1, by omega, ?_, fun j h => ?_, by simp [gp_sp, h6]; exact hB2⟩
  ·simp [gp_sp, h0]
  ·simp [gp_sp, h10]
  ·simp [gp_sp, h11]
  ·simp [gp_sp, h240]
  ·simp [gp_sp]
  ·rcases Nat.lt_or_ge j i with h' | h'
   ·exact hj j h'
   ·rw [show j = i by omega]; exact ⟨by omega, by omega⟩
 ·simp [lpSText_16, allSText, gp_sp, h11, h12, lss_ii, nat_iv, hlt]
  rw [List.take_of_length_le (by rw [word_len]; omega)] at hBd
  exact .inl ⟨fun j h => hj j (by omega), _, _, rfl, by simp [gp_sp, h240], hE, by simp [gp_sp, h6]; exact hBd⟩
theorem okX_iff {s : S} {t x : V} : okX (names s t) (word s x) ↔ okT (names s t) ∧ lenV x ≤ 200 ∧ ∀ j, j < lenV x → inS s t x j := by
 unfold okX inS
 rw [word_len, names_len]
 simp only [word_mem]
 exact ⟨fun h => ⟨h.1, h.2.1, fun j hj => h.2.2 _ ⟨j, hj, rfl⟩⟩, fun h => ⟨h.1, h.2.1, fun z ⟨j, hj, e⟩ => e ▸ h.2.2 j hj⟩⟩
open Classical in
theorem SText_ok : Holds Tryz.prog K 9 := by
 rintro a s ⟨t, x, rfl, ht, hx, hT⟩
 suffices h : ∃ s', (fnC pc0 9).run (Rk Tryz.prog K fun _ => ltSText t x s) [t, x] s = .ret (if okX (names s t) (word s x) then .ls 1 [.str (txtW (names s t) (word s x)), iv .i64 0] else .ls 1 [.str [], iv .i64 1]) s' ∧ Ext s s' by
  obtain ⟨s', h1, h2⟩ := h
  exact ⟨_, s', fn_k h1, fun t' x' e => by cases e; exact ⟨h2, rfl⟩⟩
 have hV := Rk_kept (L := fun _ => ltSText t x s) SValid_ok
 have hS := Rk_kept (L := fun _ => ltSText t x s) BString_ok
 have hL := fun h1 h2 h3 => loopSText (t := t) (x := x) (s := s) ht hx h1 h2 h3
 generalize Rk Tryz.prog _ _ = r at hV hS hL ⊢
 obtain ⟨w, s1, e1, hp⟩ := hV [t] s ⟨t, rfl, ht, hT⟩
 obtain ⟨hE1, rfl⟩ := hp _ rfl
 have hxn : ∀ b c, xUn .not (.bool b) c = c (.bool !b) := fun b c => by cases b <;> rfl
 by_cases g1 : okT (names s t)
 case neg =>
  rw [if_neg (fun h => g1 h.1)]
  rw [decide_eq_false g1] at e1
  exact ⟨s1, by simp [allSText, gp_sp, e1, hxn, nat_iv], hE1⟩
 rw [decide_eq_true g1] at e1
 by_cases g2 : 200 < lenV x
 ·have g2' : (200 : Int) < lenV x := by omega
  rw [if_neg (fun h => by have := (okX_iff.1 h).2.1; omega)]
  exact ⟨s1, by simp [allSText, gp_sp, e1, hxn, nat_iv, hx.1.len, gtr_ii, g2'], hE1⟩
 have g2' : ¬ (200 : Int) < lenV x := by omega
 have hL := hL g1.2.1 (by omega) (by have := g1.1; rwa [names_len] at this)
 simp [allSText, gp_sp, e1, hxn, nat_iv, hx.1.len, gtr_ii, g2', newRow_add]
 have hE2 : Ext s (addB s1 (.row [.nil 0, .nil 1] 2 52 false 0 0 0)) := hE1.trans (ext_addB _ _)
 have hB0 : Bld s (addB s1 (.row [.nil 0, .nil 1] 2 52 false 0 0 0)) (.ptr s1.nx 0 0) [] := ⟨s1.nx, .nil 0, .nil 1, rfl, hE1.nx, (by show s1.nx.toNat < s1.nx.succ.toNat; rw [K.toNat_succ]; omega), by rw [addB_get], .inl rfl, .inl ⟨rfl, rfl⟩⟩
 generalize hA : cSText_16.run r _ _ = y
 have := hA ▸ hL _ _ ⟨hE2, by simp [gp_sp], by simp [gp_sp], by simp [gp_sp], by simp [gp_sp], 0, by omega, by simp [gp_sp], fun j h => by omega, by simp [gp_sp]; exact hB0⟩
 rcases this with ⟨hg, tm', s2, rfl, k1, hE, hBd⟩ | ⟨hg, tm', s2, rfl, k1, k2, k3, hE⟩
 ·have hok : okX (names s t) (word s x) := okX_iff.2 ⟨g1, by omega, hg⟩
  rw [if_pos hok]
  have hln := txt_len g1.2.1 (word s x)
  rw [word_len] at hln
  have hby := txt_byts (names_byts ht) (word s x)
  obtain ⟨w, s3, e3, hp⟩ := hS [gp 6 tm'] s2 ⟨s, _, _, rfl, hBd, hE, hby, by omega⟩
  obtain ⟨hE3, rfl⟩ := hp s _ _ rfl hBd hE hby (by omega)
  exact ⟨s3, by simp [blockA_ext, gp_sp, k1, e3], hE3⟩
 ·rw [if_neg (fun h => hg (okX_iff.1 h).2.2)]
  exact ⟨s2, by simp [k1, k2, k3], hE⟩
theorem CellI.load {s : S} {p : V} {n : Int} (h : CellI s p n) (k : V → S → A) : xLoad false 1 p s k = k (iv .i64 n) s := Pt.load1 h (by omega) (iv_ne _ _) k
theorem CellI.inj {s : S} {p : V} {n m : Int} (h : CellI s p n) (g : CellI s p m) : n = m := by
 obtain ⟨a, w, o, l, k, el, gr, mn, f1, f2, rfl, h1, h2, h3, h4⟩ := h
 obtain ⟨a', w', o', l', k', el', gr', mn', f1', f2', e, g1, g2, g3, g4⟩ := g
 cases e
 rw [h1] at g1
 cases g1
 exact iv_inj ((h4 0 (by omega)).symm.trans (g4 0 (by omega)))
open Classical in
theorem TWordC_ok : Holds Tryz.prog K 47 := by
 rintro a s ⟨z, p, n, rfl, hc⟩
 suffices h : (fnC pc0 47).run (Rk Tryz.prog K noL) [iv .i64 z, p] s = .ret (.bool (decide (z < 1 ∨ n < z))) s by
  refine ⟨_, _, fn_k h, fun z' p' n' e hc' => ?_⟩
  simp only [List.cons.injEq, and_true] at e
  obtain ⟨e1, rfl⟩ := e
  cases iv_inj e1
  cases hc.inj hc'
  exact ⟨rfl, rfl⟩
 generalize Rk Tryz.prog _ _ = r
 by_cases g1 : z < 1
 ·simp [allTWordC, gp_sp, lss_ii, nat_iv, g1]
 ·by_cases g2 : n < z <;> simp [allTWordC, gp_sp, lss_ii, gtr_ii, nat_iv, hc.load, g1, g2]
theorem callV_fn1 (r : R) (g : Nat) (x p : V) (tm : T) (s : S) (k : V → S → A) : callV r (.fn (.func g) [] [p]) [x] tm s k = foldF (r.call g [x, p] s) k := callV_fn r g [] [p] [x] tm s k
def IFPost (x : V) (n : Int) (s : S) (a : A) : Prop := (inR s x n ∧ ∃ tm', a = .ext 0 tm' s ∧ gp 240 tm' = .bad) ∨ (¬ inR s x n ∧ ∃ tm' k, a = .ret tm' s ∧ gp 240 tm' = .bad ∧ gp 4 tm' = iv .i64 k ∧ 0 ≤ k)
def ltIndexFunc (x p : V) (n : Int) (s : S) : Lt := ⟨fun tm s' => s' = s ∧ gp 0 tm = x ∧ gp 1 tm = .fn (.func 47) [] [p] ∧ gp 6 tm = iv .i64 (lenV x) ∧ gp 240 tm = .bad ∧ ∃ i : Nat, i ≤ lenV x ∧ gp 7 tm = iv .i64 i ∧ ∀ j, j < i → 1 ≤ intV s x j ∧ intV s x j ≤ n,
 fun _ _ a => IFPost x n s a⟩
theorem loopIndexFunc {x p : V} {n : Int} {s : S} (hx : Ints s x) (hc : CellI s p n) : ∀ tm s', (ltIndexFunc x p n s).pre tm s' → (ltIndexFunc x p n s).post tm s' (cIndexFunc_6.run (Rk Tryz.prog K fun _ => ltIndexFunc x p n s) tm s') := by
 refine loop_k (L := fun _ => ltIndexFunc x p n s) pcOk0.1 pcOk0.2 szIndexFunc_6 (fun tm _ => lenV x - (toI (gp 7 tm)).toNat) (fun _ _ _ _ (h : IFPost _ _ _ _) => by rcases h with ⟨_, _, rfl, _⟩ | ⟨_, _, _, rfl, _⟩ <;> exact fun h => h) ?_
 rintro tm s' ⟨rfl, h0, h1, h6, h240, i, hi, h7, hj⟩ IH
 have hN := Rk_kept (L := fun _ => ltIndexFunc x p n s') TWordC_ok
 generalize Rk Tryz.prog _ _ = r at IH hN ⊢
 show IFPost x n s' (cIndexFunc_6.run r tm s')
 by_cases hlt : i < lenV x
 ·have hw := wrapS hlt hx.2.1
  obtain ⟨q, hq, hQ⟩ := hx.at_ hlt
  obtain ⟨w, s2, he, hp⟩ := hN [iv .i64 (intV s' x i), p] s' ⟨_, _, _, rfl, hc⟩
  obtain ⟨rfl, rfl⟩ := hp _ _ _ rfl hc
  by_cases g : intV s2 x i < 1 ∨ n < intV s2 x i
  ·rw [decide_eq_true g] at he
   simp [lpIndexFunc_6, allIndexFunc, gp_sp, h0, h1, h6, h7, lss_ii, hq, hQ, callV_fn1, he, nat_iv, hlt]
   exact .inr ⟨fun h => by have := h i hlt; omega, _, i, rfl, by simp [gp_sp, h240], by simp [gp_sp], by omega⟩
  ·rw [decide_eq_false g] at he
   simp [lpIndexFunc_6, allIndexFunc, gp_sp, h0, h1, h6, h7, lss_ii, add_ii, hw, hq, hQ, callV_fn1, he, nat_iv, hlt]
   refine IH _ s2 (mu_lt h7 (by simp [gp_sp]) hlt) ⟨rfl, ?_, ?_, ?_, ?_, i + 1, by omega, ?_, fun j h => ?_⟩
   ·simp [gp_sp, h0]
   ·simp [gp_sp, h1]
   ·simp [gp_sp, h6]
   ·simp [gp_sp, h240]
   ·simp [gp_sp]
   ·rcases Nat.lt_or_ge j i with h' | h'
    ·exact hj j h'
    ·rw [show j = i by omega]; omega
 ·simp [lpIndexFunc_6, allIndexFunc, gp_sp, h6, h7, lss_ii, nat_iv, hlt]
  exact .inl ⟨fun j h => hj j (by omega), _, rfl, by simp [gp_sp, h240]⟩
open Classical in
theorem IndexFunc_ok : Holds Tryz.prog K 62 := by
 rintro a s ⟨x, p, n, rfl, hx, hc⟩
 have hL := loopIndexFunc hx hc
 suffices h : ∃ k : Int, (fnC pc0 62).run (Rk Tryz.prog K fun _ => ltIndexFunc x p n s) [x, .fn (.func 47) [] [p]] s = .ret (iv .i64 k) s ∧ (0 ≤ k ↔ ¬ inR s x n) by
  obtain ⟨k, h1, h2⟩ := h
  refine ⟨_, s, fn_k h1, fun x' p' n' e hc' => ?_⟩
  cases e
  cases hc.inj hc'
  exact ⟨rfl, k, rfl, h2⟩
 generalize Rk Tryz.prog _ _ = r at hL ⊢
 simp [allIndexFunc, gp_sp, hx.1.len, nat_iv]
 generalize hA : cIndexFunc_6.run r _ _ = y
 have := hA ▸ hL _ _ ⟨rfl, by simp [gp_sp], by simp [gp_sp], by simp [gp_sp], by simp [gp_sp], 0, by omega, by simp [gp_sp], fun j h => by omega⟩
 rcases this with ⟨hg, tm', rfl, k1⟩ | ⟨hg, tm', k, rfl, k1, k2, k3⟩
 ·exact ⟨-1, by simp [blockA_ext, gp_sp, k1, neg_iv], fun h => by omega, fun h => absurd hg h⟩
 ·exact ⟨k, by simp [k1, k2], fun _ => hg, fun _ => k3⟩
open Classical in
theorem ContainsFunc_ok : Holds Tryz.prog K 46 := by
 rintro a s ⟨x, p, n, rfl, hx, hc⟩
 have hI := Rk_kept (L := noL) IndexFunc_ok
 suffices h : (fnC pc0 46).run (Rk Tryz.prog K noL) [x, .fn (.func 47) [] [p]] s = .ret (.bool (decide (¬ inR s x n))) s by
  refine ⟨_, s, fn_k h, fun x' p' n' e hc' => ?_⟩
  cases e
  cases hc.inj hc'
  exact ⟨rfl, rfl⟩
 generalize Rk Tryz.prog _ _ = r at hI ⊢
 obtain ⟨w, s2, he, hp⟩ := hI [x, .fn (.func 47) [] [p]] s ⟨x, p, n, rfl, hx, hc⟩
 obtain ⟨rfl, k, rfl, hk⟩ := hp _ _ _ rfl hc
 rw [show decide (¬ inR s2 x n) = decide (0 ≤ k) from by rw [decide_eq_decide]; exact hk.symm]
 simp [allContainsFunc, gp_sp, he, geq_ii, nat_iv]
open Classical in
theorem TWord_ok : Holds Tryz.prog K 17 := by
 rintro a s ⟨x, n, rfl, hx⟩
 have hI := Rk_kept (L := noL) ContainsFunc_ok
 suffices h : ∃ s', (fnC pc0 17).run (Rk Tryz.prog K noL) [x, iv .i64 n] s = .ret (.bool (decide (lenV x ≤ 200 ∧ inR s x n))) s' ∧ Ext s s' by
  obtain ⟨s', h1, h2⟩ := h
  refine ⟨_, s', fn_k h1, fun x' n' e => ?_⟩
  simp only [List.cons.injEq, and_true] at e
  obtain ⟨rfl, e⟩ := e
  cases iv_inj e
  exact ⟨h2, rfl⟩
 generalize Rk Tryz.prog _ _ = r at hI ⊢
 have hE : Ext s (addB s (.row [iv .i64 n] 1 3 false 0 0 0)) := ext_addB _ _
 refine ⟨_, ?_, hE⟩
 have hc : CellI (addB s (.row [iv .i64 n] 1 3 false 0 0 0)) (.ptr s.nx 0 0) n := by
  have h := new_pt s 3 1 [iv .i64 n] rfl
  obtain ⟨a, w, o, l, k, el, gr, mn, f1, f2, e, h1, h2, h3, h4⟩ := h
  exact ⟨a, w, o, l, k, el, gr, mn, f1, f2, e, h1, h2, h3, fun j hj => by rw [h4 j hj, show j = 0 by omega]; rfl⟩
 obtain ⟨hx', hxi⟩ := hx.ext hE
 obtain ⟨w, s2, he, hp⟩ := hI [x, .fn (.func 47) [] [.ptr s.nx 0 0]] _ ⟨x, _, n, rfl, hx', hc⟩
 obtain ⟨rfl, rfl⟩ := hp _ _ _ rfl hc
 have hin : inR (addB s (.row [iv .i64 n] 1 3 false 0 0 0)) x n ↔ inR s x n := by
  unfold inR; simp only [hxi]
 rw [show decide (¬ inR (addB s (.row [iv .i64 n] 1 3 false 0 0 0)) x n) = decide (¬ inR s x n) by rw [decide_eq_decide, hin]] at he
 have hxn : ∀ b c, xUn .not (.bool b) c = c (.bool !b) := fun b c => by cases b <;> rfl
 by_cases g1 : lenV x ≤ 200
 ·have g1' : (lenV x : Int) ≤ 200 := by omega
  by_cases g2 : inR s x n
  ·rw [decide_eq_false (fun h => h g2)] at he
   simp [allTWord, gp_sp, cellsC_iv, newRow_add, hx.1.len, leq_ii, nat_iv, g1, g1', he, hxn, g2]
  ·rw [decide_eq_true g2] at he
   simp [allTWord, gp_sp, cellsC_iv, newRow_add, hx.1.len, leq_ii, nat_iv, g1, g1', he, hxn, g2]
 ·have g1' : ¬ (lenV x : Int) ≤ 200 := by omega
  simp [allTWord, gp_sp, cellsC_iv, newRow_add, hx.1.len, leq_ii, nat_iv, g1, g1']
theorem Itoa_ok (h : Holds Tryz.prog K 48) : Holds Tryz.prog K 19 := by
 rintro a s ⟨z, rfl, hz, hT⟩
 have hI := Rk_kept (L := noL) h
 suffices h : ∃ s', (fnC pc0 19).run (Rk Tryz.prog K noL) [iv .i64 z] s = .ret (.str (itoa z)) s' ∧ Ext s s' by
  obtain ⟨s', h1, h2⟩ := h
  refine ⟨_, s', fn_k h1, fun z' e => ?_⟩
  simp only [List.cons.injEq, and_true] at e
  cases iv_inj e
  exact ⟨h2, rfl⟩
 generalize Rk Tryz.prog _ _ = r at hI ⊢
 obtain ⟨w, s2, he, hp⟩ := hI [iv .i64 z] s ⟨z, rfl, hz, hT⟩
 obtain ⟨hE, rfl⟩ := hp _ rfl
 exact ⟨s2, by simp [allItoa, gp_sp, he], hE⟩
theorem IItoa_ok (h : Holds Tryz.prog K 63) : Holds Tryz.prog K 48 := by
 rintro a s ⟨z, rfl, hz, hT⟩
 have hI := Rk_kept (L := noL) h
 suffices h : ∃ s', (fnC pc0 48).run (Rk Tryz.prog K noL) [iv .i64 z] s = .ret (.str (itoa z)) s' ∧ Ext s s' by
  obtain ⟨s', h1, h2⟩ := h
  refine ⟨_, s', fn_k h1, fun z' e => ?_⟩
  simp only [List.cons.injEq, and_true] at e
  cases iv_inj e
  exact ⟨h2, rfl⟩
 generalize Rk Tryz.prog _ _ = r at hI ⊢
 obtain ⟨w, s2, he, hp⟩ := hI [iv .i64 z, iv .i64 10] s ⟨z, rfl, hz, hT⟩
 obtain ⟨hE, rfl⟩ := hp _ _ rfl
 exact ⟨s2, by simp [allIItoa, gp_sp, nat_iv, he], hE⟩
theorem TNum_ok (h : Holds Tryz.prog K 19) : Holds Tryz.prog K 18 := by
 rintro a s ⟨z, rfl, hz, hT⟩
 have hI := Rk_kept (L := noL) h
 suffices h : ∃ s', (fnC pc0 18).run (Rk Tryz.prog K noL) [iv .i64 z] s = .ret (.str (itoa z)) s' ∧ Ext s s' by
  obtain ⟨s', h1, h2⟩ := h
  refine ⟨_, s', fn_k h1, fun z' e => ?_⟩
  simp only [List.cons.injEq, and_true] at e
  cases iv_inj e
  exact ⟨h2, rfl⟩
 generalize Rk Tryz.prog _ _ = r at hI ⊢
 obtain ⟨w, s2, he, hp⟩ := hI [iv .i64 z] s ⟨z, rfl, hz, hT⟩
 obtain ⟨hE, rfl⟩ := hp _ rfl
 exact ⟨s2, by simp [allTNum, gp_sp, he], hE⟩
def Bt (f : Nat → Nat) (m : Nat) : Prop := ∀ x, x < 2 ^ m → f x ≤ m ∧ (0 < x → 1 ≤ f x ∧ 2 ^ (f x - 1) ≤ x ∧ x < 2 ^ f x)
theorem l8_all : (List.range 256).all (fun x => decide (l8 x ≤ 8) && (decide (x = 0) || (decide (1 ≤ l8 x) && decide (2 ^ (l8 x - 1) ≤ x) && decide (x < 2 ^ l8 x)))) = true := by decide
theorem l8_bt : Bt l8 8 := by
 intro x hx
 have := List.all_eq_true.1 l8_all x (by simpa using hx)
 simp only [Bool.and_eq_true, Bool.or_eq_true, decide_eq_true_eq] at this
 exact ⟨this.1, fun h => by rcases this.2 with h' | h'; omega; exact ⟨h'.1.1, h'.1.2, h'.2⟩⟩
theorem bt_dbl {f : Nat → Nat} {m : Nat} (h : Bt f m) : Bt (fun x => if 2 ^ m ≤ x then m + f (x / 2 ^ m) else f x) (m + m) := by
 intro x hx
 dsimp only
 have hp : 0 < 2 ^ m := Nat.two_pow_pos m
 by_cases g : 2 ^ m ≤ x
 ·rw [if_pos g]
  have hy : x / 2 ^ m < 2 ^ m := by rw [Nat.div_lt_iff_lt_mul hp, ← Nat.pow_add]; exact hx
  have hy0 : 0 < x / 2 ^ m := Nat.div_pos g hp
  obtain ⟨h1, h2⟩ := h _ hy
  obtain ⟨h3, h4, h5⟩ := h2 hy0
  generalize f (x / 2 ^ m) = b at *
  refine ⟨by omega, fun _ => ⟨by omega, ?_, ?_⟩⟩
  ·rw [show m + b - 1 = (b - 1) + m by omega, Nat.pow_add]
   exact (Nat.le_div_iff_mul_le hp).1 h4
  ·rw [show m + b = b + m by omega, Nat.pow_add]
   exact (Nat.div_lt_iff_lt_mul hp).1 h5
 ·rw [if_neg g]
  obtain ⟨h1, h2⟩ := h x (by omega)
  exact ⟨by omega, h2⟩
theorem b32_bt : Bt b32 64 := bt_dbl (m := 32) (bt_dbl (m := 16) (bt_dbl (m := 8) l8_bt))
theorem nd_all : (List.range 65).all (fun b => decide (b = 0) || (decide (b * 78913 / 262144 ≤ 19) && decide (2 ^ b ≤ 10 ^ (b * 78913 / 262144 + 1)) && (decide (b * 78913 / 262144 = 0) || decide (10 ^ (b * 78913 / 262144 - 1) ≤ 2 ^ (b - 1))))) = true := by decide
theorem nd_ok {n : Nat} (h0 : 0 < n) (h : n < 18446744073709551616) : 1 ≤ nd n ∧ nd n ≤ 20 ∧ 10 ^ (nd n - 1) ≤ n ∧ n < 10 ^ nd n := by
 obtain ⟨h1, h2⟩ := b32_bt n h
 obtain ⟨h3, h4, h5⟩ := h2 h0
 have := List.all_eq_true.1 nd_all (b32 n) (by simp; omega)
 simp only [Bool.and_eq_true, Bool.or_eq_true, decide_eq_true_eq] at this
 rcases this with h' | ⟨⟨h6, h7⟩, h8⟩
 ·omega
 unfold nd
 generalize b32 n * 78913 / 262144 = k at *
 by_cases g : 10 ^ k ≤ n
 ·rw [if_pos g]
  exact ⟨by omega, by omega, by simpa using g, by omega⟩
 ·rw [if_neg g]
  rcases h8 with rfl | h8
  ·simp at g; omega
  ·have hk : k ≠ 0 := fun e => by subst e; simp at g; omega
   refine ⟨by omega, by omega, ?_, by rw [Nat.add_zero]; omega⟩
   rw [Nat.add_zero]
   exact Nat.le_trans h8 h4
theorem ds_len : ∀ (k n : Nat), (ds k n).length = k
 | 0, _ => rfl
 | k + 1, n => by unfold ds; rw [List.length_append, ds_len k]; rfl
theorem ds_digs : ∀ (k n : Nat), 10 ^ k ≤ n → n < 10 ^ (k + 1) → ds (k + 1) n = digs n := by
 intro k
 induction k with
 | zero =>
  intro n h1 h2
  have : n < 10 := by simpa using h2
  unfold digs
  rw [if_pos this]
  simp [ds, Nat.mod_eq_of_lt this]
 | succ k ih =>
  intro n h1 h2
  have h3 : ¬ n < 10 := by
   have : 10 ≤ 10 ^ (k + 1) := by rw [Nat.pow_succ]; have : 0 < 10 ^ k := Nat.pow_pos (by omega); omega
   omega
  unfold digs
  rw [if_neg h3]
  show ds (k + 1) (n / 10) ++ _ = _
  rw [ih (n / 10) (by rw [Nat.pow_succ] at h1; omega) (by rw [Nat.pow_succ] at h2; omega)]
theorem digs_nd {n : Nat} (h0 : 0 < n) (h : n < 18446744073709551616) : ds (nd n) n = digs n := by
 obtain ⟨h1, h2, h3, h4⟩ := nd_ok h0 h
 obtain ⟨k, hk⟩ : ∃ k, nd n = k + 1 := ⟨nd n - 1, by omega⟩
 rw [hk] at h3 h4 ⊢
 exact ds_digs k n (by simpa using h3) h4
theorem mul_nat (q : EK) (cst : Bool) (k : IntKind) {a b : Nat} (h : a * b < lim k) (c : V → A) : xBin q cst .mul (iv k (a : Int)) (iv k (b : Int)) c = c (iv k ((a * b : Nat) : Int)) := by
 show xBin q cst .mul (.nat k a) (.nat k b) c = _
 rw [xBin_nn]
 show natR k (a * b) c = _
 rw [natR_eq, wrap_nat h]; rfl
theorem beq_pos {b : Nat} (hb : 0 < b) : Nat.beq b 0 = false := by
 cases e : Nat.beq b 0 with
 | true => have := Nat.eq_of_beq_eq_true e; omega
 | false => rfl
theorem quo_nat (q : EK) (cst : Bool) (k : IntKind) {a b : Nat} (hb : 0 < b) (h : a < lim k) (c : V → A) : xBin q cst .quo (iv k (a : Int)) (iv k (b : Int)) c = c (iv k ((a / b : Nat) : Int)) := by
 show xBin q cst .quo (.nat k a) (.nat k b) c = _
 rw [xBin_nn]
 show (Bool.rec (motive := fun _ => A) (natR k (a / b) c) (.bad 33) (Nat.beq b 0)) = _
 rw [beq_pos hb]
 show natR k (a / b) c = _
 rw [natR_eq, wrap_nat (Nat.lt_of_le_of_lt (Nat.div_le_self a b) h)]; rfl
theorem rem_nat (q : EK) (cst : Bool) (k : IntKind) {a b : Nat} (hb : 0 < b) (c : V → A) : xBin q cst .rem (iv k (a : Int)) (iv k (b : Int)) c = c (iv k ((a % b : Nat) : Int)) := by
 show xBin q cst .rem (.nat k a) (.nat k b) c = _
 rw [xBin_nn]
 show (Bool.rec (motive := fun _ => A) (fN (a % b) (fun n => c (.nat k n))) (.bad 34) (Nat.beq b 0)) = _
 rw [beq_pos hb]
 show fN (a % b) (fun n => c (.nat k n)) = _
 rw [fN_eq]; rfl
theorem Log2_ok : Holds Tryz.prog K 120 := by
 rintro a s ⟨n, rfl, hn⟩
 suffices h : (fnC pc0 120).run (Rk Tryz.prog K noL) [iv .i64 (n : Int)] s = .ret (iv .i64 ((n * 78913 / 262144 : Nat) : Int)) s by
  refine ⟨_, _, fn_k h, fun m e => ?_⟩
  simp only [List.cons.injEq, and_true] at e
  have := iv_inj e
  have : n = m := by omega
  subst this
  exact ⟨rfl, rfl⟩
 generalize Rk Tryz.prog _ _ = r
 have e1 : ∀ c : V → A, xBin ⟨9, []⟩ false .mul (iv .i64 (n : Int)) (iv .i64 78913) c = c (iv .i64 ((n * 78913 : Nat) : Int)) := fun c => mul_nat _ _ .i64 (a := n) (b := 78913) (by show n * 78913 < 9223372036854775808; omega) c
 have e2 : ∀ c : V → A, xShift .shr (iv .i64 ((n * 78913 : Nat) : Int)) (iv .u64 18) c = c (iv .i64 ((n * 78913 / 262144 : Nat) : Int)) := fun c => shr_nat .i64 .u64 (b := 18) (by decide) c
 simp [-Int.natCast_mul, -Int.natCast_ediv, allLog2, gp_sp, nat_iv, e1, e2]
theorem Bool2_ok : Holds Tryz.prog K 122 := by
 rintro a s ⟨b, rfl⟩
 suffices h : (fnC pc0 122).run (Rk Tryz.prog K noL) [.bool b] s = .ret (iv .i64 ((if b = true then 1 else 0 : Nat) : Int)) s by
  exact ⟨_, _, fn_k h, fun m e => by cases e; exact ⟨rfl, rfl⟩⟩
 generalize Rk Tryz.prog _ _ = r
 cases b <;> simp [allBool2, gp_sp, nat_iv]
theorem l8_at {x : Nat} (h : x < 256) (c : V → A) : xIndexS (.str len8) (iv .u8 (x : Int)) c = c (iv .u8 (l8 x : Nat)) := idxS_s len8 .u8 (i := x) (by have : len8.length = 256 := rfl; omega) c
theorem Len64_ok : Holds Tryz.prog K 121 := by
 rintro a s ⟨n, rfl, hn⟩
 suffices h : (fnC pc0 121).run (Rk Tryz.prog K noL) [iv .u64 (n : Int)] s = .ret (iv .i64 (b32 n : Nat)) s by
  refine ⟨_, _, fn_k h, fun m e => ?_⟩
  simp only [List.cons.injEq, and_true] at e
  have := iv_inj e
  have : n = m := by omega
  subst this
  exact ⟨rfl, rfl⟩
 generalize Rk Tryz.prog _ _ = r
 have tail8 : ∀ (x m : Nat), x < 256 → m ≤ 56 → ∀ c : V → A, xIntConv .u8 (iv .u64 (x : Int)) (fun v2 => xIndexS (.str len8) v2 fun v3 => xIntConv .i64 v3 fun v4 => xBin ⟨9, []⟩ false .add (iv .i64 (m : Int)) v4 c) = c (iv .i64 ((m + l8 x : Nat) : Int)) := fun x m hx hm c => by
  have hl := (l8_bt x hx).1
  rw [conv_nat .u8 .u64 (show x < 256 from hx), l8_at hx, conv_nat .i64 .u8 (show l8 x < 9223372036854775808 by omega), add_ii, wrap64 (by omega) (by omega)]
  rw [Int.natCast_add]
 have tl : ∀ (x m : Nat) (mi : Int), mi = m → x < 256 → m ≤ 56 → ∀ c : V → A, xIntConv .u8 (iv .u64 (x : Int)) (fun v2 => xIndexS (.str len8) v2 fun v3 => xIntConv .i64 v3 fun v4 => xBin ⟨9, []⟩ false .add (iv .i64 mi) v4 c) = c (iv .i64 ((m + l8 x : Nat) : Int)) := fun x m mi e hx hm c => by subst e; exact tail8 x m hx hm c
 unfold len8 at tl
 clear tail8
 have sh : ∀ (x y : Nat) (k : Nat), y = x / 2 ^ k → k ≤ 64 → ∀ c : V → A, xShift .shr (iv .u64 (x : Int)) (iv .u64 (k : Int)) c = c (iv .u64 (y : Int)) := fun x y k e hk c => by subst e; exact shr_nat .u64 .u64 (b := k) hk c
 have z0 : ∀ c : V → A, xBin ⟨9, []⟩ false .add (iv .i64 32) (iv .i64 16) c = c (iv .i64 48) := fun c => by rw [add_ii]; rfl
 have z1 : ∀ c : V → A, xBin ⟨9, []⟩ false .add (iv .i64 0) (iv .i64 16) c = c (iv .i64 16) := fun c => by rw [add_ii]; rfl
 have z2 : ∀ c : V → A, xBin ⟨9, []⟩ false .add (iv .i64 48) (iv .i64 8) c = c (iv .i64 56) := fun c => by rw [add_ii]; rfl
 have z3 : ∀ c : V → A, xBin ⟨9, []⟩ false .add (iv .i64 32) (iv .i64 8) c = c (iv .i64 40) := fun c => by rw [add_ii]; rfl
 have z4 : ∀ c : V → A, xBin ⟨9, []⟩ false .add (iv .i64 16) (iv .i64 8) c = c (iv .i64 24) := fun c => by rw [add_ii]; rfl
 have z5 : ∀ c : V → A, xBin ⟨9, []⟩ false .add (iv .i64 0) (iv .i64 8) c = c (iv .i64 8) := fun c => by rw [add_ii]; rfl
 by_cases g0 : 4294967296 ≤ n
 ·have g0i : (4294967296 : Int) ≤ n := by omega
  obtain ⟨n1, hn1⟩ : ∃ x, x = n / 4294967296 := ⟨_, rfl⟩
  have sn1 := sh n n1 32 (by rw [hn1]) (by omega)
  simp only [Int.cast_ofNat_Int] at sn1
  by_cases g1 : 65536 ≤ n1
  ·have g1i : (65536 : Int) ≤ n1 := by omega
   obtain ⟨n2, hn2⟩ : ∃ x, x = n1 / 65536 := ⟨_, rfl⟩
   have sn2 := sh n1 n2 16 (by rw [hn2]) (by omega)
   simp only [Int.cast_ofNat_Int] at sn2
   by_cases g2 : 256 ≤ n2
   ·have g2i : (256 : Int) ≤ n2 := by omega
    obtain ⟨n3, hn3⟩ : ∃ x, x = n2 / 256 := ⟨_, rfl⟩
    have sn3 := sh n2 n3 8 (by rw [hn3]) (by omega)
    simp only [Int.cast_ofNat_Int] at sn3
    have hb : b32 n = 56 + l8 n3 := by subst hn3 hn2 hn1; unfold b32; rw [if_pos g0]; unfold b16; rw [if_pos g1]; unfold b8; rw [if_pos g2] <;> omega
    have ht := tl n3 56 56 rfl (by omega) (by omega)
    rw [hb]
    simp [-Int.natCast_add, allLen64, gp_sp, nat_iv, geq_ii, g0i, g1i, g2i, sn1, sn2, sn3, z0, z2, ht]
   ·have g2i : ¬ (256 : Int) ≤ n2 := by omega
    have hb : b32 n = 48 + l8 n2 := by subst hn2 hn1; unfold b32; rw [if_pos g0]; unfold b16; rw [if_pos g1]; unfold b8; rw [if_neg g2] <;> omega
    have ht := tl n2 48 48 rfl (by omega) (by omega)
    rw [hb]
    simp [-Int.natCast_add, allLen64, gp_sp, nat_iv, geq_ii, g0i, g1i, g2i, sn1, sn2, z0, ht]
  ·have g1i : ¬ (65536 : Int) ≤ n1 := by omega
   by_cases g2 : 256 ≤ n1
   ·have g2i : (256 : Int) ≤ n1 := by omega
    obtain ⟨n3, hn3⟩ : ∃ x, x = n1 / 256 := ⟨_, rfl⟩
    have sn3 := sh n1 n3 8 (by rw [hn3]) (by omega)
    simp only [Int.cast_ofNat_Int] at sn3
    have hb : b32 n = 40 + l8 n3 := by subst hn3 hn1; unfold b32; rw [if_pos g0]; unfold b16; rw [if_neg g1]; unfold b8; rw [if_pos g2] <;> omega
    have ht := tl n3 40 40 rfl (by omega) (by omega)
    rw [hb]
    simp [-Int.natCast_add, allLen64, gp_sp, nat_iv, geq_ii, g0i, g1i, g2i, sn1, sn3, z3, ht]
   ·have g2i : ¬ (256 : Int) ≤ n1 := by omega
    have hb : b32 n = 32 + l8 n1 := by subst hn1; unfold b32; rw [if_pos g0]; unfold b16; rw [if_neg g1]; unfold b8; rw [if_neg g2] <;> omega
    have ht := tl n1 32 32 rfl (by omega) (by omega)
    rw [hb]
    simp [-Int.natCast_add, allLen64, gp_sp, nat_iv, geq_ii, g0i, g1i, g2i, sn1, ht]
 ·have g0i : ¬ (4294967296 : Int) ≤ n := by omega
  by_cases g1 : 65536 ≤ n
  ·have g1i : (65536 : Int) ≤ n := by omega
   obtain ⟨n2, hn2⟩ : ∃ x, x = n / 65536 := ⟨_, rfl⟩
   have sn2 := sh n n2 16 (by rw [hn2]) (by omega)
   simp only [Int.cast_ofNat_Int] at sn2
   by_cases g2 : 256 ≤ n2
   ·have g2i : (256 : Int) ≤ n2 := by omega
    obtain ⟨n3, hn3⟩ : ∃ x, x = n2 / 256 := ⟨_, rfl⟩
    have sn3 := sh n2 n3 8 (by rw [hn3]) (by omega)
    simp only [Int.cast_ofNat_Int] at sn3
    have hb : b32 n = 24 + l8 n3 := by subst hn3 hn2; unfold b32; rw [if_neg g0]; unfold b16; rw [if_pos g1]; unfold b8; rw [if_pos g2] <;> omega
    have ht := tl n3 24 24 rfl (by omega) (by omega)
    rw [hb]
    simp [-Int.natCast_add, allLen64, gp_sp, nat_iv, geq_ii, g0i, g1i, g2i, sn2, sn3, z1, z4, ht]
   ·have g2i : ¬ (256 : Int) ≤ n2 := by omega
    have hb : b32 n = 16 + l8 n2 := by subst hn2; unfold b32; rw [if_neg g0]; unfold b16; rw [if_pos g1]; unfold b8; rw [if_neg g2] <;> omega
    have ht := tl n2 16 16 rfl (by omega) (by omega)
    rw [hb]
    simp [-Int.natCast_add, allLen64, gp_sp, nat_iv, geq_ii, g0i, g1i, g2i, sn2, z1, ht]
  ·have g1i : ¬ (65536 : Int) ≤ n := by omega
   by_cases g2 : 256 ≤ n
   ·have g2i : (256 : Int) ≤ n := by omega
    obtain ⟨n3, hn3⟩ : ∃ x, x = n / 256 := ⟨_, rfl⟩
    have sn3 := sh n n3 8 (by rw [hn3]) (by omega)
    simp only [Int.cast_ofNat_Int] at sn3
    have hb : b32 n = 8 + l8 n3 := by subst hn3; unfold b32; rw [if_neg g0]; unfold b16; rw [if_neg g1]; unfold b8; rw [if_pos g2] <;> omega
    have ht := tl n3 8 8 rfl (by omega) (by omega)
    rw [hb]
    simp [-Int.natCast_add, allLen64, gp_sp, nat_iv, geq_ii, g0i, g1i, g2i, sn3, z5, ht]
   ·have g2i : ¬ (256 : Int) ≤ n := by omega
    have hb : b32 n = 0 + l8 n := by unfold b32; rw [if_neg g0]; unfold b16; rw [if_neg g1]; unfold b8; rw [if_neg g2]; omega
    have ht := tl n 0 0 rfl (by omega) (by omega)
    rw [hb]
    simp [-Int.natCast_add, allLen64, gp_sp, nat_iv, geq_ii, g0i, g1i, g2i, ht]
theorem pow_at {s : S} (hT : Tabs s) {b : Nat} (hb : b < 20) (k : V → S → A) : xLoad false 1 (.ptr .h 0 b) s k = k (iv .u64 ((10 ^ b : Nat) : Int)) s := by
 obtain ⟨el, f2, h⟩ := hT.pow
 have hP := row_pt h (by simp [powL]) (o := b) (m := 1) (by omega)
 have e : (powL.map fun n : Nat => iv .u64 (n : Int)).getD (b + 0) .bad = iv .u64 ((10 ^ b : Nat) : Int) := by
  rw [List.getD_eq_getElem?_getD]
  simp [powL, hb]
 have := hP.load1 Nat.zero_lt_one (by rw [e]; exact iv_ne _ _) k
 rw [e] at this
 exact this
theorem NumDig_ok : Holds Tryz.prog K 84 := by
 rintro a s ⟨n, rfl, h0, hn, hT⟩
 have hLen := Rk_kept (L := noL) Len64_ok
 have hLog := Rk_kept (L := noL) Log2_ok
 have hB2 := Rk_kept (L := noL) Bool2_ok
 suffices h : (fnC pc0 84).run (Rk Tryz.prog K noL) [iv .u64 (n : Int)] s = .ret (iv .i64 (nd n : Nat)) s by
  refine ⟨_, _, fn_k h, fun m e => ?_⟩
  simp only [List.cons.injEq, and_true] at e
  have := iv_inj e
  have : n = m := by omega
  subst this
  exact ⟨rfl, rfl⟩
 generalize Rk Tryz.prog _ _ = r at hLen hLog hB2 ⊢
 obtain ⟨b1, b2⟩ := b32_bt n hn
 obtain ⟨w, s1, e1, p1⟩ := hLen [iv .u64 (n : Int)] s ⟨n, rfl, hn⟩
 obtain ⟨rfl, rfl⟩ := p1 n rfl
 obtain ⟨w, s2, e2, p2⟩ := hLog [iv .i64 (b32 n : Nat)] s1 ⟨b32 n, rfl, b1⟩
 obtain ⟨rfl, rfl⟩ := p2 _ rfl
 have hk : b32 n * 78913 / 262144 < 20 := by omega
 have hnd : nd n = b32 n * 78913 / 262144 + if 10 ^ (b32 n * 78913 / 262144) ≤ n then 1 else 0 := rfl
 rw [hnd]
 clear p1 p2 hnd
 generalize b32 n * 78913 / 262144 = k at *
 have hl := fun c => pow_at hT hk c
 have hi : ∀ c : V → A, xIdxAddrA 20 1 (.ptr .h 0 0) (iv .i64 (k : Int)) c = c (.ptr .h 0 k) := fun c => by rw [idxA_p 20 1 _ 0 0 k .i64 hk]; simp
 generalize hp : 10 ^ k = p at *
 obtain ⟨w, s3, e3, p3⟩ := hB2 [.bool (decide ((p : Int) ≤ n))] s2 ⟨_, rfl⟩
 obtain ⟨rfl, rfl⟩ := p3 _ rfl
 by_cases g : p ≤ n
 ·have g' : (p : Int) ≤ n := by omega
  rw [decide_eq_true g'] at e3
  have ad : ∀ c : V → A, xBin ⟨9, []⟩ false .add (iv .i64 (k : Int)) (iv .i64 1) c = c (iv .i64 ((k : Int) + 1)) := fun c => by rw [add_ii, wrap64 (by omega) (by omega)]
  simp at e3
  simp [allNumDig, gp_sp, nat_iv, e1, e2, hi, hl, geq_ii, g, g', e3, ad]
 ·have g' : ¬ (p : Int) ≤ n := by omega
  rw [decide_eq_false g'] at e3
  have ad : ∀ c : V → A, xBin ⟨9, []⟩ false .add (iv .i64 (k : Int)) (iv .i64 0) c = c (iv .i64 (k : Int)) := fun c => by rw [add_ii, Int.add_zero, wrap64 (by omega) (by omega)]
  simp at e3
  simp [allNumDig, gp_sp, nat_iv, e1, e2, hi, hl, geq_ii, g, g', e3, ad]
theorem small_all : (List.range 100).all (fun n => decide (digs n = if n < 10 then [48 + n] else [48 + n / 10, 48 + n % 10])) = true := by
 rw [List.all_eq_true]
 intro n hn
 have hn : n < 100 := by simpa using hn
 rw [decide_eq_true_eq]
 unfold digs
 by_cases g : n < 10
 ·rw [if_pos g, if_pos g]
 ·rw [if_neg g, if_neg g]
  unfold digs
  rw [if_pos (by omega)]; rfl
def dig36 : List Nat := [48, 49, 50, 51, 52, 53, 54, 55, 56, 57, 97, 98, 99, 100, 101, 102, 103, 104, 105, 106, 107, 108, 109, 110, 111, 112, 113, 114, 115, 116, 117, 118, 119, 120, 121, 122]
def sm200 : List Nat := [48, 48, 48, 49, 48, 50, 48, 51, 48, 52, 48, 53, 48, 54, 48, 55, 48, 56, 48, 57, 49, 48, 49, 49, 49, 50, 49, 51, 49, 52, 49, 53, 49, 54, 49, 55, 49, 56, 49, 57, 50, 48, 50, 49, 50, 50, 50, 51, 50, 52, 50, 53, 50, 54, 50, 55, 50, 56, 50, 57, 51, 48, 51, 49, 51, 50, 51, 51, 51, 52, 51, 53, 51, 54, 51, 55, 51, 56, 51, 57, 52, 48, 52, 49, 52, 50, 52, 51, 52, 52, 52, 53, 52, 54, 52, 55, 52, 56, 52, 57, 53, 48, 53, 49, 53, 50, 53, 51, 53, 52, 53, 53, 53, 54, 53, 55, 53, 56, 53, 57, 54, 48, 54, 49, 54, 50, 54, 51, 54, 52, 54, 53, 54, 54, 54, 55, 54, 56, 54, 57, 55, 48, 55, 49, 55, 50, 55, 51, 55, 52, 55, 53, 55, 54, 55, 55, 55, 56, 55, 57, 56, 48, 56, 49, 56, 50, 56, 51, 56, 52, 56, 53, 56, 54, 56, 55, 56, 56, 56, 57, 57, 48, 57, 49, 57, 50, 57, 51, 57, 52, 57, 53, 57, 54, 57, 55, 57, 56, 57, 57]
theorem sm_all : (List.range 100).all (fun n => decide ((sm200.drop (n * 2)).take 2 = [48 + n / 10, 48 + n % 10])) = true := by decide
theorem sm_get : (List.range 100).all (fun n => decide (sm200.getD (n * 2) 0 = 48 + n / 10) && decide (sm200.getD (n * 2 + 1) 0 = 48 + n % 10)) = true := by decide
theorem d36_all : (List.range 10).all (fun n => decide ((dig36.drop n).take 1 = [48 + n])) = true := by decide
theorem Small_ok : Holds Tryz.prog K 83 := by
 rintro a s ⟨n, rfl, hn⟩
 suffices h : (fnC pc0 83).run (Rk Tryz.prog K noL) [iv .i64 (n : Int)] s = .ret (.str (digs n)) s by
  refine ⟨_, _, fn_k h, fun m e => ?_⟩
  simp only [List.cons.injEq, and_true] at e
  have := iv_inj e
  have : n = m := by omega
  subst this
  exact ⟨rfl, rfl⟩
 generalize Rk Tryz.prog _ _ = r
 have hd := List.all_eq_true.1 small_all n (by simpa using hn)
 rw [decide_eq_true_eq] at hd
 rw [hd]
 by_cases g : n < 10
 ·have g' : (n : Int) < 10 := by omega
  rw [if_pos g]
  have ad : IntKind.i64.wrap ((n : Int) + 1) = (n : Int) + 1 := wrap64 (by omega) (by omega)
  have sl : ∀ c : V → A, xSliceT (.str dig36) (some (iv .i64 (n : Int))) (some (iv .i64 ((n : Int) + 1))) c = c (.str [48 + n]) := fun c => by
   have h := List.all_eq_true.1 d36_all n (by simpa using g)
   rw [decide_eq_true_eq] at h
   rw [sliceT_s dig36 (a := n) (b := n + 1) (.inr ⟨.i64, rfl⟩) (.inr ⟨.i64, by simp⟩) (by omega) (by have : dig36.length = 36 := rfl; omega), Nat.add_sub_cancel_left, h]
  unfold dig36 at sl
  simp [allSmall, gp_sp, nat_iv, lss_ii, add_ii, g', ad, sl]
 ·have g' : ¬ (n : Int) < 10 := by omega
  rw [if_neg g]
  have m2 : ∀ c : V → A, xBin ⟨9, []⟩ false .mul (iv .i64 (n : Int)) (iv .i64 2) c = c (iv .i64 ((n : Int) * 2)) := fun c => by
   have := mul_nat ⟨9, []⟩ false .i64 (a := n) (b := 2) (by show n * 2 < 9223372036854775808; omega) c
   rw [Int.natCast_mul] at this
   exact this
  have ad : IntKind.i64.wrap ((n : Int) * 2 + 2) = (n : Int) * 2 + 2 := wrap64 (by omega) (by omega)
  have sl : ∀ c : V → A, xSliceT (.str sm200) (some (iv .i64 ((n : Int) * 2))) (some (iv .i64 ((n : Int) * 2 + 2))) c = c (.str [48 + n / 10, 48 + n % 10]) := fun c => by
   have h := List.all_eq_true.1 sm_all n (by simpa using hn)
   rw [decide_eq_true_eq] at h
   rw [sliceT_s sm200 (a := n * 2) (b := n * 2 + 2) (.inr ⟨.i64, by simp⟩) (.inr ⟨.i64, by simp⟩) (by omega) (by have : sm200.length = 200 := rfl; omega), Nat.add_sub_cancel_left, h]
  unfold sm200 at sl
  simp [allSmall, gp_sp, nat_iv, lss_ii, add_ii, g', m2, ad, sl]
theorem ds_get : ∀ (k n j : Nat), j < k → (ds k n).getD j 0 = 48 + n / 10 ^ (k - 1 - j) % 10
 | 0, _, _, h => by omega
 | k + 1, n, j, h => by
  show (ds k (n / 10) ++ [48 + n % 10]).getD j 0 = _
  by_cases g : j < k
  ·rw [List.getD_eq_getElem?_getD, List.getElem?_append_left (by rw [ds_len]; exact g), ← List.getD_eq_getElem?_getD, ds_get k (n / 10) j g, Nat.div_div_eq_div_mul, show k + 1 - 1 - j = (k - 1 - j) + 1 by omega, Nat.pow_succ, Nat.mul_comm 10]
  ·rw [List.getD_eq_getElem?_getD, List.getElem?_append_right (by rw [ds_len]; omega), ds_len, show j - k = 0 by omega, show k + 1 - 1 - j = 0 by omega]
   simp
def FI10 (s0 : S) (A : Go.Ev.K) (l0 : List V) (k u0 nn u : Nat) (s : S) : Prop := ∃ l, Tr.get B.none A s.h = .row l 24 139 false 0 0 0 ∧ s.nx = s0.nx ∧ (∀ c, c ≠ A → Tr.get B.none c s.h = Tr.get B.none c s0.h) ∧ l.length = 24 ∧
 (∀ j, nn ≤ j → j < k → l.getD (1 + j) .bad = iv .u8 ((ds k u0).getD j 0 : Nat)) ∧ l.getD 0 .bad = l0.getD 0 .bad ∧ u = u0 / 10 ^ (k - nn) ∧ nn ≤ k
theorem upd_get (l : List V) (o : Nat) (x : V) (ho : o < l.length) (i : Nat) : (upd [x] o l).getD i .bad = if i = o then x else l.getD i .bad := by
 rw [List.getD_eq_getElem?_getD, Go.Ev.upd_get [x] o l (by simp; omega) i]
 by_cases g : i = o
 ·subst g
  rw [if_pos (by simp), if_pos rfl]; simp
 ·rw [if_neg (by simp; omega), if_neg g, List.getD_eq_getElem?_getD]
theorem upd_len (l : List V) (o : Nat) (x : V) (ho : o < l.length) : (upd [x] o l).length = l.length := Go.Ev.upd_length [x] o l (by simp; omega)
theorem FI10.one {s0 s : S} {A : Go.Ev.K} {l0 : List V} {k u0 nn u : Nat} (h : FI10 s0 A l0 k u0 (nn + 1) u s) (hk : k ≤ 23) : ∃ s1, (∀ K : V → S → Go.Ev.A, xStore 1 (.ptr A 0 (1 + nn)) (iv .u8 ((48 + u % 10 : Nat) : Int)) s K = K Go.Ev.undef s1) ∧ FI10 s0 A l0 k u0 nn (u / 10) s1 := by
 obtain ⟨l, h1, h2, h3, h4, h5, h6, h7, h8⟩ := h
 refine ⟨_, fun K => store_at h1 (1 + nn) _ (cellsC_iv _ _) (by omega) K, upd [iv .u8 ((48 + u % 10 : Nat) : Int)] (1 + nn) l, by rw [setB_get, if_pos rfl], h2, fun c hc => by rw [setB_get, if_neg hc]; exact h3 c hc, by rw [upd_len _ _ _ (by omega)]; exact h4, fun j g1 g2 => ?_, ?_, ?_, by omega⟩
 ·rw [upd_get _ _ _ (by omega)]
  by_cases g : j = nn
  ·subst g
   rw [if_pos rfl, ds_get k u0 j g2, h7, show k - 1 - j = k - (j + 1) by omega]
  ·rw [if_neg (by omega)]
   exact h5 j (by omega) g2
 ·rw [upd_get _ _ _ (by omega), if_neg (by omega)]
  exact h6
 ·rw [h7, Nat.div_div_eq_div_mul, show k - nn = (k - (nn + 1)) + 1 by omega, Nat.pow_succ]
theorem idxS_sl (A : Go.Ev.K) (k cap : Nat) {i : Nat} (h : i < k) (c : V → Go.Ev.A) : xIdxAddrS 1 (.sl A 0 1 k cap) (iv .i64 (i : Int)) c = c (.ptr A 0 (1 + i)) := by
 show (Bool.rec (motive := fun _ => Go.Ev.A) _ (fN (Nat.add 1 (Nat.mul i 1)) (fun o => c (.ptr A 0 o))) (Nat.blt i k) : Go.Ev.A) = _
 rw [show Nat.blt i k = true by rw [Nat.blt_eq]; exact h]
 show fN (Nat.add 1 (Nat.mul i 1)) _ = _
 rw [fN_eq, show Nat.add 1 (Nat.mul i 1) = 1 + i by show 1 + i * 1 = _; omega]
theorem sm_at {m : Nat} (h : m < 100) (c : V → Go.Ev.A) : xIndexS (.str sm200) (iv .u32 ((m * 2 : Nat) : Int)) c = c (iv .u8 ((48 + m / 10 : Nat) : Int)) ∧ xIndexS (.str sm200) (iv .u32 ((m * 2 + 1 : Nat) : Int)) c = c (iv .u8 ((48 + m % 10 : Nat) : Int)) := by
 have hs := List.all_eq_true.1 sm_get m (by simpa using h)
 simp only [Bool.and_eq_true, decide_eq_true_eq] at hs
 have hl : sm200.length = 200 := rfl
 exact ⟨by rw [idxS_s sm200 .u32 (i := m * 2) (by omega), hs.1], by rw [idxS_s sm200 .u32 (i := m * 2 + 1) (by omega), hs.2]⟩
theorem FI10.two {s0 s : S} {A : Go.Ev.K} {l0 : List V} {k u0 n u : Nat} (h : FI10 s0 A l0 k u0 (n + 2) u s) (hk : k ≤ 23) : ∃ s1 s2, (∀ K : V → S → Go.Ev.A, xStore 1 (.ptr A 0 (1 + (n + 1))) (iv .u8 ((48 + u % 100 % 10 : Nat) : Int)) s K = K Go.Ev.undef s1) ∧
  (∀ K : V → S → Go.Ev.A, xStore 1 (.ptr A 0 (1 + n)) (iv .u8 ((48 + u % 100 / 10 : Nat) : Int)) s1 K = K Go.Ev.undef s2) ∧ FI10 s0 A l0 k u0 n (u / 100) s2 := by
 obtain ⟨s1, e1, h1⟩ := h.one hk
 obtain ⟨s2, e2, h2⟩ := h1.one hk
 refine ⟨s1, s2, ?_, ?_, ?_⟩
 ·rw [show u % 100 % 10 = u % 10 by omega]; exact e1
 ·rw [show u % 100 / 10 = u / 10 % 10 by omega]; exact e2
 ·rw [show u / 100 = u / 10 / 10 by omega]; exact h2
theorem FI10.le {s0 s : S} {A : Go.Ev.K} {l0 : List V} {k u0 n u : Nat} (h : FI10 s0 A l0 k u0 n u s) : u ≤ u0 ∧ n ≤ k := by
 obtain ⟨l, -, -, -, -, -, -, h7, h8⟩ := h
 exact ⟨by rw [h7]; exact Nat.div_le_self _ _, h8⟩
def FF (A : Go.Ev.K) (k cap nn u : Nat) (tm : T) : Prop := gp 0 tm = .sl A 0 1 k cap ∧ gp 1 tm = iv .u64 (u : Int) ∧ gp 4 tm = iv .i64 (nn : Int) ∧ gp 240 tm = .bad
def PF (s0 : S) (A : Go.Ev.K) (l0 : List V) (k cap u0 : Nat) (a : Go.Ev.A) : Prop := ∃ tm' s' nn u, a = .ext 0 tm' s' ∧ FF A k cap nn u tm' ∧ FI10 s0 A l0 k u0 nn u s' ∧ nn < 8
def ltF (s0 : S) (A : Go.Ev.K) (l0 : List V) (k cap u0 : Nat) : Lt := ⟨fun tm s' => ∃ nn u, FF A k cap nn u tm ∧ FI10 s0 A l0 k u0 nn u s', fun _ _ a => PF s0 A l0 k cap u0 a⟩
theorem sm2 {m x y : Nat} (h : m < 100) (hx : x = 48 + m / 10) (hy : y = 48 + m % 10) : (∀ c : V → Go.Ev.A, xBin ⟨9, []⟩ false .mul (iv .u32 (m : Int)) (iv .u32 2) c = c (iv .u32 ((m * 2 : Nat) : Int))) ∧
  (∀ c : V → Go.Ev.A, xBin ⟨9, []⟩ false .add (iv .u32 ((m * 2 : Nat) : Int)) (iv .u32 1) c = c (iv .u32 ((m * 2 + 1 : Nat) : Int))) ∧
  (∀ c : V → Go.Ev.A, xIndexS (.str sm200) (iv .u32 ((m * 2 : Nat) : Int)) c = c (iv .u8 (x : Int))) ∧ (∀ c : V → Go.Ev.A, xIndexS (.str sm200) (iv .u32 ((m * 2 + 1 : Nat) : Int)) c = c (iv .u8 (y : Int))) := by
 subst hx hy
 refine ⟨fun c => mul_nat _ _ .u32 (a := m) (b := 2) (by show m * 2 < 4294967296; omega) c, fun c => ?_, fun c => (sm_at h c).1, fun c => (sm_at h c).2⟩
 show xBin ⟨9, []⟩ false .add (.nat .u32 (m * 2)) (.nat .u32 1) c = _
 rw [xBin_nn]
 show natR .u32 (m * 2 + 1) c = _
 rw [natR_eq, wrap_nat (by show m * 2 + 1 < 4294967296; omega)]; rfl
theorem subN {n m d : Nat} (h : m + d = n) (hn : n ≤ 23) {di : Int} (hd : di = d) (c : V → Go.Ev.A) : xBin ⟨9, []⟩ false .sub (iv .i64 (n : Int)) (iv .i64 di) c = c (iv .i64 (m : Int)) := by
 rw [sub_ii, hd, wrap64 (by omega) (by omega)]
 congr 2
 omega
theorem loopF {s0 : S} {A : Go.Ev.K} {l0 : List V} {k cap u0 : Nat} (hk : k ≤ 23) (hu0 : u0 < 18446744073709551616) : ∀ tm s', (ltF s0 A l0 k cap u0).pre tm s' → (ltF s0 A l0 k cap u0).post tm s' (cFmt10_4.run (Rk Tryz.prog K fun _ => ltF s0 A l0 k cap u0) tm s') := by
 refine loop_k (L := fun _ => ltF s0 A l0 k cap u0) pcOk0.1 pcOk0.2 szFmt10_4 (fun tm _ => (toI (gp 4 tm)).toNat) (fun _ _ _ _ (h : PF _ _ _ _ _ _ _) => by obtain ⟨_, _, _, _, rfl, _⟩ := h; exact fun h => h) ?_
 rintro tm s' ⟨nn, u, ⟨h0, h1, h4, h240⟩, hF⟩ IH
 show PF _ _ _ _ _ _ (cFmt10_4.run _ tm s')
 generalize Rk Tryz.prog _ _ = r at IH ⊢
 obtain ⟨hu, hnk⟩ := hF.le
 by_cases g : 8 ≤ nn
 ·have g' : (8 : Int) ≤ nn := by omega
  obtain ⟨n0, hn0⟩ : ∃ x, nn = x + 8 := ⟨nn - 8, by omega⟩
  have hF0 := hF
  rw [hn0] at hF
  obtain ⟨s1, s2, a1, a2, F2⟩ := FI10.two (n := n0 + 6) hF hk
  obtain ⟨s3, s4, a3, a4, F4⟩ := FI10.two (n := n0 + 4) F2 hk
  obtain ⟨s5, s6, a5, a6, F6⟩ := FI10.two (n := n0 + 2) F4 hk
  obtain ⟨s7, s8, a7, a8, F8⟩ := FI10.two (n := n0) F6 hk
  rw [show u / 100 / 100 / 100 / 100 = u / 100000000 by omega] at F8
  obtain ⟨u8, hu8⟩ : ∃ x, x = u / 100000000 := ⟨_, rfl⟩
  obtain ⟨q5, hq5⟩ : ∃ x, x = u % 100000000 := ⟨_, rfl⟩
  obtain ⟨q6, hq6⟩ : ∃ x, x = q5 / 10000 := ⟨_, rfl⟩
  obtain ⟨q7, hq7⟩ : ∃ x, x = q5 % 10000 := ⟨_, rfl⟩
  obtain ⟨q8, hq8⟩ : ∃ x, x = q7 / 100 := ⟨_, rfl⟩
  obtain ⟨q9, hq9⟩ : ∃ x, x = q7 % 100 := ⟨_, rfl⟩
  obtain ⟨q10, hq10⟩ : ∃ x, x = q6 / 100 := ⟨_, rfl⟩
  obtain ⟨q11, hq11⟩ : ∃ x, x = q6 % 100 := ⟨_, rfl⟩
  have b5 : ∀ c : V → Go.Ev.A, xBin ⟨9, []⟩ false .rem (iv .u64 (u : Int)) (iv .u64 100000000) c = c (iv .u64 (q5 : Int)) := fun c => by rw [hq5]; exact rem_nat _ _ .u64 (b := 100000000) (by omega) c
  have b5' : ∀ c : V → Go.Ev.A, xIntConv .u32 (iv .u64 (q5 : Int)) c = c (iv .u32 (q5 : Int)) := fun c => conv_nat .u32 .u64 (show q5 < 4294967296 by omega) c
  have bu : ∀ c : V → Go.Ev.A, xBin ⟨9, []⟩ false .quo (iv .u64 (u : Int)) (iv .u64 100000000) c = c (iv .u64 (u8 : Int)) := fun c => by rw [hu8]; exact quo_nat _ _ .u64 (b := 100000000) (by omega) (show u < 18446744073709551616 by omega) c
  have b6 : ∀ c : V → Go.Ev.A, xBin ⟨9, []⟩ false .quo (iv .u32 (q5 : Int)) (iv .u32 10000) c = c (iv .u32 (q6 : Int)) := fun c => by rw [hq6]; exact quo_nat _ _ .u32 (b := 10000) (by omega) (show q5 < 4294967296 by omega) c
  have b7 : ∀ c : V → Go.Ev.A, xBin ⟨9, []⟩ false .rem (iv .u32 (q5 : Int)) (iv .u32 10000) c = c (iv .u32 (q7 : Int)) := fun c => by rw [hq7]; exact rem_nat _ _ .u32 (b := 10000) (by omega) c
  have b8 : ∀ c : V → Go.Ev.A, xBin ⟨9, []⟩ false .quo (iv .u32 (q7 : Int)) (iv .u32 100) c = c (iv .u32 (q8 : Int)) := fun c => by rw [hq8]; exact quo_nat _ _ .u32 (b := 100) (by omega) (show q7 < 4294967296 by omega) c
  have b9 : ∀ c : V → Go.Ev.A, xBin ⟨9, []⟩ false .rem (iv .u32 (q7 : Int)) (iv .u32 100) c = c (iv .u32 (q9 : Int)) := fun c => by rw [hq9]; exact rem_nat _ _ .u32 (b := 100) (by omega) c
  have b10 : ∀ c : V → Go.Ev.A, xBin ⟨9, []⟩ false .quo (iv .u32 (q6 : Int)) (iv .u32 100) c = c (iv .u32 (q10 : Int)) := fun c => by rw [hq10]; exact quo_nat _ _ .u32 (b := 100) (by omega) (show q6 < 4294967296 by omega) c
  have b11 : ∀ c : V → Go.Ev.A, xBin ⟨9, []⟩ false .rem (iv .u32 (q6 : Int)) (iv .u32 100) c = c (iv .u32 (q11 : Int)) := fun c => by rw [hq11]; exact rem_nat _ _ .u32 (b := 100) (by omega) c
  obtain ⟨d1, hd1⟩ : ∃ x, x = 48 + u % 100 % 10 := ⟨_, rfl⟩
  obtain ⟨d2, hd2⟩ : ∃ x, x = 48 + u % 100 / 10 := ⟨_, rfl⟩
  obtain ⟨d3, hd3⟩ : ∃ x, x = 48 + u / 100 % 100 % 10 := ⟨_, rfl⟩
  obtain ⟨d4, hd4⟩ : ∃ x, x = 48 + u / 100 % 100 / 10 := ⟨_, rfl⟩
  obtain ⟨d5, hd5⟩ : ∃ x, x = 48 + u / 100 / 100 % 100 % 10 := ⟨_, rfl⟩
  obtain ⟨d6, hd6⟩ : ∃ x, x = 48 + u / 100 / 100 % 100 / 10 := ⟨_, rfl⟩
  obtain ⟨d7, hd7⟩ : ∃ x, x = 48 + u / 100 / 100 / 100 % 100 % 10 := ⟨_, rfl⟩
  obtain ⟨d8, hd8⟩ : ∃ x, x = 48 + u / 100 / 100 / 100 % 100 / 10 := ⟨_, rfl⟩
  rw [← hd1] at a1; rw [← hd2] at a2; rw [← hd3] at a3; rw [← hd4] at a4; rw [← hd5] at a5; rw [← hd6] at a6; rw [← hd7] at a7; rw [← hd8] at a8
  obtain ⟨m9, x9, i9, j9⟩ := sm2 (m := q9) (x := d2) (y := d1) (by omega) (by omega) (by omega)
  obtain ⟨m8, x8, i8, j8⟩ := sm2 (m := q8) (x := d4) (y := d3) (by omega) (by omega) (by omega)
  obtain ⟨m11, x11, i11, j11⟩ := sm2 (m := q11) (x := d6) (y := d5) (by omega) (by omega) (by omega)
  obtain ⟨m10, x10, i10, j10⟩ := sm2 (m := q10) (x := d8) (y := d7) (by omega) (by omega) (by omega)
  clear hq5 hq6 hq7 hq8 hq9 hq10 hq11 hd1 hd2 hd3 hd4 hd5 hd6 hd7 hd8
  obtain ⟨n1, hn1⟩ : ∃ x, x = n0 + 1 := ⟨_, rfl⟩
  obtain ⟨n2, hn2⟩ : ∃ x, x = n0 + 2 := ⟨_, rfl⟩
  obtain ⟨n3, hn3⟩ : ∃ x, x = n0 + 3 := ⟨_, rfl⟩
  obtain ⟨n4, hn4⟩ : ∃ x, x = n0 + 4 := ⟨_, rfl⟩
  obtain ⟨n5, hn5⟩ : ∃ x, x = n0 + 5 := ⟨_, rfl⟩
  obtain ⟨n6, hn6⟩ : ∃ x, x = n0 + 6 := ⟨_, rfl⟩
  obtain ⟨n7, hn7⟩ : ∃ x, x = n0 + 7 := ⟨_, rfl⟩
  rw [show n0 + 6 + 1 = n7 by omega] at a1
  rw [← hn6] at a2
  rw [show n0 + 4 + 1 = n5 by omega] at a3
  rw [← hn4] at a4
  rw [show n0 + 2 + 1 = n3 by omega] at a5
  rw [← hn2] at a6
  rw [← hn1] at a7
  have t1 := subN (n := nn) (m := n7) (d := 1) (by omega) (by omega) (di := 1) rfl
  have t2 := subN (n := nn) (m := n6) (d := 2) (by omega) (by omega) (di := 2) rfl
  have t3 := subN (n := nn) (m := n5) (d := 3) (by omega) (by omega) (di := 3) rfl
  have t4 := subN (n := nn) (m := n4) (d := 4) (by omega) (by omega) (di := 4) rfl
  have t5 := subN (n := nn) (m := n3) (d := 5) (by omega) (by omega) (di := 5) rfl
  have t6 := subN (n := nn) (m := n2) (d := 6) (by omega) (by omega) (di := 6) rfl
  have t7 := subN (n := nn) (m := n1) (d := 7) (by omega) (by omega) (di := 7) rfl
  have t8 := subN (n := nn) (m := n0) (d := 8) (by omega) (by omega) (di := 8) rfl
  have w1 := fun c => idxS_sl A k cap (i := n7) (by omega) c
  have w2 := fun c => idxS_sl A k cap (i := n6) (by omega) c
  have w3 := fun c => idxS_sl A k cap (i := n5) (by omega) c
  have w4 := fun c => idxS_sl A k cap (i := n4) (by omega) c
  have w5 := fun c => idxS_sl A k cap (i := n3) (by omega) c
  have w6 := fun c => idxS_sl A k cap (i := n2) (by omega) c
  have w7 := fun c => idxS_sl A k cap (i := n1) (by omega) c
  have w8 := fun c => idxS_sl A k cap (i := n0) (by omega) c
  generalize q9 * 2 + 1 = p9' at *
  generalize q8 * 2 + 1 = p8' at *
  generalize q11 * 2 + 1 = p11' at *
  generalize q10 * 2 + 1 = p10' at *
  generalize q9 * 2 = p9 at *
  generalize q8 * 2 = p8 at *
  generalize q11 * 2 = p11 at *
  generalize q10 * 2 = p10 at *
  unfold sm200 at i9 j9 i8 j8 i11 j11 i10 j10
  have key : ∀ t : T, FF A k cap n0 u8 t → PF s0 A l0 k cap u0 (r.code fiFmt10 uFmt10_4 t s8) := fun t ht =>
   IH t s8 (by rw [ht.2.2.1, h4, toI_iv, toI_iv]; omega) ⟨n0, u8, ht, by rw [hu8]; exact F8⟩
  simp [lpFmt10_4, allFmt10, gp_sp, h0, h1, h4, geq_ii, nat_iv, g', b5, b5', bu, b6, b7, b8, b9, b10, b11, m9, x9, i9, j9, m8, x8, i8, j8, m11, x11, i11, j11, m10, x10, i10, j10, t1, t2, t3, t4, t5, t6, t7, t8, w1, w2, w3, w4, w5, w6, w7, w8, a1, a2, a3, a4, a5, a6, a7, a8]
  exact key _ ⟨by simp [gp_sp, h0], by simp [gp_sp], by simp [gp_sp], by simp [gp_sp, h240]⟩
 ·have g' : ¬ (8 : Int) ≤ nn := by omega
  simp [lpFmt10_4, allFmt10, gp_sp, h4, geq_ii, nat_iv, g']
  exact ⟨_, _, nn, u, rfl, ⟨by simp [gp_sp, h0], by simp [gp_sp, h1], by simp [gp_sp, h4], by simp [gp_sp, h240]⟩, hF, by omega⟩
theorem FI10.small {s0 s : S} {A : Go.Ev.K} {l0 : List V} {k u0 n u : Nat} (h : FI10 s0 A l0 k u0 n u s) (hu : u0 < 10 ^ k) : u < 10 ^ n := by
 obtain ⟨l, -, -, -, -, -, -, h7, h8⟩ := h
 rw [h7, Nat.div_lt_iff_lt_mul (Nat.pow_pos (by omega)), ← Nat.pow_add, show n + (k - n) = k by omega]
 exact hu
theorem Fmt10_run {s : S} {A : Go.Ev.K} {l0 : List V} {k cap u0 : Nat} (hg : Tr.get B.none A s.h = .row l0 24 139 false 0 0 0) (hl0 : l0.length = 24) (hk : k ≤ 23) (h64 : u0 < 18446744073709551616) (hu : u0 < 10 ^ k) :
  ∃ s', (fnC pc0 85).run (Rk Tryz.prog K fun _ => ltF s A l0 k cap u0) [.sl A 0 1 k cap, iv .u64 (u0 : Int)] s = .ret (.ls 1 []) s' ∧ ∃ u, FI10 s A l0 k u0 0 u s' := by
 have hL := loopF (s0 := s) (A := A) (l0 := l0) (cap := cap) hk h64
 generalize Rk Tryz.prog _ _ = r at hL ⊢
 have hlen : ∀ c : V → Go.Ev.A, xLenS (.sl A 0 1 k cap) c = c (iv .i64 (k : Int)) := fun c => rfl
 simp [allFmt10, gp_sp, hlen]
 generalize hA : cFmt10_4.run r _ s = y
 have := hA ▸ hL _ _ ⟨k, u0, ⟨by simp [gp_sp], by simp [gp_sp], by simp [gp_sp], by simp [gp_sp]⟩, l0, hg, rfl, fun _ _ => rfl, hl0, fun j h1 h2 => by omega, rfl, by rw [Nat.sub_self]; simp, Nat.le_refl _⟩
 obtain ⟨tm, s1, n0, v0, rfl, ⟨f0, f1, f4, f240⟩, F0, hn8⟩ := this
 clear hA hL
 have hv0 := F0.small hu
 have hp7 : 10 ^ n0 ≤ 10 ^ 7 := Nat.pow_le_pow_right (by omega) (by omega)
 have hnk := F0.le.2
 have hc12 : ∀ c : V → Go.Ev.A, xIntConv .u32 (iv .u64 (v0 : Int)) c = c (iv .u32 (v0 : Int)) := fun c => conv_nat .u32 .u64 (show v0 < 4294967296 by omega) c
 by_cases g0 : 4 ≤ n0
 ·have g0i : (4 : Int) ≤ n0 := by omega
  obtain ⟨n1, hn1⟩ : ∃ x, n0 = x + 4 := ⟨n0 - 4, by omega⟩
  have FA := F0
  rw [hn1] at FA
  obtain ⟨sa1, sa2, aa1, aa2, FA2⟩ := FI10.two (n := n1 + 2) FA hk
  obtain ⟨sa3, sa4, aa3, aa4, FA4⟩ := FI10.two (n := n1) FA2 hk
  rw [show v0 / 100 / 100 = v0 / 10000 by omega] at FA4
  obtain ⟨v1, hv1⟩ : ∃ x, x = v0 / 10000 := ⟨_, rfl⟩
  rw [← hv1] at FA4
  obtain ⟨q13, hq13⟩ : ∃ x, x = v0 % 10000 := ⟨_, rfl⟩
  obtain ⟨q14, hq14⟩ : ∃ x, x = q13 / 100 := ⟨_, rfl⟩
  obtain ⟨q15, hq15⟩ : ∃ x, x = q13 % 100 := ⟨_, rfl⟩
  have c13 : ∀ c : V → Go.Ev.A, xBin ⟨9, []⟩ false .rem (iv .u32 (v0 : Int)) (iv .u32 10000) c = c (iv .u32 (q13 : Int)) := fun c => by rw [hq13]; exact rem_nat _ _ .u32 (b := 10000) (by omega) c
  have cu1 : ∀ c : V → Go.Ev.A, xBin ⟨9, []⟩ false .quo (iv .u32 (v0 : Int)) (iv .u32 10000) c = c (iv .u32 (v1 : Int)) := fun c => by rw [hv1]; exact quo_nat _ _ .u32 (b := 10000) (by omega) (show v0 < 4294967296 by omega) c
  have c14 : ∀ c : V → Go.Ev.A, xBin ⟨9, []⟩ false .quo (iv .u32 (q13 : Int)) (iv .u32 100) c = c (iv .u32 (q14 : Int)) := fun c => by rw [hq14]; exact quo_nat _ _ .u32 (b := 100) (by omega) (show q13 < 4294967296 by omega) c
  have c15 : ∀ c : V → Go.Ev.A, xBin ⟨9, []⟩ false .rem (iv .u32 (q13 : Int)) (iv .u32 100) c = c (iv .u32 (q15 : Int)) := fun c => by rw [hq15]; exact rem_nat _ _ .u32 (b := 100) (by omega) c
  obtain ⟨da1, hda1⟩ : ∃ x, x = 48 + v0 % 100 % 10 := ⟨_, rfl⟩
  obtain ⟨da2, hda2⟩ : ∃ x, x = 48 + v0 % 100 / 10 := ⟨_, rfl⟩
  obtain ⟨da3, hda3⟩ : ∃ x, x = 48 + v0 / 100 % 100 % 10 := ⟨_, rfl⟩
  obtain ⟨da4, hda4⟩ : ∃ x, x = 48 + v0 / 100 % 100 / 10 := ⟨_, rfl⟩
  rw [← hda1] at aa1; rw [← hda2] at aa2; rw [← hda3] at aa3; rw [← hda4] at aa4
  obtain ⟨m15, x15, i15, j15⟩ := sm2 (m := q15) (x := da2) (y := da1) (by omega) (by omega) (by omega)
  obtain ⟨m14, x14, i14, j14⟩ := sm2 (m := q14) (x := da4) (y := da3) (by omega) (by omega) (by omega)
  obtain ⟨na1, hna1⟩ : ∃ x, x = n1 + 1 := ⟨_, rfl⟩
  obtain ⟨na2, hna2⟩ : ∃ x, x = n1 + 2 := ⟨_, rfl⟩
  obtain ⟨na3, hna3⟩ : ∃ x, x = n1 + 3 := ⟨_, rfl⟩
  rw [show n1 + 2 + 1 = na3 by omega] at aa1
  rw [← hna2] at aa2
  rw [← hna1] at aa3
  have ta1 := subN (n := n0) (m := na3) (d := 1) (by omega) (by omega) (di := 1) rfl
  have wa1 := fun c => idxS_sl A k cap (i := na3) (by omega) c
  have ta2 := subN (n := n0) (m := na2) (d := 2) (by omega) (by omega) (di := 2) rfl
  have wa2 := fun c => idxS_sl A k cap (i := na2) (by omega) c
  have ta3 := subN (n := n0) (m := na1) (d := 3) (by omega) (by omega) (di := 3) rfl
  have wa3 := fun c => idxS_sl A k cap (i := na1) (by omega) c
  have ta4 := subN (n := n0) (m := n1) (d := 4) (by omega) (by omega) (di := 4) rfl
  have wa4 := fun c => idxS_sl A k cap (i := n1) (by omega) c
  generalize q15 * 2 + 1 = p15' at *
  generalize q14 * 2 + 1 = p14' at *
  generalize q15 * 2 = p15 at *
  generalize q14 * 2 = p14 at *
  unfold sm200 at i15 j15 i14 j14
  by_cases g1 : 2 ≤ n1
  ·have g1i : (2 : Int) ≤ n1 := by omega
   obtain ⟨n2, hn2⟩ : ∃ x, n1 = x + 2 := ⟨n1 - 2, by omega⟩
   have FB := FA4
   rw [hn2] at FB
   obtain ⟨sb1, sb2, ab1, ab2, FB2⟩ := FI10.two (n := n2) FB hk
   obtain ⟨v2, hv2⟩ : ∃ x, x = v1 / 100 := ⟨_, rfl⟩
   rw [← hv2] at FB2
   obtain ⟨q16, hq16⟩ : ∃ x, x = v1 % 100 := ⟨_, rfl⟩
   have c16 : ∀ c : V → Go.Ev.A, xBin ⟨9, []⟩ false .rem (iv .u32 (v1 : Int)) (iv .u32 100) c = c (iv .u32 (q16 : Int)) := fun c => by rw [hq16]; exact rem_nat _ _ .u32 (b := 100) (by omega) c
   have cu2 : ∀ c : V → Go.Ev.A, xBin ⟨9, []⟩ false .quo (iv .u32 (v1 : Int)) (iv .u32 100) c = c (iv .u32 (v2 : Int)) := fun c => by rw [hv2]; exact quo_nat _ _ .u32 (b := 100) (by omega) (show v1 < 4294967296 by omega) c
   obtain ⟨db1, hdb1⟩ : ∃ x, x = 48 + v1 % 100 % 10 := ⟨_, rfl⟩
   obtain ⟨db2, hdb2⟩ : ∃ x, x = 48 + v1 % 100 / 10 := ⟨_, rfl⟩
   rw [← hdb1] at ab1; rw [← hdb2] at ab2
   obtain ⟨m16, x16, i16, j16⟩ := sm2 (m := q16) (x := db2) (y := db1) (by omega) (by omega) (by omega)
   obtain ⟨nb1, hnb1⟩ : ∃ x, x = n2 + 1 := ⟨_, rfl⟩
   rw [← hnb1] at ab1
   have tb1 := subN (n := n1) (m := nb1) (d := 1) (by omega) (by omega) (di := 1) rfl
   have wb1 := fun c => idxS_sl A k cap (i := nb1) (by omega) c
   have tb2 := subN (n := n1) (m := n2) (d := 2) (by omega) (by omega) (di := 2) rfl
   have wb2 := fun c => idxS_sl A k cap (i := n2) (by omega) c
   generalize q16 * 2 + 1 = p16' at *
   generalize q16 * 2 = p16 at *
   unfold sm200 at i16 j16
   by_cases g2 : 0 < n2
   ·have g2i : (0 : Int) < n2 := by omega
    have FC := FB2
    rw [show n2 = 0 + 1 by omega] at FC
    have hv10 := FC.small hu
    obtain ⟨sc1, ac1, FC1⟩ := FC.one hk
    rw [show 48 + v2 % 10 = 48 + v2 by omega] at ac1
    have ac1' : ∀ K : V → S → Go.Ev.A, xStore 1 (.ptr A 0 1) (iv .u8 ((48 : Int) + v2)) sb2 K = K Go.Ev.undef sc1 := fun K => by have := ac1 K; rw [Int.natCast_add] at this; exact this
    have cc : ∀ c : V → Go.Ev.A, xBin ⟨9, []⟩ false .add (iv .u32 48) (iv .u32 (v2 : Int)) c = c (iv .u32 ((48 : Int) + v2)) := fun c => by
     rw [add_ii]; congr 2; have := wrap_nat (k := .u32) (n := 48 + v2) (by show 48 + v2 < 4294967296; omega); exact this
    have cv : ∀ c : V → Go.Ev.A, xIntConv .u8 (iv .u32 ((48 : Int) + v2)) c = c (iv .u8 ((48 : Int) + v2)) := fun c => conv_nat .u8 .u32 (n := 48 + v2) (show 48 + v2 < 256 by omega) c
    have w0 : ∀ c : V → Go.Ev.A, xIdxAddrS 1 (.sl A 0 1 k cap) (iv .i64 0) c = c (.ptr A 0 1) := fun c => idxS_sl A k cap (i := 0) (by omega) c
    refine ⟨sc1, ?_, _, FC1⟩
    simp [blockA_ext, gp_sp, f0, f1, f4, f240, hc12, geq_ii, gtr_ii, nat_iv, g0i, c13, cu1, c14, c15, m15, x15, i15, j15, m14, x14, i14, j14, ta1, ta2, ta3, ta4, wa1, wa2, wa3, wa4, aa1, aa2, aa3, aa4, g1i, c16, cu2, m16, x16, i16, j16, tb1, tb2, wb1, wb2, ab1, ab2, g2, cc, cv, w0, ac1']
   ·have g2i : ¬ (0 : Int) < n2 := by omega
    refine ⟨sb2, ?_, _, by have h := FB2; rw [show n2 = 0 by omega] at h; exact h⟩
    simp [blockA_ext, gp_sp, f0, f1, f4, f240, hc12, geq_ii, gtr_ii, nat_iv, g0i, c13, cu1, c14, c15, m15, x15, i15, j15, m14, x14, i14, j14, ta1, ta2, ta3, ta4, wa1, wa2, wa3, wa4, aa1, aa2, aa3, aa4, g1i, c16, cu2, m16, x16, i16, j16, tb1, tb2, wb1, wb2, ab1, ab2, g2]
  ·have g1i : ¬ (2 : Int) ≤ n1 := by omega
   by_cases g2 : 0 < n1
   ·have g2i : (0 : Int) < n1 := by omega
    have FC := FA4
    rw [show n1 = 0 + 1 by omega] at FC
    have hv10 := FC.small hu
    obtain ⟨sc1, ac1, FC1⟩ := FC.one hk
    rw [show 48 + v1 % 10 = 48 + v1 by omega] at ac1
    have ac1' : ∀ K : V → S → Go.Ev.A, xStore 1 (.ptr A 0 1) (iv .u8 ((48 : Int) + v1)) sa4 K = K Go.Ev.undef sc1 := fun K => by have := ac1 K; rw [Int.natCast_add] at this; exact this
    have cc : ∀ c : V → Go.Ev.A, xBin ⟨9, []⟩ false .add (iv .u32 48) (iv .u32 (v1 : Int)) c = c (iv .u32 ((48 : Int) + v1)) := fun c => by
     rw [add_ii]; congr 2; have := wrap_nat (k := .u32) (n := 48 + v1) (by show 48 + v1 < 4294967296; omega); exact this
    have cv : ∀ c : V → Go.Ev.A, xIntConv .u8 (iv .u32 ((48 : Int) + v1)) c = c (iv .u8 ((48 : Int) + v1)) := fun c => conv_nat .u8 .u32 (n := 48 + v1) (show 48 + v1 < 256 by omega) c
    have w0 : ∀ c : V → Go.Ev.A, xIdxAddrS 1 (.sl A 0 1 k cap) (iv .i64 0) c = c (.ptr A 0 1) := fun c => idxS_sl A k cap (i := 0) (by omega) c
    refine ⟨sc1, ?_, _, FC1⟩
    simp [blockA_ext, gp_sp, f0, f1, f4, f240, hc12, geq_ii, gtr_ii, nat_iv, g0i, c13, cu1, c14, c15, m15, x15, i15, j15, m14, x14, i14, j14, ta1, ta2, ta3, ta4, wa1, wa2, wa3, wa4, aa1, aa2, aa3, aa4, g1i, g2, cc, cv, w0, ac1']
   ·have g2i : ¬ (0 : Int) < n1 := by omega
    refine ⟨sa4, ?_, _, by have h := FA4; rw [show n1 = 0 by omega] at h; exact h⟩
    simp [blockA_ext, gp_sp, f0, f1, f4, f240, hc12, geq_ii, gtr_ii, nat_iv, g0i, c13, cu1, c14, c15, m15, x15, i15, j15, m14, x14, i14, j14, ta1, ta2, ta3, ta4, wa1, wa2, wa3, wa4, aa1, aa2, aa3, aa4, g1i, g2]
 ·have g0i : ¬ (4 : Int) ≤ n0 := by omega
  by_cases g1 : 2 ≤ n0
  ·have g1i : (2 : Int) ≤ n0 := by omega
   obtain ⟨n2, hn2⟩ : ∃ x, n0 = x + 2 := ⟨n0 - 2, by omega⟩
   have FB := F0
   rw [hn2] at FB
   obtain ⟨sb1, sb2, ab1, ab2, FB2⟩ := FI10.two (n := n2) FB hk
   obtain ⟨v2, hv2⟩ : ∃ x, x = v0 / 100 := ⟨_, rfl⟩
   rw [← hv2] at FB2
   obtain ⟨q16, hq16⟩ : ∃ x, x = v0 % 100 := ⟨_, rfl⟩
   have c16 : ∀ c : V → Go.Ev.A, xBin ⟨9, []⟩ false .rem (iv .u32 (v0 : Int)) (iv .u32 100) c = c (iv .u32 (q16 : Int)) := fun c => by rw [hq16]; exact rem_nat _ _ .u32 (b := 100) (by omega) c
   have cu2 : ∀ c : V → Go.Ev.A, xBin ⟨9, []⟩ false .quo (iv .u32 (v0 : Int)) (iv .u32 100) c = c (iv .u32 (v2 : Int)) := fun c => by rw [hv2]; exact quo_nat _ _ .u32 (b := 100) (by omega) (show v0 < 4294967296 by omega) c
   obtain ⟨db1, hdb1⟩ : ∃ x, x = 48 + v0 % 100 % 10 := ⟨_, rfl⟩
   obtain ⟨db2, hdb2⟩ : ∃ x, x = 48 + v0 % 100 / 10 := ⟨_, rfl⟩
   rw [← hdb1] at ab1; rw [← hdb2] at ab2
   obtain ⟨m16, x16, i16, j16⟩ := sm2 (m := q16) (x := db2) (y := db1) (by omega) (by omega) (by omega)
   obtain ⟨nb1, hnb1⟩ : ∃ x, x = n2 + 1 := ⟨_, rfl⟩
   rw [← hnb1] at ab1
   have tb1 := subN (n := n0) (m := nb1) (d := 1) (by omega) (by omega) (di := 1) rfl
   have wb1 := fun c => idxS_sl A k cap (i := nb1) (by omega) c
   have tb2 := subN (n := n0) (m := n2) (d := 2) (by omega) (by omega) (di := 2) rfl
   have wb2 := fun c => idxS_sl A k cap (i := n2) (by omega) c
   generalize q16 * 2 + 1 = p16' at *
   generalize q16 * 2 = p16 at *
   unfold sm200 at i16 j16
   by_cases g2 : 0 < n2
   ·have g2i : (0 : Int) < n2 := by omega
    have FC := FB2
    rw [show n2 = 0 + 1 by omega] at FC
    have hv10 := FC.small hu
    obtain ⟨sc1, ac1, FC1⟩ := FC.one hk
    rw [show 48 + v2 % 10 = 48 + v2 by omega] at ac1
    have ac1' : ∀ K : V → S → Go.Ev.A, xStore 1 (.ptr A 0 1) (iv .u8 ((48 : Int) + v2)) sb2 K = K Go.Ev.undef sc1 := fun K => by have := ac1 K; rw [Int.natCast_add] at this; exact this
    have cc : ∀ c : V → Go.Ev.A, xBin ⟨9, []⟩ false .add (iv .u32 48) (iv .u32 (v2 : Int)) c = c (iv .u32 ((48 : Int) + v2)) := fun c => by
     rw [add_ii]; congr 2; have := wrap_nat (k := .u32) (n := 48 + v2) (by show 48 + v2 < 4294967296; omega); exact this
    have cv : ∀ c : V → Go.Ev.A, xIntConv .u8 (iv .u32 ((48 : Int) + v2)) c = c (iv .u8 ((48 : Int) + v2)) := fun c => conv_nat .u8 .u32 (n := 48 + v2) (show 48 + v2 < 256 by omega) c
    have w0 : ∀ c : V → Go.Ev.A, xIdxAddrS 1 (.sl A 0 1 k cap) (iv .i64 0) c = c (.ptr A 0 1) := fun c => idxS_sl A k cap (i := 0) (by omega) c
    refine ⟨sc1, ?_, _, FC1⟩
    simp [blockA_ext, gp_sp, f0, f1, f4, f240, hc12, geq_ii, gtr_ii, nat_iv, g0i, g1i, c16, cu2, m16, x16, i16, j16, tb1, tb2, wb1, wb2, ab1, ab2, g2, cc, cv, w0, ac1']
   ·have g2i : ¬ (0 : Int) < n2 := by omega
    refine ⟨sb2, ?_, _, by have h := FB2; rw [show n2 = 0 by omega] at h; exact h⟩
    simp [blockA_ext, gp_sp, f0, f1, f4, f240, hc12, geq_ii, gtr_ii, nat_iv, g0i, g1i, c16, cu2, m16, x16, i16, j16, tb1, tb2, wb1, wb2, ab1, ab2, g2]
  ·have g1i : ¬ (2 : Int) ≤ n0 := by omega
   by_cases g2 : 0 < n0
   ·have g2i : (0 : Int) < n0 := by omega
    have FC := F0
    rw [show n0 = 0 + 1 by omega] at FC
    have hv10 := FC.small hu
    obtain ⟨sc1, ac1, FC1⟩ := FC.one hk
    rw [show 48 + v0 % 10 = 48 + v0 by omega] at ac1
    have ac1' : ∀ K : V → S → Go.Ev.A, xStore 1 (.ptr A 0 1) (iv .u8 ((48 : Int) + v0)) s1 K = K Go.Ev.undef sc1 := fun K => by have := ac1 K; rw [Int.natCast_add] at this; exact this
    have cc : ∀ c : V → Go.Ev.A, xBin ⟨9, []⟩ false .add (iv .u32 48) (iv .u32 (v0 : Int)) c = c (iv .u32 ((48 : Int) + v0)) := fun c => by
     rw [add_ii]; congr 2; have := wrap_nat (k := .u32) (n := 48 + v0) (by show 48 + v0 < 4294967296; omega); exact this
    have cv : ∀ c : V → Go.Ev.A, xIntConv .u8 (iv .u32 ((48 : Int) + v0)) c = c (iv .u8 ((48 : Int) + v0)) := fun c => conv_nat .u8 .u32 (n := 48 + v0) (show 48 + v0 < 256 by omega) c
    have w0 : ∀ c : V → Go.Ev.A, xIdxAddrS 1 (.sl A 0 1 k cap) (iv .i64 0) c = c (.ptr A 0 1) := fun c => idxS_sl A k cap (i := 0) (by omega) c
    refine ⟨sc1, ?_, _, FC1⟩
    simp [blockA_ext, gp_sp, f0, f1, f4, f240, hc12, geq_ii, gtr_ii, nat_iv, g0i, g1i, g2, cc, cv, w0, ac1']
   ·have g2i : ¬ (0 : Int) < n0 := by omega
    refine ⟨s1, ?_, _, by have h := F0; rw [show n0 = 0 by omega] at h; exact h⟩
    simp [blockA_ext, gp_sp, f0, f1, f4, f240, hc12, geq_ii, gtr_ii, nat_iv, g0i, g1i, g2]
theorem Fmt10_ok : Holds Tryz.prog K 85 := by
 rintro a s ⟨A, k, cap, u, l, rfl, hg, hl, hk, h0, h64, hu⟩
 obtain ⟨s', h1, u', l', g1, g2, g3, g4, g5, g6, g7, g8⟩ := Fmt10_run (cap := cap) hg hl hk h64 hu
 refine ⟨_, s', fn_k h1, fun A' k' cap' u2 l2 e hg' hl' hu' => ?_⟩
 simp only [List.cons.injEq, and_true, V.sl.injEq] at e
 obtain ⟨⟨rfl, -, -, rfl, rfl⟩, e⟩ := e
 have := iv_inj e
 have : u = u2 := by omega
 subst this
 rw [hg] at hg'
 cases hg'
 exact ⟨l', g1, g2, g3, g4, fun j hj => g5 j (Nat.zero_le _) hj, g6⟩
theorem wrapU64 (n : Int) : IntKind.u64.wrap n = n % 18446744073709551616 := by simp [IntKind.wrap, IntKind.bits, IntKind.signed]
theorem xNegU (n : Nat) (h : 0 < n) (h2 : n ≤ 9223372036854775808) (c : V → Go.Ev.A) : xUn .neg (iv .u64 ((18446744073709551616 - n : Nat) : Int)) c = c (iv .u64 (n : Int)) := by
 show wrapV .u64 (Int.sub 0 ((18446744073709551616 - n : Nat) : Int)) c = _
 rw [wrapV_eq]
 congr 2
 show IntKind.u64.wrap (0 - ((18446744073709551616 - n : Nat) : Int)) = _
 rw [wrapU64]
 omega
theorem strOf {s : S} {A : Go.Ev.K} {l : List V} (hg : Tr.get B.none A s.h = .row l 24 139 false 0 0 0) (hl : l.length = 24) {o len cap : Nat} {w : List Nat} (hw : w.length = len) (ho : o + len ≤ 24) (hB : Byts w) (hc : ∀ j, j < len → l.getD (o + j) .bad = iv .u8 (w.getD j 0 : Nat)) (c : V → Go.Ev.A) : xStrOf (.sl A 0 o len cap) s c = c (.str w) := by
 show readCells s A 0 o len (fun l => bytesC l fun b => c (.str b)) = _
 unfold readCells
 rw [hget_eq, hg]
 show (Bool.rec (motive := fun _ => Go.Ev.A) _ _ (rdOk 24 false 0 0 (Nat.add o len)) : Go.Ev.A) = _
 rw [show rdOk 24 false 0 0 (Nat.add o len) = true from rdOk_or.2 (.inr ⟨rfl, ho⟩)]
 show dropL o l _ = _
 rw [dropL_eq]
 show takeK len _ _ = _
 have e : (l.drop o).take len = u8s w := by
  rw [cells_take (f := fun j => iv .u8 (w.getD j 0 : Nat)) (by omega) hc]
  subst hw
  unfold u8s
  apply List.ext_getElem?
  intro i
  by_cases hi : i < w.length
  ·simp [hi, List.getD_eq_getElem?_getD]
  ·simp [hi]
 rw [takeK_eq _ _ _ (by rw [e]; intro x hx; unfold u8s at hx; obtain ⟨n, _, rfl⟩ := List.mem_map.1 hx; exact iv_ne _ _), e]
 exact bytesC_u8s w hB _
theorem slice10 (A : Go.Ev.K) {n : Nat} (h : n ≤ 20) (c : V → Go.Ev.A) : xSliceA 1 24 (.ptr A 0 0) (some (iv .i64 1)) (some (iv .i64 ((1 : Int) + n))) none c = c (.sl A 0 1 n 23) ∧ xSliceA 1 24 (.ptr A 0 0) none (some (iv .i64 ((1 : Int) + n))) none c = c (.sl A 0 0 (1 + n) 24) := by
 have e : ∀ f : Nat → Go.Ev.A, boundN (some (iv .i64 ((1 : Int) + n))) 24 f = f (1 + n) := fun f => by
  have := bnd.run (x := some (iv .i64 ((1 : Int) + n))) (d := 24) (n := 1 + n) (.inr ⟨.i64, by simp⟩) f
  exact this
 have e1 : ∀ f : Nat → Go.Ev.A, boundN (some (iv .i64 1)) 0 f = f 1 := fun f => bnd.run (x := some (iv .i64 1)) (d := 0) (n := 1) (.inr ⟨.i64, rfl⟩) f
 constructor
 ·show xSliceK 1 A 0 0 24 24 (some (iv .i64 1)) (some (iv .i64 ((1 : Int) + n))) none c = _
  unfold xSliceK
  rw [e1, e]
  show (Bool.rec (motive := fun _ => Go.Ev.A) _ _ (andB (Nat.ble 1 (1 + n)) (andB (Nat.ble (1 + n) 24) true)) : Go.Ev.A) = _
  rw [Nat.ble_eq_true_of_le (show 1 ≤ 1 + n by omega), Nat.ble_eq_true_of_le (show 1 + n ≤ 24 by omega)]
  show fN (Nat.sub (1 + n) 1) _ = _
  rw [fN_eq, show Nat.sub (1 + n) 1 = n by show 1 + n - 1 = n; omega]; rfl
 ·show xSliceK 1 A 0 0 24 24 none (some (iv .i64 ((1 : Int) + n))) none c = _
  unfold xSliceK
  rw [show ∀ f : Nat → Go.Ev.A, boundN none 0 f = f 0 from fun f => rfl, e]
  show (Bool.rec (motive := fun _ => Go.Ev.A) _ _ (andB (Nat.ble 0 (1 + n)) (andB (Nat.ble (1 + n) 24) true)) : Go.Ev.A) = _
  rw [Nat.ble_eq_true_of_le (show 0 ≤ 1 + n by omega), Nat.ble_eq_true_of_le (show 1 + n ≤ 24 by omega)]
  show fN (Nat.sub (1 + n) 0) _ = _
  rw [fN_eq]; rfl
theorem Spn.ne {s : S} {v : V} (h : Spn s v) : v ≠ .bad := by
 rcases h.1 with (rfl | rfl) | ⟨a, w, o, len, ⟨cap, rfl, _⟩ | ⟨e, rfl⟩, _⟩ <;> exact fun h => by cases h
theorem Stp.at_ {s : S} {v : V} (h : Stp s v) {i : Nat} (hi : i < lenV v) : ∃ p, (∀ k c, xIdxAddrS 4 v (iv k i) c = c p) ∧ Pt s p 4 (fun j => cellV s v (i * 4 + j)) := by
 obtain ⟨p, h1, h2⟩ := h.1.idx (i := (i : Int)) (by omega) (by omega)
 exact ⟨p, h1, by simpa using h2⟩
theorem pt_fieldL {s : S} {p : V} {m : Nat} {f : Nat → V} (h : Pt s p m f) (o : Nat) (ho : o < m) (hk : f o ≠ .bad) : ∃ q, (∀ c : V → A, xFieldAddr o p c = c q) ∧ ∀ k : V → S → A, xLoad false 1 q s k = k (f o) s := by
 obtain ⟨q, h1, h2⟩ := h.field o (by omega)
 exact ⟨q, h1, fun k => h2.load1 (by omega) hk k⟩
theorem Stp.fields {s : S} {v : V} (h : Stp s v) {i : Nat} (hi : i < lenV v) : ∃ p q1 q2 q3, (∀ k c, xIdxAddrS 4 v (iv k i) c = c p) ∧ (∀ c : V → A, xFieldAddr 1 p c = c q1) ∧ (∀ c : V → A, xFieldAddr 2 p c = c q2) ∧ (∀ c : V → A, xFieldAddr 3 p c = c q3) ∧
  (∀ k : V → S → A, xLoad false 1 q1 s k = k (cellV s v (i * 4 + 1)) s) ∧ (∀ k : V → S → A, xLoad false 1 q2 s k = k (cellV s v (i * 4 + 2)) s) ∧ (∀ k : V → S → A, xLoad false 1 q3 s k = k (cellV s v (i * 4 + 3)) s) := by
 obtain ⟨p, h1, h2⟩ := h.at_ hi
 obtain ⟨h3, h4, h5, h6⟩ := h.2.2 i hi
 obtain ⟨q1, a1, b1⟩ := pt_fieldL h2 1 (by omega) h4.ne
 obtain ⟨q2, a2, b2⟩ := pt_fieldL h2 2 (by omega) h5.ne
 obtain ⟨q3, a3, b3⟩ := pt_fieldL h2 3 (by omega) h6.ne
 exact ⟨p, q1, q2, q3, h1, a1, a2, a3, b1, b2, b3⟩
theorem Spn.ext {s s' : S} {v : V} (h : Spn s v) (e : Ext s s') : Spn s' v ∧ spansV s' v = spansV s v := by
 obtain ⟨h1, h2⟩ := h.1.ext e
 refine ⟨⟨h1, h.2.1, fun j hj => by rw [h2]; exact h.2.2 j hj⟩, ?_⟩
 unfold spansV
 exact List.map_congr_left fun j _ => by unfold spanV; rw [h2, h2, h2]
theorem Stp.ext {s s' : S} {v : V} (h : Stp s v) (e : Ext s s') : Stp s' v ∧ (∀ j, cellV s' v j = cellV s v j) ∧ (∀ i, i < lenV v → stepV s' v i = stepV s v i) ∧ stepsV s' v = stepsV s v := by
 obtain ⟨h1, h2⟩ := h.1.ext e
 have h3 : ∀ i, i < lenV v → stepV s' v i = stepV s v i := fun i hi => by
  obtain ⟨g1, g2, g3, g4⟩ := h.2.2 i hi
  unfold stepV
  rw [h2, h2, h2, h2, g2.word e, g3.word e, (g4.ext e).2]
 refine ⟨⟨h1, h.2.1, fun i hi => ?_⟩, h2, h3, ?_⟩
 ·obtain ⟨g1, g2, g3, g4⟩ := h.2.2 i hi
  rw [h2, h2, h2, h2]
  exact ⟨g1, (g2.ext e).1, (g3.ext e).1, (g4.ext e).1⟩
 ·unfold stepsV
  exact List.map_congr_left fun i hi => h3 i (by simpa using hi)
theorem spans_len {s : S} {v : V} : (spansV s v).length = lenV v := by simp [spansV]
theorem steps_len {s : S} {v : V} : (stepsV s v).length = lenV v := by simp [stepsV]
theorem steps_mem {s : S} {v : V} {st : StD} : st ∈ stepsV s v ↔ ∃ i, i < lenV v ∧ stepV s v i = st := by simp [stepsV]
def big1 (s : S) (v : V) (i : Nat) : Prop := 250 < lenV (cellV s v (i * 4 + 1)) ∨ 250 < lenV (cellV s v (i * 4 + 2)) ∨ 250 < lenV (cellV s v (i * 4 + 3))
theorem many_iff {s : S} {v : V} : manyP (stepsV s v) ↔ 120 < lenV v ∨ ¬ ∀ i, i < lenV v → ¬ big1 s v i := by
 unfold manyP
 rw [steps_len]
 have : (∃ st ∈ stepsV s v, 250 < st.before.length ∨ 250 < st.after.length ∨ 250 < st.spans.length) ↔ ¬ ∀ i, i < lenV v → ¬ big1 s v i := by
  constructor
  ·rintro ⟨st, hm, h⟩ hn
   obtain ⟨i, hi, rfl⟩ := steps_mem.1 hm
   refine hn i hi ?_
   unfold stepV at h
   simp only [word_len, spans_len] at h
   exact h
  ·intro h
   obtain ⟨i, h⟩ := Classical.not_forall.1 h
   obtain ⟨hi, h⟩ := Classical.not_imp.1 h
   refine ⟨_, steps_mem.2 ⟨i, hi, rfl⟩, ?_⟩
   unfold stepV
   simp only [word_len, spans_len]
   exact Classical.not_not.1 h
 rw [this]
def ltMany (v : V) (s : S) : Lt := ⟨fun tm s' => s' = s ∧ gp 0 tm = v ∧ gp 240 tm = .bad ∧ ∃ i : Nat, i ≤ lenV v ∧ gp 3 tm = iv .i64 i ∧ ∀ j, j < i → ¬ big1 s v j,
 fun _ _ a => LP 0 2 (.bool true) (∀ j, j < lenV v → ¬ big1 s v j) (fun _ s' => s' = s) a⟩
theorem loopMany {v : V} {s : S} (hv : Stp s v) : ∀ tm s', (ltMany v s).pre tm s' → (ltMany v s).post tm s' (cMany_14.run (Rk Tryz.prog K fun _ => ltMany v s) tm s') := by
 refine loop_k (L := fun _ => ltMany v s) pcOk0.1 pcOk0.2 szMany_14 (fun tm _ => lenV v - (toI (gp 3 tm)).toNat) (fun _ _ _ _ (h : LP _ _ _ _ _ _) => h.nb) ?_
 rintro tm s' ⟨rfl, h0, h240, i, hi, h3, hj⟩ IH
 show LP _ _ _ _ _ (cMany_14.run _ tm s')
 generalize Rk Tryz.prog _ _ = r at IH ⊢
 by_cases hlt : i < lenV v
 ·have hw := wrapS hlt hv.2.1.1
  obtain ⟨p, q1, q2, q3, hp, a1, a2, a3, b1, b2, b3⟩ := hv.fields hlt
  obtain ⟨-, w1, w2, w3⟩ := hv.2.2 i hlt
  have l1 := w1.1.len
  have l2 := w2.1.len
  have l3 := w3.1.len
  have hbad : big1 s' v i → ¬ ∀ j, j < lenV v → ¬ big1 s' v j := fun h g => g i hlt h
  have hb : big1 s' v i ↔ 250 < lenV (cellV s' v (i * 4 + 1)) ∨ 250 < lenV (cellV s' v (i * 4 + 2)) ∨ 250 < lenV (cellV s' v (i * 4 + 3)) := Iff.rfl
  generalize cellV s' v (i * 4 + 1) = x1 at *
  generalize cellV s' v (i * 4 + 2) = x2 at *
  generalize cellV s' v (i * 4 + 3) = x3 at *
  by_cases g1 : 250 < lenV x1
  ·have g1' : (250 : Int) < lenV x1 := by omega
   simp [lpMany_14, allMany, gp_sp, h0, h3, hv.1.len, lss_ii, gtr_ii, hp, a1, b1, l1, nat_iv, hlt, g1']
   exact .inr ⟨hbad (hb.2 (.inl g1)), _, _, rfl, by simp [gp_sp, h240], by simp [gp_sp], rfl⟩
  have g1' : ¬ (250 : Int) < lenV x1 := by omega
  by_cases g2 : 250 < lenV x2
  ·have g2' : (250 : Int) < lenV x2 := by omega
   simp [lpMany_14, allMany, gp_sp, h0, h3, hv.1.len, lss_ii, gtr_ii, hp, a1, b1, l1, a2, b2, l2, nat_iv, hlt, g1', g2']
   exact .inr ⟨hbad (hb.2 (.inr (.inl g2))), _, _, rfl, by simp [gp_sp, h240], by simp [gp_sp], rfl⟩
  have g2' : ¬ (250 : Int) < lenV x2 := by omega
  by_cases g3 : 250 < lenV x3
  ·have g3' : (250 : Int) < lenV x3 := by omega
   simp [lpMany_14, allMany, gp_sp, h0, h3, hv.1.len, lss_ii, gtr_ii, hp, a1, b1, l1, a2, b2, l2, a3, b3, l3, nat_iv, hlt, g1', g2', g3']
   exact .inr ⟨hbad (hb.2 (.inr (.inr g3))), _, _, rfl, by simp [gp_sp, h240], by simp [gp_sp], rfl⟩
  have g3' : ¬ (250 : Int) < lenV x3 := by omega
  simp [lpMany_14, allMany, gp_sp, h0, h3, hv.1.len, lss_ii, gtr_ii, add_ii, hw, hp, a1, b1, l1, a2, b2, l2, a3, b3, l3, nat_iv, hlt, g1', g2', g3']
  refine IH _ _ (mu_lt h3 (by simp [gp_sp]) hlt) ⟨rfl, ?_, ?_, i + 1, by omega, ?_, fun j h => ?_⟩
  ·simp [gp_sp, h0]
  ·simp [gp_sp, h240]
  ·simp [gp_sp]
  ·rcases Nat.lt_or_ge j i with h' | h'
   ·exact hj j h'
   ·rw [show j = i by omega]; exact fun h => by have := hb.1 h; omega
 ·simp [lpMany_14, allMany, gp_sp, h0, h3, hv.1.len, lss_ii, nat_iv, hlt]
  exact .inl ⟨fun j h => hj j (by omega), _, _, rfl, by simp [gp_sp, h240], rfl⟩
open Classical in
theorem Many_ok : Holds Tryz.prog K 5 := by
 rintro a s ⟨v, rfl, hv⟩
 have hL := loopMany hv
 suffices h : (fnC pc0 5).run (Rk Tryz.prog K fun _ => ltMany v s) [v] s = .ret (.bool (decide (manyP (stepsV s v)))) s from ⟨_, s, fn_k h, fun v' e => by cases e; exact ⟨rfl, rfl⟩⟩
 generalize Rk Tryz.prog _ _ = r at hL ⊢
 by_cases g : 120 < lenV v
 ·have g' : (120 : Int) < lenV v := by omega
  rw [decide_eq_true (many_iff.2 (.inl g))]
  simp [allMany, gp_sp, hv.1.len, gtr_ii, nat_iv, g']
 ·have g' : ¬ (120 : Int) < lenV v := by omega
  simp [allMany, gp_sp, hv.1.len, gtr_ii, nat_iv, g']
  generalize hA : cMany_14.run r _ _ = y
  have := hA ▸ hL _ _ ⟨rfl, by simp [gp_sp], by simp [gp_sp], 0, by omega, by simp [gp_sp], fun j h => by omega⟩
  rcases this with ⟨hg, tm', s2, rfl, k1, rfl⟩ | ⟨hg, tm', s2, rfl, k1, k2, rfl⟩
  ·rw [decide_eq_false (fun h => by rcases many_iff.1 h with h | h; exact g h; exact h hg)]; simp [blockA_ext, gp_sp, k1]
  ·rw [decide_eq_true (many_iff.2 (.inr hg))]; simp [k1, k2]
theorem addS (a b : List Nat) (h : a.length + b.length ≤ 1048576) (c : V → A) : xBin ⟨9, []⟩ false .add (.str a) (.str b) c = c (.str (a ++ b)) := by
 show appL a b (fun l => lenL l fun n => (Bool.rec (motive := fun _ => A) (.bad 38) (c (.str l)) (Nat.ble n 9223372036854775807))) = _
 rw [appL_eq, lenL_eq, show Nat.ble (a ++ b).length 9223372036854775807 = true from Nat.ble_eq_true_of_le (by rw [List.length_append]; omega)]
theorem digs_len : ∀ (k n : Nat), 0 < k → n < 10 ^ k → (digs n).length ≤ k := by
 intro k
 induction k with
 | zero => intro n h; omega
 | succ k ih =>
  intro n _ h
  unfold digs
  by_cases g : n < 10
  ·rw [if_pos g]; simp
  ·rw [if_neg g, List.length_append]
   have hk : 0 < k := by
    rcases Nat.eq_zero_or_pos k with rfl | h'
    ·rw [Nat.pow_one] at h; omega
    ·exact h'
   have := ih (n / 10) hk (by rw [Nat.pow_succ] at h; omega)
   simp; omega
theorem itoa_len {z : Int} (h : i64ok z) : (itoa z).length ≤ 20 := by
 unfold i64ok at h
 have := digs_len 19 z.natAbs (by omega) (by have : (10 : Nat) ^ 19 = 10000000000000000000 := rfl; omega)
 unfold itoa
 split <;> simp <;> omega
theorem digs_byts (n : Nat) : Byts (digs n) := by
 induction n using Nat.strongRecOn with
 | ind n ih =>
  unfold digs
  split
  ·intro x hx; simp at hx; omega
  ·intro x hx
   rcases List.mem_append.1 hx with hx | hx
   ·exact ih (n / 10) (by omega) x hx
   ·simp at hx; omega
theorem itoa_byts (z : Int) : Byts (itoa z) := by
 unfold itoa
 split
 ·intro x hx
  rcases List.mem_cons.1 hx with rfl | hx
  ·omega
  ·exact digs_byts _ x hx
 ·exact digs_byts _
theorem beqV_ivI (k : IntKind) (z : Int) : beqV (iv k z) (iv k z) = true := by
 cases z with
 | ofNat n => exact beqV_iv k n
 | negSucc n =>
  show andB (kbeq k k) (Nat.beq n n) = true
  rw [kbeq_refl, Nat.beq_refl]; rfl
theorem newB_load {s s2 : S} {l : List V} {n el : Nat} (e : Ext (addB s (.row l n el false 0 0 0)) s2) (hl : l.length = n) (o : Nat) (ho : o < n) (hx : l.getD o .bad ≠ .bad) (k : V → S → A) : xLoad false 1 (.ptr s.nx 0 o) s2 k = k (l.getD o .bad) s2 :=
 load_at ((e.get s.nx (by show s.nx.toNat < s.nx.succ.toNat; rw [K.toNat_succ]; omega)).trans (addB_get _ _)) o hl ho hx k
theorem Spn.at_ {s : S} {v : V} (h : Spn s v) {i : Nat} (hi : i < lenV v) : ∃ p, (∀ k c, xIdxAddrS 3 v (iv k i) c = c p) ∧ ∀ k : V → S → A, xLoad true 3 p s k = k (.ls 0 [iv .i64 (spanV s v i).1, iv .i64 (spanV s v i).2.1, iv .i64 (spanV s v i).2.2]) s := by
 obtain ⟨p, h1, h2⟩ := h.1.idx (i := (i : Int)) (by omega) (by omega)
 have hc : ∀ j, j < 3 → cellV s v ((i : Int).toNat * 3 + j) = iv .i64 (toI (cellV s v (i * 3 + j))) := fun j hj => by
  have := (h.2.2 (i * 3 + j) (by omega)).1
  simpa using this
 refine ⟨p, h1, fun k => ?_⟩
 rw [h2.loadN 3 (Nat.le_refl _) (fun j hj => by rw [hc j hj]; exact iv_ne _ _) k]
 simp only [List.range_succ, List.range_zero, List.nil_append, List.map_cons, List.map_nil, List.cons_append]
 rw [hc 0 (by omega), hc 1 (by omega), hc 2 (by omega)]
 rfl
theorem Spn.ok {s : S} {v : V} (h : Spn s v) {i : Nat} (hi : i < lenV v) : i64ok (spanV s v i).1 ∧ i64ok (spanV s v i).2.1 ∧ i64ok (spanV s v i).2.2 :=
 ⟨(h.2.2 (i * 3) (by omega)).2, (h.2.2 (i * 3 + 1) (by omega)).2, (h.2.2 (i * 3 + 2) (by omega)).2⟩
theorem spanT_len {p : Int × Int × Int} (h : i64ok p.1 ∧ i64ok p.2.1 ∧ i64ok p.2.2) : (spanT p).length ≤ 65 := by
 have h1 := itoa_len h.1
 have h2 := itoa_len h.2.1
 have h3 := itoa_len h.2.2
 unfold spanT
 simp only [List.length_append, List.length_cons, List.length_nil]
 omega
theorem Bld.ext {b s s' : S} {p : V} {w : List Nat} (h : Bld b s p w) (e : Ext s s') : Bld b s' p w := by
 obtain ⟨a, c0, buf, rfl, h1, h2, h3, h4, h5⟩ := h
 exact ⟨a, c0, buf, rfl, h1, Nat.lt_of_lt_of_le h2 e.nx, (e.get a h2).trans h3, h4, h5.ext e⟩
def InPost (b : S) (tm : T) (w : List Nat) (a : A) : Prop := ∃ tm' s', a = .ext 4 tm' s' ∧ (gp 1 tm' = gp 1 tm ∧ gp 8 tm' = gp 8 tm ∧ gp 9 tm' = gp 9 tm ∧ gp 24 tm' = gp 24 tm ∧ gp 25 tm' = gp 25 tm ∧ gp 26 tm' = gp 26 tm ∧ gp 240 tm' = gp 240 tm) ∧ Ext b s' ∧ Bld b s' (gp 8 tm) w
theorem InPost.frame {b : S} {tm tm1 : T} {w : List Nat} {a : A} (h : InPost b tm1 w a) (k : gp 1 tm1 = gp 1 tm ∧ gp 8 tm1 = gp 8 tm ∧ gp 9 tm1 = gp 9 tm ∧ gp 24 tm1 = gp 24 tm ∧ gp 25 tm1 = gp 25 tm ∧ gp 26 tm1 = gp 26 tm ∧ gp 240 tm1 = gp 240 tm) : InPost b tm w a := by
 obtain ⟨tm', s', rfl, h1, h2, h3⟩ := h
 obtain ⟨k1, k2, k3, k4, k5, k6, k7⟩ := k
 rw [k1, k2, k3, k4, k5, k6, k7] at h1
 rw [k2] at h3
 exact ⟨tm', s', rfl, h1, h2, h3⟩
def ltIn (b : S) : Lt := ⟨fun tm s' => Ext b s' ∧ Spn b (gp 29 tm) ∧ lenV (gp 29 tm) ≤ 250 ∧ gp 30 tm = iv .i64 (lenV (gp 29 tm)) ∧ gp 9 tm = .fn (.func 18) [] [] ∧ ∃ (i : Nat) (w : List Nat), i ≤ lenV (gp 29 tm) ∧ gp 31 tm = iv .i64 i ∧ Bld b s' (gp 8 tm) w ∧ w.length ≤ 100000 + i * 65,
 fun tm s' a => ∀ (i : Nat) (w : List Nat), i ≤ lenV (gp 29 tm) → gp 31 tm = iv .i64 i → Bld b s' (gp 8 tm) w → w.length ≤ 100000 + i * 65 → InPost b tm (w ++ (((spansV b (gp 29 tm)).drop i).map spanT).flatten) a⟩
def okW (b : S) (v t : V) (j : Nat) : Prop := (lenV (cellV b v (j * 4 + 1)) ≤ 200 ∧ inR b (cellV b v (j * 4 + 1)) (lenV t)) ∧ lenV (cellV b v (j * 4 + 2)) ≤ 200 ∧ inR b (cellV b v (j * 4 + 2)) (lenV t)
def P14 (b : S) (v t : V) (a : A) : Prop := ((∀ j, j < lenV v → okW b v t j) ∧ ∃ tm' s', a = .ext 0 tm' s' ∧ gp 240 tm' = .bad ∧ gp 0 tm' = v ∧ gp 1 tm' = t ∧ Ext b s') ∨ ((¬ ∀ j, j < lenV v → okW b v t j) ∧ ∃ tm' s', a = .ret tm' s' ∧ gp 240 tm' = .bad ∧ gp 4 tm' = .str [] ∧ gp 5 tm' = iv .i64 1 ∧ Ext b s')
def lt14 (b : S) (v t : V) : Lt := ⟨fun tm s' => Ext b s' ∧ gp 0 tm = v ∧ gp 1 tm = t ∧ gp 19 tm = v ∧ gp 20 tm = iv .i64 (lenV v) ∧ gp 240 tm = .bad ∧ ∃ i : Nat, i ≤ lenV v ∧ gp 21 tm = iv .i64 i ∧ ∀ j, j < i → okW b v t j,
 fun _ _ a => P14 b v t a⟩
def P41 (b : S) (w : List Nat) (a : A) : Prop := (w.length ≤ 16384 ∧ ∃ tm' s', a = .ext 2 tm' s' ∧ gp 240 tm' = .bad ∧ Ext b s' ∧ Bld b s' (gp 8 tm') w) ∨ (¬ w.length ≤ 16384 ∧ ∃ tm' s', a = .ret tm' s' ∧ gp 240 tm' = .bad ∧ gp 4 tm' = .str [] ∧ gp 5 tm' = iv .i64 2 ∧ Ext b s')
def lt41 (b : S) (v t : V) : Lt := ⟨fun tm s' => Ext b s' ∧ gp 1 tm = t ∧ gp 24 tm = v ∧ gp 25 tm = iv .i64 (lenV v) ∧ gp 9 tm = .fn (.func 18) [] [] ∧ gp 240 tm = .bad ∧ ∃ i : Nat, i ≤ lenV v ∧ gp 26 tm = iv .i64 i ∧ Bld b s' (gp 8 tm) (txtS (names b t) ((stepsV b v).take i)) ∧ (txtS (names b t) ((stepsV b v).take i)).length ≤ 16384,
 fun _ _ a => P41 b (txtS (names b t) (stepsV b v)) a⟩
def ltT (b : S) (v t : V) : Nat → Lt
 | 39 => ltIn b
 | 42 => lt14 b v t
 | _ => lt41 b v t
theorem drop_get {α β : Type} (l : List α) (f : α → List β) {i : Nat} {x : α} (h : l[i]? = some x) : ((l.drop i).map f).flatten = f x ++ ((l.drop (i + 1)).map f).flatten := by
 have hi : i < l.length := by
  rcases Nat.lt_or_ge i l.length with h' | h'
  ·exact h'
  ·rw [List.getElem?_eq_none h'] at h; cases h
 rw [List.getElem?_eq_getElem hi] at h
 rw [List.drop_eq_getElem_cons hi, Option.some.inj h]
 rfl
theorem loopIn {b : S} {v t : V} (hTb : Tabs b) (hNum : Holds Tryz.prog K 18) : ∀ tm s', (ltT b v t 39).pre tm s' → (ltT b v t 39).post tm s' (cTText_70.run (Rk Tryz.prog K (ltT b v t)) tm s') := by
 refine loop_k (L := ltT b v t) pcOk0.1 pcOk0.2 szTText_70 (fun tm _ => lenV (gp 29 tm) - (toI (gp 31 tm)).toNat) (fun tm s' a h1 h2 => ?_) ?_
 ·obtain ⟨-, -, -, -, -, i, w, g1, g2, g3, g4⟩ := h1
  obtain ⟨_, _, rfl, _⟩ := h2 i w g1 g2 g3 g4
  exact fun h => h
 rintro tm s' ⟨hE, hv, h250, h30, h9, -⟩ IH
 intro i w hi h31 hBd hwl
 have hN := Rk_kept (L := ltT b v t) hNum
 have hW := Rk_kept (L := ltT b v t) BWrite_ok
 show InPost _ _ _ (cTText_70.run _ tm s')
 generalize Rk Tryz.prog _ _ = r at IH hN hW ⊢
 generalize h29 : gp 29 tm = sp' at *
 by_cases hlt : i < lenV sp'
 ·have hw := wrapS hlt hv.2.1
  have hv' := hv.ext hE
  obtain ⟨p, hp, hP⟩ := hv'.1.at_ hlt
  have hsv : spanV s' sp' i = spanV b sp' i := by unfold spanV; rw [(hv.1.ext hE).2, (hv.1.ext hE).2, (hv.1.ext hE).2]
  rw [hsv] at hP
  obtain ⟨o0, o1, o2⟩ := hv.ok hlt
  have hlen := spanT_len ⟨o0, o1, o2⟩
  have hget : (spansV b sp')[i]? = some (spanV b sp' i) := by simp [spansV, hlt]
  rw [drop_get _ spanT hget, ← List.append_assoc]
  generalize spanV b sp' i = q at *
  obtain ⟨z0, z1, z2⟩ := q
  simp only at hP o0 o1 o2
  have k0 := itoa_len o0
  have k1 := itoa_len o1
  have k2 := itoa_len o2
  have hE1 : Ext s' (addB s' (.row [iv .i64 z0, iv .i64 z1, iv .i64 z2] 3 59 false 0 0 0)) := ext_addB _ _
  have hst := store_new s' 59 3 [iv .i64 0, iv .i64 0, iv .i64 0] [iv .i64 z0, iv .i64 z1, iv .i64 z2] rfl rfl
  have L0 : ∀ s2, Ext (addB s' (.row [iv .i64 z0, iv .i64 z1, iv .i64 z2] 3 59 false 0 0 0)) s2 → ∀ k : V → S → A, xLoad false 1 (.ptr s'.nx 0 0) s2 k = k (iv .i64 z0) s2 := fun s2 e => newB_load e rfl 0 (by omega) (iv_ne _ _)
  have L1 : ∀ s2, Ext (addB s' (.row [iv .i64 z0, iv .i64 z1, iv .i64 z2] 3 59 false 0 0 0)) s2 → ∀ k : V → S → A, xLoad false 1 (.ptr s'.nx 0 1) s2 k = k (iv .i64 z1) s2 := fun s2 e => newB_load e rfl 1 (by omega) (iv_ne _ _)
  have L2 : ∀ s2, Ext (addB s' (.row [iv .i64 z0, iv .i64 z1, iv .i64 z2] 3 59 false 0 0 0)) s2 → ∀ k : V → S → A, xLoad false 1 (.ptr s'.nx 0 2) s2 k = k (iv .i64 z2) s2 := fun s2 e => newB_load e rfl 2 (by omega) (iv_ne _ _)
  generalize hs1 : addB s' (.row [iv .i64 z0, iv .i64 z1, iv .i64 z2] 3 59 false 0 0 0) = s1 at hE1 hst L0 L1 L2
  have hT1 : Tabs s1 := hTb.ext (hE.trans hE1)
  obtain ⟨w0, s2, e0, p0⟩ := hN [iv .i64 z0] s1 ⟨z0, rfl, o0, hT1⟩
  obtain ⟨hE2, rfl⟩ := p0 _ rfl
  obtain ⟨w1, s3, e1, p1⟩ := hN [iv .i64 z1] s2 ⟨z1, rfl, o1, hT1.ext hE2⟩
  obtain ⟨hE3, rfl⟩ := p1 _ rfl
  obtain ⟨w2, s4, e2, p2⟩ := hN [iv .i64 z2] s3 ⟨z2, rfl, o2, (hT1.ext hE2).ext hE3⟩
  obtain ⟨hE4, rfl⟩ := p2 _ rfl
  have hEE : Ext s' s4 := ((hE1.trans hE2).trans hE3).trans hE4
  have hB4 : Bld b s4 (gp 8 tm) w := hBd.ext hEE
  obtain ⟨w3, s5, e3, p3⟩ := hW [gp 8 tm, .str (spanT (z0, z1, z2))] s4 ⟨b, _, w, _, rfl, hB4, hE.trans hEE, by omega⟩
  obtain ⟨⟨hB5, hE5⟩, -⟩ := p3 b _ w _ rfl hB4 (hE.trans hEE) (by omega)
  unfold spanT at e3
  simp only at e3
  have a1 := addS [32, 40] (itoa z0) (by simp; omega)
  have a2 := addS ([32, 40] ++ itoa z0) [45] (by simp; omega)
  have a3 := addS ([32, 40] ++ itoa z0 ++ [45]) (itoa z1) (by simp; omega)
  have a4 := addS ([32, 40] ++ itoa z0 ++ [45] ++ itoa z1) [32] (by simp; omega)
  have a5 := addS ([32, 40] ++ itoa z0 ++ [45] ++ itoa z1 ++ [32]) (itoa z2) (by simp; omega)
  have a6 := addS ([32, 40] ++ itoa z0 ++ [45] ++ itoa z1 ++ [32] ++ itoa z2) [41] (by simp; omega)
  generalize [32, 40] ++ itoa z0 ++ [45] ++ itoa z1 ++ [32] ++ itoa z2 ++ [41] = t6 at *
  generalize [32, 40] ++ itoa z0 ++ [45] ++ itoa z1 ++ [32] ++ itoa z2 = t5 at *
  generalize [32, 40] ++ itoa z0 ++ [45] ++ itoa z1 ++ [32] = t4 at *
  generalize [32, 40] ++ itoa z0 ++ [45] ++ itoa z1 = t3 at *
  generalize [32, 40] ++ itoa z0 ++ [45] = t2 at *
  generalize [32, 40] ++ itoa z0 = t1 at *
  generalize h8 : gp 8 tm = pb at *
  have key : ∀ t, gp 29 t = sp' → gp 30 t = iv .i64 (lenV sp') → gp 31 t = iv .i64 ((i : Int) + 1) → (gp 1 t = gp 1 tm ∧ gp 8 t = gp 8 tm ∧ gp 9 t = gp 9 tm ∧ gp 24 t = gp 24 tm ∧ gp 25 t = gp 25 tm ∧ gp 26 t = gp 26 tm ∧ gp 240 t = gp 240 tm) → InPost b tm (w ++ spanT (z0, z1, z2) ++ (List.map spanT (List.drop (i + 1) (spansV b sp'))).flatten) (r.code fiTText uTText_70 t s5) := fun t t29 t30 t31 tk => by
   have hb : Bld b s5 (gp 8 t) (w ++ spanT (z0, z1, z2)) := by rw [tk.2.1, h8]; exact hB5
   have hlw : (w ++ spanT (z0, z1, z2)).length ≤ 100000 + (i + 1) * 65 := by rw [List.length_append]; omega
   have := IH t s5 (by rw [t29, t31, h31, toI_iv, toI_iv]; omega) ⟨hE5, by rw [t29]; exact hv, by rw [t29]; exact h250, by rw [t29]; exact t30, by rw [tk.2.2.1]; exact h9, i + 1, _, by rw [t29]; omega, by rw [t31]; rfl, hb, hlw⟩ (i + 1) _ (by rw [t29]; omega) (by rw [t31]; rfl) hb hlw
   rw [t29] at this
   exact InPost.frame this tk
  simp [-List.append_assoc, -List.map_drop, det_call, oneF_ret, lpTText_70, allTText, gp_sp, h29, h30, h31, h9, h8, lss_ii, add_ii, hw, hp, hP, nat_iv, hlt, newRow_add, hst, field_ptr, L0 s1 (Ext.refl _), L1 s1 (Ext.refl _), L2 s1 (Ext.refl _), L1 s2 hE2, L2 s2 hE2, L2 s3 (hE2.trans hE3), callV_fn0, e0, e1, e2, e3, beqV_ivI, a1, a2, a3, a4, a5, a6]
  exact key _ (by simp [gp_sp, h29]) (by simp [gp_sp, h30]) (by simp [gp_sp]) (by simp [gp_sp, h8])
 ·have hd : (spansV b sp').drop i = [] := List.drop_eq_nil_of_le (by rw [spans_len]; omega)
  rw [hd]
  simp [lpTText_70, allTText, gp_sp, h30, h31, lss_ii, nat_iv, hlt]
  exact ⟨_, _, rfl, by simp [gp_sp], hE, hBd⟩
theorem convU64 (z : Int) (c : V → Go.Ev.A) : xIntConv .u64 (iv .i64 z) c = c (iv .u64 (z % 18446744073709551616)) := by
 rw [← wrapU64]
 cases z with
 | ofNat n => show natR .u64 n c = _; rw [natR_eq]
 | negSucc n => show wrapV .u64 (Int.negSucc n) c = _; rw [wrapV_eq]
def zer24 : List V := List.replicate 24 (iv .u8 0)
theorem FmtInt_ok : Holds Tryz.prog K 63 := by
 rintro a s ⟨z, rfl, hz, hT⟩
 suffices h : ∃ s', (fnC pc0 63).run (Rk Tryz.prog K noL) [iv .i64 z, iv .i64 10] s = .ret (.str (itoa z)) s' ∧ Ext s s' by
  obtain ⟨s', h1, h2⟩ := h
  refine ⟨_, s', fn_k h1, fun z' b e => ?_⟩
  simp only [List.cons.injEq, and_true] at e
  cases iv_inj e.1
  exact ⟨h2, rfl⟩
 have hS := Rk_kept (L := noL) Small_ok
 have hN := Rk_kept (L := noL) NumDig_ok
 have hF := Rk_kept (L := noL) Fmt10_ok
 generalize Rk Tryz.prog _ _ = r at hS hN hF ⊢
 unfold i64ok at hz
 by_cases g1 : 0 ≤ z ∧ z < 100
 ·obtain ⟨n, rfl⟩ : ∃ n : Nat, z = n := ⟨z.toNat, by omega⟩
  obtain ⟨w, s1, e1, p1⟩ := hS [iv .i64 (n : Int)] s ⟨n, rfl, by omega⟩
  obtain ⟨rfl, rfl⟩ := p1 n rfl
  have hi : itoa (n : Int) = digs n := by unfold itoa; rw [if_neg (by omega)]; rfl
  rw [hi]
  exact ⟨s1, by simp [allFmtInt, gp_sp, nat_iv, eql_ii, leq_ii, lss_ii, g1.1, g1.2, e1], Ext.refl _⟩
 ·obtain ⟨n, hn⟩ : ∃ n : Nat, n = z.natAbs := ⟨_, rfl⟩
  have hn0 : 0 < n := by omega
  have h64 : n < 18446744073709551616 := by omega
  obtain ⟨k1, k2, k3, k4⟩ := nd_ok hn0 h64
  have hdg := digs_nd hn0 h64
  have hE1 : Ext s (addB s (.row zer24 24 139 false 0 0 0)) := ext_addB _ _
  have hgA := addB_get s (.row zer24 24 139 false 0 0 0)
  obtain ⟨s1, hs1⟩ : ∃ s1, s1 = addB s (.row zer24 24 139 false 0 0 0) := ⟨_, rfl⟩
  have hs1' := hs1
  rw [← hs1] at hE1 hgA
  unfold zer24 at hs1
  simp only [List.replicate] at hs1
  obtain ⟨w, s2, e1, p1⟩ := hN [iv .u64 (n : Int)] s1 ⟨n, rfl, hn0, h64, hT.ext hE1⟩
  obtain ⟨rfl, rfl⟩ := p1 n rfl
  obtain ⟨w, s3, e2, p2⟩ := hF [.sl s.nx 0 1 (nd n) 23, iv .u64 (n : Int)] s2 ⟨s.nx, nd n, 23, n, zer24, rfl, hgA, rfl, by omega, by omega, h64, k4⟩
  obtain ⟨l', q1, q2, q3, q4, q5, q6⟩ := p2 _ _ _ _ _ rfl hgA rfl k4
  have hE3 : Ext s s3 := ⟨by rw [q2]; exact hE1.nx, fun x hx => by rw [q3 x (fun e => by rw [e] at hx; omega)]; exact hE1.get x hx⟩
  have sA := fun c => (slice10 s.nx (n := nd n) (by omega) c).1
  have sB := fun c => (slice10 s.nx (n := nd n) (by omega) c).2
  rw [hdg] at q5
  have hdl : (digs n).length = nd n := by rw [← hdg, ds_len]
  clear p1 p2 hdg
  generalize nd n = k at *
  have ad : IntKind.i64.wrap (1 + (k : Int)) = 1 + (k : Int) := wrap64 (by omega) (by omega)
  by_cases g2 : z < 0
  ·have hi : itoa z = 45 :: digs n := by unfold itoa; rw [if_pos g2, hn]
   have cz : ∀ c : V → Go.Ev.A, xIntConv .u64 (iv .i64 z) c = c (iv .u64 ((18446744073709551616 - n : Nat) : Int)) := fun c => by rw [convU64, show z % 18446744073709551616 = ((18446744073709551616 - n : Nat) : Int) by omega]
   have ng := fun c => xNegU n hn0 (by omega) c
   have g0 : ¬ 0 ≤ z := by omega
   have stz := fun kk => store_at q1 0 (iv .u8 45) (cellsC_iv .u8 45) (by omega) kk
   have q7 : Tr.get B.none s.nx (setB s3 s.nx (.row (upd [iv .u8 45] 0 l') 24 139 false 0 0 0)).h = .row (upd [iv .u8 45] 0 l') 24 139 false 0 0 0 := by rw [setB_get, if_pos rfl]
   have hE4 : Ext s (setB s3 s.nx (.row (upd [iv .u8 45] 0 l') 24 139 false 0 0 0)) := ext_set hE3 (Nat.le_refl _)
   have hul : (upd [iv .u8 45] 0 l').length = 24 := by rw [upd_len _ _ _ (by omega), q4]
   have st := fun c => strOf q7 hul (o := 0) (len := 1 + k) (cap := 24) (w := 45 :: digs n) (by rw [List.length_cons, hdl]; omega) (by omega) (by intro x hx; rcases List.mem_cons.1 hx with rfl | hx; omega; exact digs_byts n x hx) (fun j hj => by
    rw [upd_get _ _ _ (by omega)]
    by_cases hj0 : j = 0
    ·subst hj0; rw [if_pos rfl]; rfl
    ·rw [if_neg (by omega)]
     obtain ⟨i, rfl⟩ : ∃ i, j = i + 1 := ⟨j - 1, by omega⟩
     rw [show 0 + (i + 1) = 1 + i by omega, q5 i (by omega)]; rfl) c
   have ix : ∀ c : V → Go.Ev.A, xIdxAddrA 24 1 (.ptr s.nx 0 0) (iv .i64 0) c = c (.ptr s.nx 0 0) := fun c => rfl
   rw [hi]
   refine ⟨_, ?_, hE4⟩
   simp [allFmtInt, gp_sp, nat_iv, eql_ii, leq_ii, lss_ii, add_ii, g0, g2, newRow_add, ← hs1, cz, ng, e1, ad, sA, sB, e2, ix, stz, st]
  ·have hi : itoa z = digs n := by unfold itoa; rw [if_neg g2, hn]
   have cz : ∀ c : V → Go.Ev.A, xIntConv .u64 (iv .i64 z) c = c (iv .u64 (n : Int)) := fun c => by rw [convU64, show z % 18446744073709551616 = (n : Int) by omega]
   have g0 : 0 ≤ z := by omega
   have g3 : ¬ z < 100 := by omega
   have st := fun c => strOf q1 q4 (o := 1) (len := k) (cap := 23) (w := digs n) hdl (by omega) (digs_byts n) q5 c
   rw [hi]
   refine ⟨s3, ?_, hE3⟩
   simp [allFmtInt, gp_sp, nat_iv, eql_ii, leq_ii, lss_ii, add_ii, g0, g2, g3, newRow_add, ← hs1, cz, e1, ad, sA, e2, st]
theorem Stp.copy {s : S} {v : V} (h : Stp s v) {i : Nat} (hi : i < lenV v) : ∃ p, (∀ k c, xIdxAddrS 4 v (iv k i) c = c p) ∧ ∀ k : V → S → A, xLoad true 4 p s k = k (.ls 0 [cellV s v (i * 4), cellV s v (i * 4 + 1), cellV s v (i * 4 + 2), cellV s v (i * 4 + 3)]) s := by
 obtain ⟨p, h1, h2⟩ := h.at_ hi
 obtain ⟨⟨h3, -⟩, h4, h5, h6⟩ := h.2.2 i hi
 refine ⟨p, h1, fun k => ?_⟩
 rw [h2.loadN 4 (Nat.le_refl _) (fun j hj => ?_) k]
 ·simp only [List.range_succ, List.range_zero, List.nil_append, List.map_cons, List.map_nil, List.cons_append, Nat.add_zero]
 ·rcases (by omega : j = 0 ∨ j = 1 ∨ j = 2 ∨ j = 3) with rfl | rfl | rfl | rfl
  ·rw [Nat.add_zero, h3]; exact iv_ne _ _
  ·exact h4.ne
  ·exact h5.ne
  ·exact h6.ne
theorem inR_ext {s s' : S} {x : V} {n : Int} (h : Ints s x) (e : Ext s s') : inR s' x n ↔ inR s x n := by
 unfold inR; simp only [(h.ext e).2]
open Classical in
theorem loop14 {b : S} {v t : V} (hv : Stp b v) (ht : Strs b t) : ∀ tm s', (ltT b v t 42).pre tm s' → (ltT b v t 42).post tm s' (cTText_14.run (Rk Tryz.prog K (ltT b v t)) tm s') := by
 refine loop_k (L := ltT b v t) pcOk0.1 pcOk0.2 szTText_14 (fun tm _ => lenV v - (toI (gp 21 tm)).toNat) (fun tm s' a h1 (h2 : P14 _ _ _ _) => by rcases h2 with ⟨_, _, _, rfl, _⟩ | ⟨_, _, _, rfl, _⟩ <;> exact fun h => h) ?_
 rintro tm s' ⟨hE, h0, h1, h19, h20, h240, i, hi, h21, hj⟩ IH
 have hW := Rk_kept (L := ltT b v t) TWord_ok
 show P14 _ _ _ (cTText_14.run _ tm s')
 generalize Rk Tryz.prog _ _ = r at IH hW ⊢
 have hxn : ∀ b c, xUn .not (.bool b) c = c (.bool !b) := fun b c => by cases b <;> rfl
 by_cases hlt : i < lenV v
 ·have hw := wrapS hlt hv.2.1.1
  have hv' := hv.ext hE
  have ht' := ht.ext hE
  obtain ⟨p, hp, hP⟩ := hv'.1.copy hlt
  rw [hv'.2.1, hv'.2.1, hv'.2.1, hv'.2.1] at hP
  obtain ⟨⟨g0, -⟩, g1, g2, g3⟩ := hv.2.2 i hlt
  have hokW : okW b v t i ↔ (lenV (cellV b v (i * 4 + 1)) ≤ 200 ∧ inR b (cellV b v (i * 4 + 1)) (lenV t)) ∧ lenV (cellV b v (i * 4 + 2)) ≤ 200 ∧ inR b (cellV b v (i * 4 + 2)) (lenV t) := Iff.rfl
  generalize cellV b v (i * 4) = c0 at *
  generalize cellV b v (i * 4 + 1) = c1 at *
  generalize cellV b v (i * 4 + 2) = c2 at *
  generalize cellV b v (i * 4 + 3) = c3 at *
  have hE1 : Ext s' (addB s' (.row [c0, c1, c2, c3] 4 34 false 0 0 0)) := ext_addB _ _
  have hst := store_new s' 34 4 [iv .i64 0, .nil 1, .nil 1, .nil 1] [c0, c1, c2, c3] rfl rfl
  have L1 : ∀ s2, Ext (addB s' (.row [c0, c1, c2, c3] 4 34 false 0 0 0)) s2 → ∀ k : V → S → A, xLoad false 1 (.ptr s'.nx 0 1) s2 k = k c1 s2 := fun s2 e => newB_load e rfl 1 (by omega) g1.ne
  have L2 : ∀ s2, Ext (addB s' (.row [c0, c1, c2, c3] 4 34 false 0 0 0)) s2 → ∀ k : V → S → A, xLoad false 1 (.ptr s'.nx 0 2) s2 k = k c2 s2 := fun s2 e => newB_load e rfl 2 (by omega) g2.ne
  generalize hs1 : addB s' (.row [c0, c1, c2, c3] 4 34 false 0 0 0) = s1 at hE1 hst L1 L2
  have hbE1 := hE.trans hE1
  obtain ⟨w, s2, e1, p1⟩ := hW [c1, iv .i64 (lenV t)] s1 ⟨c1, _, rfl, (g1.ext hbE1).1⟩
  obtain ⟨hE2, rfl⟩ := p1 _ _ rfl
  rw [propext (inR_ext g1 hbE1)] at e1
  have hbad : ¬ okW b v t i → ¬ ∀ j, j < lenV v → okW b v t j := fun h g => h (g i hlt)
  by_cases q1 : lenV c1 ≤ 200 ∧ inR b c1 (lenV t)
  case neg =>
   rw [decide_eq_false q1] at e1
   simp [lpTText_14, allTText, gp_sp, h1, h19, h20, h21, lss_ii, hp, hP, nat_iv, hlt, newRow_add, hst, field_ptr, L1 s1 (Ext.refl _), ht'.1.1.len, e1, hxn]
   exact .inr ⟨hbad fun h => q1 (hokW.1 h).1, _, _, rfl, by simp [gp_sp, h240], by simp [gp_sp], by simp [gp_sp], hbE1.trans hE2⟩
  rw [decide_eq_true q1] at e1
  have hbE2 := hbE1.trans hE2
  obtain ⟨w, s3, e2, p2⟩ := hW [c2, iv .i64 (lenV t)] s2 ⟨c2, _, rfl, (g2.ext hbE2).1⟩
  obtain ⟨hE3, rfl⟩ := p2 _ _ rfl
  rw [propext (inR_ext g2 hbE2)] at e2
  by_cases q2 : lenV c2 ≤ 200 ∧ inR b c2 (lenV t)
  case neg =>
   rw [decide_eq_false q2] at e2
   simp [lpTText_14, allTText, gp_sp, h1, h19, h20, h21, lss_ii, hp, hP, nat_iv, hlt, newRow_add, hst, field_ptr, L1 s1 (Ext.refl _), L2 s2 hE2, ht'.1.1.len, e1, e2, hxn]
   exact .inr ⟨hbad fun h => q2 (hokW.1 h).2, _, _, rfl, by simp [gp_sp, h240], by simp [gp_sp], by simp [gp_sp], hbE2.trans hE3⟩
  rw [decide_eq_true q2] at e2
  have key : ∀ t' : T, gp 0 t' = v → gp 1 t' = t → gp 19 t' = v → gp 20 t' = iv .i64 (lenV v) → gp 240 t' = .bad → gp 21 t' = iv .i64 ((i : Int) + 1) → P14 b v t (r.code fiTText uTText_14 t' s3) := fun t' a0 a1 a2 a3 a4 a5 =>
   IH t' s3 (by rw [a5, h21, toI_iv, toI_iv]; omega) ⟨hbE2.trans hE3, a0, a1, a2, a3, a4, i + 1, by omega, by rw [a5]; rfl, fun j h => by
    rcases Nat.lt_or_ge j i with h' | h'
    ·exact hj j h'
    ·rw [show j = i by omega]; exact hokW.2 ⟨q1, q2⟩⟩
  simp [lpTText_14, allTText, gp_sp, h1, h19, h20, h21, lss_ii, add_ii, hw, hp, hP, nat_iv, hlt, newRow_add, hst, field_ptr, L1 s1 (Ext.refl _), L2 s2 hE2, ht'.1.1.len, e1, e2, hxn]
  exact key _ (by simp [gp_sp, h0]) (by simp [gp_sp, h1]) (by simp [gp_sp, h19]) (by simp [gp_sp, h20]) (by simp [gp_sp, h240]) (by simp [gp_sp])
 ·simp [lpTText_14, allTText, gp_sp, h20, h21, lss_ii, nat_iv, hlt]
  exact .inl ⟨fun j h => hj j (by omega), _, _, rfl, by simp [gp_sp, h240], by simp [gp_sp, h0], by simp [gp_sp, h1], hE⟩
theorem spans_txt_len {s : S} {v : V} (h : Spn s v) : ((spansV s v).map spanT).flatten.length ≤ lenV v * 65 := by
 have : ∀ l : List (Int × Int × Int), (∀ p ∈ l, i64ok p.1 ∧ i64ok p.2.1 ∧ i64ok p.2.2) → (l.map spanT).flatten.length ≤ l.length * 65 := by
  intro l
  induction l with
  | nil => intro _; exact Nat.le_refl _
  | cons p l ih =>
   intro hl
   have h1 := spanT_len (hl p (by simp))
   have h2 := ih fun q hq => hl q (by simp [hq])
   simp only [List.map_cons, List.flatten_cons, List.length_append, List.length_cons]
   omega
 have h2 := this (spansV s v) fun p hp => by
  unfold spansV at hp
  obtain ⟨j, hj, rfl⟩ := List.mem_map.1 hp
  exact h.ok (by simpa using hj)
 rwa [spans_len] at h2
theorem txtS_snoc {ns : List (List Nat)} {l : List StD} {i : Nat} {st : StD} (h : l[i]? = some st) : txtS ns (l.take (i + 1)) = txtS ns (l.take i) ++ lineT ns st := by
 have hi : i < l.length := by
  rcases Nat.lt_or_ge i l.length with h' | h'
  ·exact h'
  ·rw [List.getElem?_eq_none h'] at h; cases h
 rw [List.getElem?_eq_getElem hi] at h
 rw [List.take_succ_eq_append_getElem hi, Option.some.inj h]
 simp [txtS]
theorem txtS_take_le {ns : List (List Nat)} (l : List StD) (k : Nat) : (txtS ns (l.take k)).length ≤ (txtS ns l).length := by
 have : txtS ns l = txtS ns (l.take k) ++ txtS ns (l.drop k) := by
  unfold txtS
  rw [← List.flatten_append, ← List.map_append, List.take_append_drop]
 rw [this, List.length_append]; omega
theorem steps_get {s : S} {v : V} {i : Nat} (h : i < lenV v) : (stepsV s v)[i]? = some (stepV s v i) := by simp [stepsV, h]
theorem okX_of {b : S} {t x : V} (h : okT (names b t)) (hx : lenV x ≤ 200 ∧ inR b x (lenV t)) : okX (names b t) (word b x) := okX_iff.2 ⟨h, hx.1, hx.2⟩
open Classical in
theorem loop41 {b : S} {v t : V} (hTb : Tabs b) (hv : Stp b v) (ht : Strs b t) (hNum : Holds Tryz.prog K 18) (hT : okT (names b t)) (hW : ∀ j, j < lenV v → okW b v t j) (hS : ∀ j, j < lenV v → lenV (cellV b v (j * 4 + 3)) ≤ 250) :
  ∀ tm s', (ltT b v t 134).pre tm s' → (ltT b v t 134).post tm s' (cTText_41.run (Rk Tryz.prog K (ltT b v t)) tm s') := by
 refine loop_k (L := ltT b v t) pcOk0.1 pcOk0.2 szTText_41 (fun tm _ => lenV v - (toI (gp 26 tm)).toNat) (fun tm s' a h1 (h2 : P41 _ _ _) => by rcases h2 with ⟨_, _, _, rfl, _⟩ | ⟨_, _, _, rfl, _⟩ <;> exact fun h => h) ?_
 rintro tm s' ⟨hE, h1, h24, h25, h9, h240, i, hi, h26, hBd, hle⟩ IH
 have hX := Rk_kept (L := ltT b v t) SText_ok
 have hN := Rk_kept (L := ltT b v t) hNum
 have hBW := Rk_kept (L := ltT b v t) BWrite_ok
 have hBL := Rk_kept (L := ltT b v t) BLen_ok
 have hIn := loopIn (v := v) (t := t) hTb hNum
 show P41 _ _ (cTText_41.run _ tm s')
 generalize Rk Tryz.prog _ _ = r at IH hX hN hBW hBL hIn ⊢
 generalize h8 : gp 8 tm = pb at *
 by_cases hlt : i < lenV v
 ·have hw := wrapS hlt hv.2.1.1
  have hv' := hv.ext hE
  obtain ⟨p, hp, hP⟩ := hv'.1.copy hlt
  rw [hv'.2.1, hv'.2.1, hv'.2.1, hv'.2.1] at hP
  obtain ⟨⟨g0, g0'⟩, g1, g2, g3⟩ := hv.2.2 i hlt
  have hw12 := hW i hlt
  have h250 := hS i hlt
  have hsnoc := txtS_snoc (ns := names b t) (steps_get (s := b) hlt)
  have hst' : stepV b v i = ⟨toI (cellV b v (i * 4)), word b (cellV b v (i * 4 + 1)), word b (cellV b v (i * 4 + 2)), spansV b (cellV b v (i * 4 + 3))⟩ := rfl
  unfold okW at hw12
  generalize hz : toI (cellV b v (i * 4)) = z at *
  rw [g0] at hP
  generalize cellV b v (i * 4 + 1) = c1 at *
  generalize cellV b v (i * 4 + 2) = c2 at *
  generalize cellV b v (i * 4 + 3) = c3 at *
  have hE1 : Ext s' (addB s' (.row [iv .i64 z, c1, c2, c3] 4 34 false 0 0 0)) := ext_addB _ _
  have hst := store_new s' 34 4 [iv .i64 0, .nil 1, .nil 1, .nil 1] [iv .i64 z, c1, c2, c3] rfl rfl
  have hgA := addB_get s' (.row [iv .i64 z, c1, c2, c3] 4 34 false 0 0 0)
  have hnA : s'.nx.toNat < (addB s' (.row [iv .i64 z, c1, c2, c3] 4 34 false 0 0 0)).nx.toNat := by show s'.nx.toNat < s'.nx.succ.toNat; rw [K.toNat_succ]; omega
  generalize hs1 : addB s' (.row [iv .i64 z, c1, c2, c3] 4 34 false 0 0 0) = s1 at hE1 hst hgA hnA
  have hbE1 := hE.trans hE1
  have ok1 := okX_of hT hw12.1
  have ok2 := okX_of hT hw12.2
  obtain ⟨w, s2, e1, p1⟩ := hX [t, c1] s1 ⟨t, c1, rfl, (ht.ext hbE1).1, (g1.ext hbE1).1, hTb.ext hbE1⟩
  obtain ⟨hE2, rfl⟩ := p1 _ _ rfl
  rw [(ht.ext hbE1).2, g1.word hbE1, if_pos ok1] at e1
  have hbE2 := hbE1.trans hE2
  obtain ⟨w, s3, e2, p2⟩ := hX [t, c2] s2 ⟨t, c2, rfl, (ht.ext hbE2).1, (g2.ext hbE2).1, hTb.ext hbE2⟩
  obtain ⟨hE3, rfl⟩ := p2 _ _ rfl
  rw [(ht.ext hbE2).2, g2.word hbE2, if_pos ok2] at e2
  have hbE3 := hbE2.trans hE3
  obtain ⟨w, s4, e3, p3⟩ := hN [iv .i64 z] s3 ⟨z, rfl, g0', hTb.ext hbE3⟩
  obtain ⟨hE4, rfl⟩ := p3 _ rfl
  have hbE4 := hbE3.trans hE4
  have hB4 : Bld b s4 pb _ := hBd.ext (((hE1.trans hE2).trans hE3).trans hE4)
  have n1 := txt_len hT.2.1 (word b c1)
  have n2 := txt_len hT.2.1 (word b c2)
  rw [word_len] at n1 n2
  have n3 := itoa_len g0'
  have m1 : lenV c1 ≤ 200 := hw12.1.1
  have m2 : lenV c2 ≤ 200 := hw12.2.1
  clear p1 p2 p3
  generalize hx1 : txtW (names b t) (word b c1) = x1 at *
  generalize hx2 : txtW (names b t) (word b c2) = x2 at *
  generalize hW0 : txtS (names b t) ((stepsV b v).take i) = W at *
  have a1 := addS (itoa z) [58, 32] (by simp; omega)
  have a2 := addS (itoa z ++ [58, 32]) x1 (by simp; omega)
  have a3 := addS (itoa z ++ [58, 32] ++ x1) [32, 45, 62, 32] (by simp; omega)
  have a4 := addS (itoa z ++ [58, 32] ++ x1 ++ [32, 45, 62, 32]) x2 (by simp; omega)
  have hline : lineT (names b t) (stepV b v i) = itoa z ++ [58, 32] ++ x1 ++ [32, 45, 62, 32] ++ x2 ++ ((spansV b c3).map spanT).flatten ++ [10] := by
   rw [hst']; unfold lineT; rw [hx1, hx2]
  have n4 : (itoa z ++ [58, 32] ++ x1 ++ [32, 45, 62, 32] ++ x2).length ≤ 16100 := by simp; omega
  generalize itoa z ++ [58, 32] ++ x1 ++ [32, 45, 62, 32] ++ x2 = y4 at *
  generalize itoa z ++ [58, 32] ++ x1 ++ [32, 45, 62, 32] = y3 at *
  generalize itoa z ++ [58, 32] ++ x1 = y2 at *
  generalize itoa z ++ [58, 32] = y1 at *
  obtain ⟨w, s5, e4, p4⟩ := hBW [pb, .str y4] s4 ⟨b, _, _, _, rfl, hB4, hbE4, by omega⟩
  obtain ⟨⟨hB5, hbE5⟩, hF5, hnx5⟩ := p4 b _ _ _ rfl hB4 hbE4 (by omega)
  clear p4
  have hE14 := (hE2.trans hE3).trans hE4
  have hg4 : Tr.get B.none s'.nx s4.h = .row [iv .i64 z, c1, c2, c3] 4 34 false 0 0 0 := (hE14.get s'.nx hnA).trans hgA
  have hg5 : Tr.get B.none s'.nx s5.h = .row [iv .i64 z, c1, c2, c3] 4 34 false 0 0 0 := (hF5 s'.nx (Nat.lt_of_lt_of_le hnA hE14.nx) (fun l n mn h => by rw [hg4] at h; cases h) (fun l h => by rw [hg4] at h; cases h)).trans hg4
  have hg3 : Tr.get B.none s'.nx s3.h = .row [iv .i64 z, c1, c2, c3] 4 34 false 0 0 0 := ((hE2.trans hE3).get s'.nx hnA).trans hgA
  have hg2 : Tr.get B.none s'.nx s2.h = .row [iv .i64 z, c1, c2, c3] 4 34 false 0 0 0 := (hE2.get s'.nx hnA).trans hgA
  have L1 : ∀ k : V → S → A, xLoad false 1 (.ptr s'.nx 0 1) s1 k = k c1 s1 := load_at hgA 1 rfl (by omega) g1.ne
  have L2 : ∀ k : V → S → A, xLoad false 1 (.ptr s'.nx 0 2) s2 k = k c2 s2 := load_at hg2 2 rfl (by omega) g2.ne
  have L0 : ∀ k : V → S → A, xLoad false 1 (.ptr s'.nx 0 0) s3 k = k (iv .i64 z) s3 := load_at hg3 0 rfl (by omega) (iv_ne _ _)
  have L3 : ∀ k : V → S → A, xLoad false 1 (.ptr s'.nx 0 3) s5 k = k c3 s5 := load_at hg5 3 rfl (by omega) g3.ne
  have l3 := g3.1.len
  have hsl := spans_txt_len g3
  simp [lpTText_41, allTText, gp_sp, h1, h8, h9, h24, h25, h26, lss_ii, neq_ii, hp, hP, nat_iv, hlt, newRow_add, hst, field_ptr, L0, L1, L2, L3, l3, callV_fn0, e1, e2, e3, e4, a1, a2, a3, a4]
  generalize hA : cTText_70.run r _ s5 = ain
  have hin := hA ▸ hIn _ s5 ⟨hbE5, by simp [gp_sp]; exact g3, by simp [gp_sp]; exact h250, by simp [gp_sp], by simp [gp_sp, h9], 0, _, by omega, by simp [gp_sp], by simp [gp_sp, h8]; exact hB5, by rw [List.length_append]; omega⟩ 0 _ (by omega) (by simp [gp_sp]) (by simp [gp_sp, h8]; exact hB5) (by rw [List.length_append]; omega)
  obtain ⟨tm', s6, rfl, ⟨f1, f8, f9, f24, f25, f26, f240⟩, hbE6, hB6⟩ := hin
  simp [gp_sp, h1, h8, h9, h24, h25, h26, h240] at f1 f8 f9 f24 f25 f26 f240 hB6
  have hfull : (W ++ y4 ++ ((spansV b c3).map spanT).flatten) ++ [10] = txtS (names b t) ((stepsV b v).take (i + 1)) := by
   rw [hsnoc, hline]; simp only [List.append_assoc]
  have hB6' : Bld b s6 pb (W ++ y4 ++ ((spansV b c3).map spanT).flatten) := by simpa using hB6
  have hl6 : (W ++ y4 ++ ((spansV b c3).map spanT).flatten).length ≤ 60000 := by simp only [List.length_append]; omega
  obtain ⟨w, s7, e5, p5⟩ := hBW [pb, .str [10]] s6 ⟨b, _, _, _, rfl, hB6', hbE6, by simp only [List.length_cons, List.length_nil]; omega⟩
  obtain ⟨⟨hB7, hbE7⟩, -⟩ := p5 b _ _ _ rfl hB6' hbE6 (by simp only [List.length_cons, List.length_nil]; omega)
  rw [hfull] at hB7
  obtain ⟨w', s8, e6, p6⟩ := hBL [pb] s7 ⟨b, _, _, rfl, hB7⟩
  obtain ⟨rfl, rfl⟩ := p6 b _ _ rfl hB7
  have htl := txtS_take_le (ns := names b t) (stepsV b v) (i + 1)
  clear p5 p6 hA hIn hfull hsnoc hline
  generalize hW1 : txtS (names b t) ((stepsV b v).take (i + 1)) = W1 at *
  by_cases g : W1.length ≤ 16384
  ·have g' : ¬ (16384 : Int) < W1.length := by omega
   have key : ∀ t' : T, gp 1 t' = t → gp 8 t' = pb → gp 9 t' = .fn (.func 18) [] [] → gp 24 t' = v → gp 25 t' = iv .i64 (lenV v) → gp 240 t' = .bad → gp 26 t' = iv .i64 ((i : Int) + 1) → P41 b (txtS (names b t) (stepsV b v)) (r.code fiTText uTText_41 t' s8) := fun t' q1 q2 q3 q4 q5 q6 q7 =>
    IH t' s8 (by rw [q7, h26, toI_iv, toI_iv]; omega) ⟨hbE7, q1, q4, q5, q3, q6, i + 1, by omega, by rw [q7]; rfl, by rw [q2, hW1]; exact hB7, by rw [hW1]; exact g⟩
   simp [blockA_ext, gp_sp, f8, f26, e5, e6, gtr_ii, add_ii, hw, g']
   exact key _ (by simp [gp_sp, f1]) (by simp [gp_sp, f8]) (by simp [gp_sp, f9]) (by simp [gp_sp, f24]) (by simp [gp_sp, f25]) (by simp [gp_sp, f240]) (by simp [gp_sp])
  ·have g' : (16384 : Int) < W1.length := by omega
   simp [blockA_ext, gp_sp, f8, e5, e6, gtr_ii, g']
   exact .inr ⟨by omega, _, _, rfl, by simp [gp_sp, f240], by simp [gp_sp], by simp [gp_sp], hbE7⟩
 ·simp [lpTText_41, allTText, gp_sp, h25, h26, lss_ii, nat_iv, hlt]
  rw [List.take_of_length_le (by rw [steps_len]; omega)] at hBd hle
  exact .inl ⟨hle, _, _, rfl, by simp [gp_sp, h240], hE, by simp [gp_sp, h8]; exact hBd⟩
theorem okS_iff {b : S} {v t : V} : okS (names b t) (stepsV b v) ↔ okT (names b t) ∧ ∀ j, j < lenV v → okW b v t j := by
 have hx : ∀ x, okT (names b t) → (okX (names b t) (word b x) ↔ lenV x ≤ 200 ∧ inR b x (lenV t)) := fun x h => by rw [okX_iff]; exact ⟨fun h => h.2, fun g => ⟨h, g⟩⟩
 constructor
 ·rintro ⟨h1, h2⟩
  refine ⟨h1, fun j hj => ?_⟩
  have := h2 _ (steps_mem.2 ⟨j, hj, rfl⟩)
  unfold stepV at this
  exact ⟨(hx _ h1).1 this.1, (hx _ h1).1 this.2⟩
 ·rintro ⟨h1, h2⟩
  refine ⟨h1, fun st hst => ?_⟩
  obtain ⟨j, hj, rfl⟩ := steps_mem.1 hst
  unfold stepV
  exact ⟨(hx _ h1).2 (h2 j hj).1, (hx _ h1).2 (h2 j hj).2⟩
theorem txtS_byts {b : S} {v t : V} (ht : Strs b t) : Byts (txtS (names b t) (stepsV b v)) := by
 have hc : ∀ {x : List Nat}, (∀ z ∈ x, z < 256) → Byts x := fun h => h
 have happ : ∀ {x y : List Nat}, Byts x → Byts y → Byts (x ++ y) := fun hx hy z hz => by
  rcases List.mem_append.1 hz with h | h
  ·exact hx z h
  ·exact hy z h
 intro z hz
 unfold txtS at hz
 obtain ⟨l, hl, hz⟩ := List.mem_flatten.1 hz
 obtain ⟨st, _, rfl⟩ := List.mem_map.1 hl
 suffices h : Byts (lineT (names b t) st) from h z hz
 unfold lineT
 have hs : Byts (st.spans.map spanT).flatten := by
  intro z hz
  obtain ⟨l, hl, hz⟩ := List.mem_flatten.1 hz
  obtain ⟨p, _, rfl⟩ := List.mem_map.1 hl
  suffices h : Byts (spanT p) from h z hz
  unfold spanT
  exact happ (happ (happ (happ (happ (happ (hc (by decide)) (itoa_byts _)) (hc (by decide))) (itoa_byts _)) (hc (by decide))) (itoa_byts _)) (hc (by decide))
 exact happ (happ (happ (happ (happ (happ (itoa_byts _) (hc (by decide))) (txt_byts (names_byts ht) _)) (hc (by decide))) (txt_byts (names_byts ht) _)) hs) (hc (by decide))
open Classical in
theorem TText_ok (hNum : Holds Tryz.prog K 18) : Holds Tryz.prog K 7 := by
 rintro a s ⟨v, t, rfl, hv, ht, hT, hm⟩
 suffices h : ∃ s', (fnC pc0 7).run (Rk Tryz.prog K (ltT s v t)) [v, t] s = .ret (textR (names s t) (stepsV s v)) s' ∧ Ext s s' by
  obtain ⟨s', h1, h2⟩ := h
  exact ⟨_, s', fn_k h1, fun v' t' e => by cases e; exact ⟨h2, rfl⟩⟩
 have hV := Rk_kept (L := ltT s v t) SValid_ok
 have hS := Rk_kept (L := ltT s v t) BString_ok
 have hL14 := loop14 hv ht
 have hL41 := fun h1 h2 h3 => loop41 (b := s) (v := v) (t := t) hT hv ht hNum h1 h2 h3
 generalize Rk Tryz.prog _ _ = r at hV hS hL14 hL41 ⊢
 have hxn : ∀ b c, xUn .not (.bool b) c = c (.bool !b) := fun b c => by cases b <;> rfl
 obtain ⟨w, s1, e1, p1⟩ := hV [t] s ⟨t, rfl, ht, hT⟩
 obtain ⟨hE1, rfl⟩ := p1 _ rfl
 by_cases g1 : okT (names s t)
 case neg =>
  rw [decide_eq_false g1] at e1
  rw [show textR (names s t) (stepsV s v) = .ls 1 [.str [], iv .i64 1] by unfold textR; rw [if_neg (fun h => g1 h.1)]]
  exact ⟨s1, by simp [allTText, gp_sp, e1, hxn, nat_iv], hE1⟩
 rw [decide_eq_true g1] at e1
 have hv1 := (hv.ext hE1).1
 simp [allTText, gp_sp, e1, hxn, nat_iv, hv1.1.len]
 generalize hA : cTText_14.run r _ s1 = y
 have := hA ▸ hL14 _ s1 ⟨hE1, by simp [gp_sp], by simp [gp_sp], by simp [gp_sp], by simp [gp_sp], by simp [gp_sp], 0, by omega, by simp [gp_sp], fun j h => by omega⟩
 rcases this with ⟨hg, tm', s2, rfl, k1, k2, k3, hE2⟩ | ⟨hg, tm', s2, rfl, k1, k2, k3, hE2⟩
 ·have hS250 : ∀ j, j < lenV v → lenV (cellV s v (j * 4 + 3)) ≤ 250 := fun j hj => by
   have h1 := Classical.not_not.1 (fun h => hm (many_iff.2 (.inr h))) j hj
   unfold big1 at h1
   omega
  have hL := hL41 g1 hg hS250
  have hE3 : Ext s (addB s2 (.row [.nil 0, .nil 1] 2 52 false 0 0 0)) := hE2.trans (ext_addB _ _)
  have hB0 : Bld s (addB s2 (.row [.nil 0, .nil 1] 2 52 false 0 0 0)) (.ptr s2.nx 0 0) [] := ⟨s2.nx, .nil 0, .nil 1, rfl, hE2.nx, (by show s2.nx.toNat < s2.nx.succ.toNat; rw [K.toNat_succ]; omega), by rw [addB_get], .inl rfl, .inl ⟨rfl, rfl⟩⟩
  simp [blockA_ext, gp_sp, k2, newRow_add, (hv.ext hE3).1.1.len]
  generalize hA2 : cTText_41.run r _ _ = y2
  have := hA2 ▸ hL _ _ ⟨hE3, by simp [gp_sp, k3], by simp [gp_sp], by simp [gp_sp], by simp [gp_sp], by simp [gp_sp, k1], 0, by omega, by simp [gp_sp], by simp [gp_sp]; exact hB0, by simp [txtS]⟩
  have hok : okS (names s t) (stepsV s v) := okS_iff.2 ⟨g1, hg⟩
  rcases this with ⟨hl, tm2, s3, rfl, j1, hE4, hB4⟩ | ⟨hl, tm2, s3, rfl, j1, j2, j3, hE4⟩
  ·rw [show textR (names s t) (stepsV s v) = .ls 1 [.str (txtS (names s t) (stepsV s v)), iv .i64 0] by unfold textR; rw [if_pos hok, if_pos hl]]
   have hby := txtS_byts (v := v) ht
   obtain ⟨w, s4, e4, p4⟩ := hS [gp 8 tm2] s3 ⟨s, _, _, rfl, hB4, hE4, hby, by omega⟩
   obtain ⟨hE5, rfl⟩ := p4 s _ _ rfl hB4 hE4 hby (by omega)
   exact ⟨s4, by simp [blockA_ext, gp_sp, j1, e4], hE5⟩
  ·rw [show textR (names s t) (stepsV s v) = .ls 1 [.str [], iv .i64 2] by unfold textR; rw [if_pos hok, if_neg hl]]
   exact ⟨s3, by simp [j1, j2, j3], hE4⟩
 ·rw [show textR (names s t) (stepsV s v) = .ls 1 [.str [], iv .i64 1] by unfold textR; rw [if_neg (fun h => hg (okS_iff.1 h).2)]]
  exact ⟨s2, by simp [k1, k2, k3], hE2⟩
end Go.Proofs.YtdeffnjoddncnaaGreatDoor.oev
namespace Go.Proofs.YtdeffnjoddncnaaGreatDoor.oev
open Go.Ev Go.RowKit Go
variable {H : Type} {enc : TypeId × Value → H} {P : Program}
theorem bytesL_byts (s : ByteArray) : Byts (bytesL s) := by
 intro x hx
 unfold bytesL at hx
 simp at hx
 obtain ⟨b, _, rfl⟩ := hx
 exact b.toNat_lt
theorem strs_abs {W : World} {t e : TypeId} {fuel : Nat} {x : Value} {y : DataW H × List MemPlace} {held : Bool} (ht : P.underlying t = some (.slice e)) (he : P.underlying e = some .string) (hc : P.cellsOf e = 1)
  (h : DataW.trod enc P W 0 (fun _ => true) held fuel t [x] = some y) : Strs (absS W) (absC W.heap.size x) := by
 rcases Go.ChangeShapes.open_strings ht he hc h with ⟨e1, _⟩ | ⟨a, len, cap, ss, e1, _, hl, hm, hz, _, hcell, _⟩
 ·cases e1
  exact ⟨.inl (.inl rfl), by show (0 : Nat) ≤ _; omega, fun j hj => by cases hj⟩
 ·cases e1
  simp only [if_true] at hz
  obtain ⟨h1, h2, h3⟩ := sl_abs (W := W) (a := a) (sz := 1) (V := fun j => .string (ss.getD j ByteArray.empty)) hl (fun j hj => hcell j (by omega)) (by omega)
  refine ⟨h1.1, by rw [h2]; have : maxLen = 9223372036854775807 := rfl; omega, fun j hj => ?_⟩
  rw [h2] at hj
  rw [h3 j (by omega)]
  exact ⟨rfl, bytesL_byts _⟩
end Go.Proofs.YtdeffnjoddncnaaGreatDoor.oev
namespace Go.Proofs.YtdeffnjoddncnaaGreatDoor.oev
open Go.Ev Go.RowKit Go
variable {H : Type} {enc : TypeId × Value → H} {P : Program}
theorem open_cells {W : World} {t e : TypeId} {fuel sz : Nat} {x : Value} {y : DataW H × List MemPlace} {held : Bool} (hsz : 0 < sz) (ht : P.underlying t = some (.slice e)) (hc : P.cellsOf e = sz)
  (h : DataW.trod enc P W 0 (fun _ => true) held fuel t [x] = some y) :
  x = .slice none 0 0 ∨ ∃ (a : Addr) (len cap n : Nat) (V : Nat → Value) (D : Nat → DataW H × List MemPlace), x = .slice (some a) len cap ∧ len ≤ cap ∧ cap ≤ maxLen ∧ (∀ j, j < cap * sz → W.cell? (a.add j) = some (V j)) ∧
   ∀ i, i < cap → DataW.trod enc P W 0 (fun _ => true) held n e ((List.range sz).map fun j => V (i * sz + j)) = some (D i) := by
 rcases Go.Deep.open_slice ht h with ⟨e1, _⟩ | ⟨a, len, cap, m, n, D, Pl, e1, _, hl, hm, hmm, _, hx⟩
 ·cases e1; exact .inl rfl
 ·cases e1
  simp only [if_true] at hmm
  subst hmm
  obtain ⟨q, hq⟩ := Go.Deep.choose_lt hx
  have hcell : ∀ i, i < m → ∀ k, k < sz → W.cell? (a.add (i * sz + k)) = some ((q i).getD k (.bool false)) := fun i hi k hk => by
   have h1 := (hq i hi).1
   rw [hc] at h1
   obtain ⟨_, hlen, hh⟩ := World.cells?_some h1
   have h2 := hh k hk
   rw [Go.Deep.add_add] at h2
   rw [h2, List.getD_eq_getElem?_getD, List.getElem?_eq_getElem (by omega)]; rfl
  refine .inr ⟨a, len, m, n, fun j => (q (j / sz)).getD (j % sz) (.bool false), fun i => (D i, Pl i), rfl, hl, hm, fun j hj => ?_, fun i hi => ?_⟩
  ·have h1 : j / sz < m := (Nat.div_lt_iff_lt_mul hsz).2 hj
   have := hcell (j / sz) h1 (j % sz) (Nat.mod_lt _ hsz)
   rw [Nat.mul_comm, Nat.div_add_mod] at this
   exact this
  ·have h1 := (hq i hi).1
   rw [hc] at h1
   obtain ⟨_, hlen, _⟩ := World.cells?_some h1
   rw [← (hq i hi).2]
   congr 1
   apply List.ext_getElem (by simp [hlen])
   intro k h3 h4
   have hk : k < sz := by simpa using h3
   have e1 : (i * sz + k) / sz = i := by rw [Nat.add_comm, Nat.add_mul_div_right _ _ hsz, Nat.div_eq_of_lt hk]; omega
   have e2 : (i * sz + k) % sz = k := by rw [Nat.add_comm, Nat.add_mul_mod_self_right, Nat.mod_eq_of_lt hk]
   simp only [List.getElem_map, List.getElem_range, e1, e2]
   rw [List.getD_eq_getElem?_getD, List.getElem?_eq_getElem h4]; rfl
theorem i64_wf {z : Int} (h : (Lit.int .i64 z).wf = true) : i64ok z := by
 simp [Lit.wf, IntKind.min, IntKind.max, IntKind.signed, IntKind.bits] at h
 unfold i64ok; omega
theorem int_abs {W : World} {t : TypeId} {n : Nat} {held : Bool} {v : Value} {y : DataW H × List MemPlace} (ht : P.underlying t = some (.int .i64)) (h : DataW.trod enc P W 0 (fun _ => true) held n t [v] = some y) :
  absC W.heap.size v = iv .i64 (toI (absC W.heap.size v)) ∧ i64ok (toI (absC W.heap.size v)) := by
 obtain ⟨z, e, _, hw⟩ := DataW.trod_int ht h
 cases e
 show iv .i64 z = iv .i64 (toI (iv .i64 z)) ∧ i64ok (toI (iv .i64 z))
 rw [toI_iv]
 exact ⟨rfl, i64_wf hw⟩
theorem spn_abs {W : World} {t e i : TypeId} {f0 f1 f2 : Field} {fuel : Nat} {x : Value} {y : DataW H × List MemPlace} {held : Bool} (ht : P.underlying t = some (.slice e)) (he : P.underlying e = some (.struct #[f0, f1, f2])) (ce : P.cellsOf e = 3)
  (o0 : f0.offset = 0) (o1 : f1.offset = 1) (o2 : f2.offset = 2) (t0 : f0.type = i) (t1 : f1.type = i) (t2 : f2.type = i) (hi : P.underlying i = some (.int .i64)) (ci : P.cellsOf i = 1)
  (h : DataW.trod enc P W 0 (fun _ => true) held fuel t [x] = some y) : Spn (absS W) (absC W.heap.size x) := by
 rcases open_cells (by omega) ht ce h with rfl | ⟨a, len, cap, n, V, D, rfl, hl, hm, hcell, hel⟩
 ·exact ⟨.inl (.inl rfl), by show (0 : Nat) ≤ _; omega, fun j hj => by cases hj⟩
 ·obtain ⟨h1, h2, h3⟩ := sl_abs (W := W) (a := a) (sz := 3) (V := V) hl hcell (by omega)
  refine ⟨h1.1, by rw [h2]; have : maxLen = 9223372036854775807 := rfl; omega, fun j hj => ?_⟩
  rw [h2] at hj
  rw [h3 j hj]
  have hj3 : j / 3 < cap := by omega
  obtain ⟨y0, y1, y2, m, _, _, g0, g1, g2⟩ := Go.Deep.trod_struct3 he (hel (j / 3) hj3)
  simp only [o0, o1, o2, t0, t1, t2, ci, List.range_succ, List.range_zero, List.nil_append, List.map_cons, List.map_nil, List.cons_append, List.drop_succ_cons, List.drop_zero, List.take_succ_cons, List.take_zero] at g0 g1 g2
  have : j % 3 = 0 ∨ j % 3 = 1 ∨ j % 3 = 2 := by omega
  rcases this with e | e | e
  ·have := int_abs hi g0
   rwa [show j / 3 * 3 + 0 = j by omega] at this
  ·have := int_abs hi g1
   rwa [show j / 3 * 3 + 1 = j by omega] at this
  ·have := int_abs hi g2
   rwa [show j / 3 * 3 + 2 = j by omega] at this
theorem stp_abs {W : World} {t e i il sl se : TypeId} {f0 f1 f2 f3 k0 k1 k2 : Field} {fuel : Nat} {x : Value} {y : DataW H × List MemPlace} {held : Bool} (ht : P.underlying t = some (.slice e)) (he : P.underlying e = some (.struct #[f0, f1, f2, f3])) (ce : P.cellsOf e = 4)
  (o0 : f0.offset = 0) (o1 : f1.offset = 1) (o2 : f2.offset = 2) (o3 : f3.offset = 3) (t0 : f0.type = i) (t1 : f1.type = il) (t2 : f2.type = il) (t3 : f3.type = sl) (hi : P.underlying i = some (.int .i64)) (ci : P.cellsOf i = 1)
  (hil : P.underlying il = some (.slice i)) (cil : P.cellsOf il = 1)
  (hsl : P.underlying sl = some (.slice se)) (csl : P.cellsOf sl = 1) (hse : P.underlying se = some (.struct #[k0, k1, k2])) (cse : P.cellsOf se = 3)
  (p0 : k0.offset = 0) (p1 : k1.offset = 1) (p2 : k2.offset = 2) (r0 : k0.type = i) (r1 : k1.type = i) (r2 : k2.type = i)
  (h : DataW.trod enc P W 0 (fun _ => true) held fuel t [x] = some y) : Stp (absS W) (absC W.heap.size x) := by
 rcases open_cells (by omega) ht ce h with rfl | ⟨a, len, cap, n, V, D, rfl, hl, hm, hcell, hel⟩
 ·exact ⟨.inl (.inl rfl), ⟨by show (0 : Nat) ≤ _; omega, trivial⟩, fun j hj => by cases hj⟩
 ·obtain ⟨h1, h2, h3⟩ := sl_abs (W := W) (a := a) (sz := 4) (V := V) hl hcell (by omega)
  refine ⟨h1.1, ⟨by rw [h2]; have : maxLen = 9223372036854775807 := rfl; omega, h1.2⟩, fun j hj => ?_⟩
  rw [h2] at hj
  obtain ⟨y0, y1, y2, y3, m, _, _, g0, g1, g2, g3⟩ := Go.Joins.trod_struct4 he (hel j (by omega))
  simp only [o0, o1, o2, o3, t0, t1, t2, t3, ci, cil, csl, List.range_succ, List.range_zero, List.nil_append, List.map_cons, List.map_nil, List.cons_append, List.drop_succ_cons, List.drop_zero, List.take_succ_cons, List.take_zero, Nat.add_zero] at g0 g1 g2 g3
  rw [h3 _ (by omega), h3 _ (by omega), h3 _ (by omega), h3 _ (by omega)]
  exact ⟨int_abs hi g0, (ints_abs hil hi ci g1).1.1, (ints_abs hil hi ci g2).1.1, spn_abs hsl hse cse p0 p1 p2 r0 r1 r2 hi ci g3⟩
theorem laid_cells {W : World} {l : List (String × DataW Unit)} {ps : List MemPlace} (h : DataW.LaidVars P W l ps) : ∀ x ∈ l, ∃ g t cs el fz fuel p, P.globalNamed x.1 = some g ∧ (P.globals[g]?).map (·.type) = some t ∧ W.heap[g]? = some (.cells cs el fz) ∧ DataW.trod (fun _ => ()) P W 0 (fun _ => true) false fuel t cs.toList = some (x.2, p) := by
 induction l generalizing ps with
 | nil => intro x hx; cases hx
 | cons y l ih =>
  obtain ⟨n, d⟩ := y
  obtain ⟨g, t, cs, fuel, p, q, h1, h2, h3, h4, h5, _⟩ := h
  intro x hx
  rcases List.mem_cons.1 hx with rfl | hx
  ·have : ∃ el fz, W.heap[g]? = some (.cells cs el fz) := by
    unfold World.var? at h3
    rw [h1] at h3
    simp only [Option.bind_some] at h3
    split at h3
    ·rename_i c el fz hc; cases h3; exact ⟨el, fz, hc⟩
    ·cases h3
   obtain ⟨el, fz, h6⟩ := this
   exact ⟨g, t, cs, el, fz, fuel, p, h1, h2, h6, h4⟩
  ·exact ih h5 x hx
theorem arr_ints {W : World} {t e : TypeId} {k : IntKind} {n fuel : Nat} {cs : List Value} {p : List MemPlace} {zs : List Nat} {held : Bool} (ht : P.underlying t = some (.array n e)) (he : P.underlying e = some (.int k)) (ce : P.cellsOf e = 1) (ct : P.cellsOf t = n)
  (h : DataW.trod enc P W 0 (fun _ => true) held fuel t cs = some (.agg (zs.map fun z : Nat => .lit (.int k (z : Int))), p)) : cs = zs.map fun z : Nat => Value.int k (z : Int) := by
 obtain ⟨xs, m, rfl, hx, hl, hn, hel⟩ := DataW.trod_array ht h
 have hzs : xs.map (·.1) = zs.map fun z : Nat => DataW.lit (.int k (z : Int)) := by injection hx with h1 _; injection h1 with h1; exact h1.symm
 have hlz : zs.length = n := by have := congrArg List.length hzs; simp at this; omega
 apply List.ext_getElem (by simp; omega)
 intro i h1 h2
 have hi : i < n := by omega
 have h3 := hel i hi
 rw [ce, Nat.mul_one, List.getElem?_eq_getElem (by omega)] at h3
 obtain ⟨z, e1, e2, _⟩ := DataW.trod_int he h3
 have e3 : (xs.map (·.1))[i]? = some (DataW.lit (.int k z)) := by rw [List.getElem?_map, List.getElem?_eq_getElem (by omega), e2]; rfl
 rw [hzs, List.getElem?_map, List.getElem?_eq_getElem (by omega)] at e3
 simp at e3
 rw [List.drop_eq_getElem_cons h1, List.take_succ_cons, List.take_zero] at e1
 rw [List.getElem_map, e3]
 exact (List.cons.inj e1).1
theorem row_ints {W : World} {cs : Array Value} {g : Nat} {el : TypeId} {fz : Nat × Nat} {k : IntKind} {zs : List Nat} {n : Nat} (hn : zs.length = n) (hb : W.heap[g]? = some (.cells cs el fz)) (h : cs.toList = zs.map fun z : Nat => Value.int k (z : Int)) :
  ∃ el f2, Tr.get B.none (kOf g) (absS W).h = .row (zs.map fun n : Nat => iv k (n : Int)) n el false 0 0 f2 := by
 obtain ⟨_, h1⟩ := absS_row hb
 refine ⟨el, cs.size, ?_⟩
 rw [h1]
 have hs : cs.size = n := by rw [← hn]; have := congrArg List.length h; simpa using this
 rw [h, List.map_map]
 have e : (absC W.heap.size ∘ fun z : Nat => Value.int k (z : Int)) = fun n : Nat => iv k (n : Int) := rfl
 rw [e, hs]
end Go.Proofs.YtdeffnjoddncnaaGreatDoor.oev
namespace Go.Proofs.YtdeffnjoddncnaaGreatDoor.oev
open Go.Ev Go.RowKit Go
variable {P : Program}
theorem arr_pairs {W : World} {t e i : TypeId} {k : IntKind} {f0 f1 : Field} {n fuel : Nat} {cs : List Value} {p : List MemPlace} {zs : List (Nat × Nat)} {held : Bool} (ht : P.underlying t = some (.array n e)) (he : P.underlying e = some (.struct #[f0, f1])) (ce : P.cellsOf e = 2) (ct : P.cellsOf t = n * 2)
  (o0 : f0.offset = 0) (o1 : f1.offset = 1) (t0 : f0.type = i) (t1 : f1.type = i) (hi : P.underlying i = some (.int k)) (ci : P.cellsOf i = 1)
  (h : DataW.trod (fun _ => ()) P W 0 (fun _ => true) held fuel t cs = some (.agg (zs.map fun z : Nat × Nat => .agg [.lit (.int k (z.1 : Int)), .lit (.int k (z.2 : Int))]), p)) :
  cs = (zs.flatMap fun z => [z.1, z.2]).map fun z : Nat => Value.int k (z : Int) := by
 obtain ⟨xs, m, rfl, hx, hl, hn, hel⟩ := DataW.trod_array ht h
 have hzs : xs.map (·.1) = zs.map fun z : Nat × Nat => DataW.agg [.lit (.int k (z.1 : Int)), .lit (.int k (z.2 : Int))] := by injection hx with h1 _; injection h1 with h1; exact h1.symm
 have hlz : zs.length = n := by have := congrArg List.length hzs; simp at this; omega
 have key : ∀ j, j < n → ∀ z, zs[j]? = some z → (cs.drop (j * 2)).take 2 = [Value.int k (z.1 : Int), Value.int k (z.2 : Int)] := by
  intro j hj z hz
  have h3 := hel j hj
  rw [ce, List.getElem?_eq_getElem (by omega)] at h3
  have e3 : (xs.map (·.1))[j]? = some (xs[j]'(by omega)).1 := by rw [List.getElem?_map, List.getElem?_eq_getElem (by omega)]; rfl
  rw [hzs, List.getElem?_map, hz] at e3
  obtain ⟨ys, m', _, hy, _, hyl, hf⟩ := DataW.trod_struct he h3
  match ys, hyl with
  | [y0, y1], _ =>
   have g0 := hf 0 f0 rfl
   have g1 := hf 1 f1 rfl
   rw [o0, t0, ci] at g0
   rw [o1, t1, ci] at g1
   simp only [List.getElem?_cons_zero, List.getElem?_cons_succ] at g0 g1
   obtain ⟨z0, a1, a2, _⟩ := DataW.trod_int hi g0
   obtain ⟨z1, b1, b2, _⟩ := DataW.trod_int hi g1
   rw [hy] at e3
   simp only [a2, b2, List.map_cons, List.map_nil, Option.map_some] at e3
   simp at e3
   obtain ⟨c1, c2⟩ := e3
   have hlen : ((cs.drop (j * 2)).take 2).length = 2 := by simp; omega
   generalize (cs.drop (j * 2)).take 2 = q at *
   match q, hlen with
   | [q0, q1], _ =>
    simp at a1 b1
    rw [a1, b1, c1, c2]
 have hcl : cs.length = n * 2 := by rw [hl, ct]
 clear hel h hx hl ct ht hzs hn
 subst hlz
 induction zs generalizing cs with
 | nil => simp at hcl; subst hcl; rfl
 | cons z zs ih =>
  have h0 := key 0 (by simp) z rfl
  have ih' := ih (cs := cs.drop 2) (fun j hj z hz => by
   have := key (j + 1) (by simp; omega) z (by simpa using hz)
   rw [List.drop_drop]
   rwa [show 2 + j * 2 = (j + 1) * 2 by omega]) (by simp at hcl ⊢; omega)
  rw [← List.take_append_drop 2 cs, ih']
  simp only [Nat.zero_mul, List.drop_zero] at h0
  rw [h0]; rfl
theorem laid_row {W : World} {l : List (String × DataW Unit)} (h : laidMet P l W) (i : Nat) {n : String} {d : DataW Unit} {g t : Nat} (hi : l[i]? = some (n, d)) (hg : P.globalNamed n = some g) (ht : (P.globals[g]?).map (·.type) = some t) :
  ∃ cs el fz fuel p, W.heap[g]? = some (.cells cs el fz) ∧ DataW.trod (fun _ => ()) P W 0 (fun _ => true) false fuel t cs.toList = some (d, p) := by
 obtain ⟨ps, h1, _⟩ := h
 obtain ⟨g', t', cs, el, fz, fuel, p, e1, e2, e3, e4⟩ := laid_cells h1 _ (List.mem_of_getElem? hi)
 simp only at e1 e4
 rw [hg] at e1
 obtain rfl := Option.some.inj e1
 rw [ht] at e2
 obtain rfl := Option.some.inj e2
 exact ⟨cs, el, fz, fuel, p, e3, e4⟩
theorem laid_ints {W : World} {l : List (String × DataW Unit)} (h : laidMet P l W) (i : Nat) {n : String} {g t e : Nat} {k : IntKind} {m : Nat} (zs : List Nat) (hi : l[i]? = some (n, .agg (zs.map fun z : Nat => .lit (.int k (z : Int))))) (hg : P.globalNamed n = some g) (ht : (P.globals[g]?).map (·.type) = some t)
  (hu : P.underlying t = some (.array m e)) (he : P.underlying e = some (.int k)) (ce : P.cellsOf e = 1) (ct : P.cellsOf t = m) (hm : zs.length = m) : ∃ el f2, Tr.get B.none (kOf g) (absS W).h = .row (zs.map fun n : Nat => iv k (n : Int)) m el false 0 0 f2 := by
 obtain ⟨cs, el, fz, fuel, p, h1, h2⟩ := laid_row h i hi hg ht
 exact row_ints hm h1 (arr_ints hu he ce ct h2)
theorem laid_pairs {W : World} {l : List (String × DataW Unit)} (h : laidMet P l W) (j : Nat) {n : String} {g t e i : Nat} {k : IntKind} {f0 f1 : Field} {m : Nat} (zs : List (Nat × Nat)) (hi : l[j]? = some (n, .agg (zs.map fun z : Nat × Nat => .agg [.lit (.int k (z.1 : Int)), .lit (.int k (z.2 : Int))]))) (hg : P.globalNamed n = some g) (ht : (P.globals[g]?).map (·.type) = some t)
  (hu : P.underlying t = some (.array m e)) (he : P.underlying e = some (.struct #[f0, f1])) (ce : P.cellsOf e = 2) (ct : P.cellsOf t = m * 2) (o0 : f0.offset = 0) (o1 : f1.offset = 1) (t0 : f0.type = i) (t1 : f1.type = i) (hk : P.underlying i = some (.int k)) (ci : P.cellsOf i = 1)
  {z : List Nat} (hz : (zs.flatMap fun z => [z.1, z.2]) = z) {c : Nat} (hm : z.length = c) : ∃ el f2, Tr.get B.none (kOf g) (absS W).h = .row (z.map fun n : Nat => iv k (n : Int)) c el false 0 0 f2 := by
 obtain ⟨cs, el, fz, fuel, p, h1, h2⟩ := laid_row h j hi hg ht
 subst hz
 exact row_ints hm h1 (arr_pairs hu he ce ct o0 o1 t0 t1 hk ci h2)
theorem exTest : trueB pc0 1500 6 (Go.Ev.start 6) = true := by kernel_rfl
theorem Example_ok : Holds Tryz.prog K 6 := by
 rintro a s rfl
 obtain ⟨s1, h⟩ := trueB_callX pcOk0.1 (by rw [pcOk0.2]; intro h hx; cases hx) exTest
 exact ⟨_, _, CallX.closed (G := 6) (by kernel_rfl) (by kernel_rfl) h s, rfl, rfl⟩
end Go.Proofs.YtdeffnjoddncnaaGreatDoor.oev
