/- What the evaluator makes of the functions that the statements reach: one equation for each run of operations, by the kernel. No statement of the seat stands here. No condition. By an AI agent. -/
import Derived.Test.YtmplkbipoacmmaaGreatDoorOvV
import Derived.Test.YtmplkbipoacmmaaGreatDoorProg
import Derived.KernelRfl
namespace Go.Proofs.YtmplkbipoacmmaaGreatDoor.oev
open Go.Ev Go.Proofs
set_option maxRecDepth 100000
/- abugida/abugidalaw40.TranslitApply: parameters 2, slots in the frame: [(0, 0), (1, 1), (2, 2), (3, 3), (4, 4), (5, 5), (6, 6), (7, 7), (8, 8), (9, 14)] -/
def fiLApply : FI := ⟨1099511610880, 40, 4⟩
noncomputable def bodyLApply : Code := bodyOf Tryz.prog 4
noncomputable def uLApply_1 : Code := subC [0] bodyLApply
noncomputable def cLApply_1 : CoC := comp pc0 fiLApply uLApply_1
noncomputable def qLApply_1_0 : LoC → LoC := qOf pc0 fiLApply uLApply_1 0 1 []
noncomputable def uLApply_4 : Code := subC [1, 0, 0] bodyLApply
noncomputable def cLApply_4 : CoC := comp pc0 fiLApply uLApply_4
noncomputable def qLApply_4_5 : LoC → LoC := qOf pc0 fiLApply uLApply_4 5 1 [14, 13, 12, 11, 10]
noncomputable def qLApply_4_3 : LoC → LoC := qOf pc0 fiLApply uLApply_4 3 2 [12, 11, 10]
noncomputable def qLApply_4_0 : LoC → LoC := qOf pc0 fiLApply uLApply_4 0 3 []
noncomputable def uLApply_7 : Code := subC [1, 0, 1, 0, 0] bodyLApply
noncomputable def cLApply_7 : CoC := comp pc0 fiLApply uLApply_7
noncomputable def qLApply_7_0 : LoC → LoC := qOf pc0 fiLApply uLApply_7 0 2 []
noncomputable def uLApply_11 : Code := subC [1, 1, 0] bodyLApply
noncomputable def cLApply_11 : CoC := comp pc0 fiLApply uLApply_11
noncomputable def qLApply_11_0 : LoC → LoC := qOf pc0 fiLApply uLApply_11 0 8 []
noncomputable def uLApply_13 : Code := subC [1, 1, 1, 0] bodyLApply
noncomputable def cLApply_13 : CoC := comp pc0 fiLApply uLApply_13
noncomputable def qLApply_13_0 : LoC → LoC := qOf pc0 fiLApply uLApply_13 0 8 []
noncomputable def uLApply_15 : Code := subC [1, 1, 1, 1, 0] bodyLApply
noncomputable def cLApply_15 : CoC := comp pc0 fiLApply uLApply_15
noncomputable def qLApply_15_11 : LoC → LoC := qOf pc0 fiLApply uLApply_15 11 2 [39, 38, 37, 36, 35, 34, 33, 32, 31, 30, 29]
noncomputable def qLApply_15_10 : LoC → LoC := qOf pc0 fiLApply uLApply_15 10 1 [38, 37, 36, 35, 34, 33, 32, 31, 30, 29]
noncomputable def qLApply_15_8 : LoC → LoC := qOf pc0 fiLApply uLApply_15 8 2 [36, 35, 34, 33, 32, 31, 30, 29]
noncomputable def qLApply_15_4 : LoC → LoC := qOf pc0 fiLApply uLApply_15 4 4 [32, 31, 30, 29]
noncomputable def qLApply_15_0 : LoC → LoC := qOf pc0 fiLApply uLApply_15 0 4 []
noncomputable def cLApply_0 : CoC := comp pc0 fiLApply bodyLApply
noncomputable def finLApply : T → S → A := finN (resC pc0 fiLApply (resOf Tryz.prog 4)).run
theorem allLApplyx :
  (((((regPlain uLApply_1 = true ∧
  (((regOps uLApply_1).drop 1).isEmpty = true ∧
  pushes (((regOps uLApply_1).drop 0).take 1) [] = [5])) ∧
  (regPlain uLApply_4 = true ∧
  (((regOps uLApply_4).drop 6).isEmpty = true ∧
  pushes (((regOps uLApply_4).drop 5).take 1) [14, 13, 12, 11, 10] = [15, 14, 13, 12, 11, 10]))) ∧
  ((pushes (((regOps uLApply_4).drop 3).take 2) [12, 11, 10] = [14, 13, 12, 11, 10] ∧
  (pushes (((regOps uLApply_4).drop 0).take 3) [] = [12, 11, 10] ∧
  regPlain uLApply_7 = true)) ∧
  (((regOps uLApply_7).drop 2).isEmpty = true ∧
  (pushes (((regOps uLApply_7).drop 0).take 2) [] = [5, 16] ∧
  regPlain uLApply_11 = true)))) ∧
  (((((regOps uLApply_11).drop 8).isEmpty = true ∧
  (pushes (((regOps uLApply_11).drop 0).take 8) [] = [7, 6, 22, 21, 17, 20, 19, 18] ∧
  regPlain uLApply_13 = true)) ∧
  (((regOps uLApply_13).drop 8).isEmpty = true ∧
  (pushes (((regOps uLApply_13).drop 0).take 8) [] = [9, 8, 28, 27, 23, 26, 25, 24] ∧
  regPlain uLApply_15 = true))) ∧
  ((((regOps uLApply_15).drop 13).isEmpty = true ∧
  (pushes (((regOps uLApply_15).drop 11).take 2) [39, 38, 37, 36, 35, 34, 33, 32, 31, 30, 29] = [5, 40, 39, 38, 37, 36, 35, 34, 33, 32, 31, 30, 29] ∧
  pushes (((regOps uLApply_15).drop 10).take 1) [38, 37, 36, 35, 34, 33, 32, 31, 30, 29] = [39, 38, 37, 36, 35, 34, 33, 32, 31, 30, 29])) ∧
  (pushes (((regOps uLApply_15).drop 8).take 2) [36, 35, 34, 33, 32, 31, 30, 29] = [38, 37, 36, 35, 34, 33, 32, 31, 30, 29] ∧
  (pushes (((regOps uLApply_15).drop 4).take 4) [32, 31, 30, 29] = [36, 35, 34, 33, 32, 31, 30, 29] ∧
  pushes (((regOps uLApply_15).drop 0).take 4) [] = [32, 31, 30, 29])))))) ∧ (True) ∧ (True) ∧ ((((((∀ (r : R) (s : S) (x0 x1 : V), (fnC pc0 4).run r [x0, x1] s = outF (bindR (fun tm s => finLApply tm s) (cLApply_0.run r (sp 1 x1 (sp 0 x0 T.new)) s))) ∧
  (∀ (s : S) (tm : T), finLApply tm s = finV (gp 240 tm) (resV [(gp 4 tm)] s))) ∧
  ((∀ (r : R) (s : S) (tm : T), cLApply_0.run r tm s = seqA (fun tm s => seqA (fun tm s => seqA (fun tm s => seqA (fun tm s => seqA (fun tm s => .ret tm s) (cLApply_15.run r tm s)) (cLApply_13.run r tm s)) (cLApply_11.run r tm s)) (seqA (fun tm s => condV (gp 9 tm) (seqA (fun tm s => .ret tm s) (cLApply_7.run r tm s)) (.nrm tm s)) (cLApply_4.run r tm s))) (cLApply_1.run r tm s)) ∧
  (∀ (g : LoC) (r : R) (s : S) (tm : T) (le : List V), (qLApply_1_0 g).run r tm (le) s = g.run r (sp 4 (V.bool false) tm) ((V.bool false) :: le) s))) ∧
  (((∀ (g : LoC) (r : R) (s : S) (tm : T) (le : List V), (qLApply_4_0 g).run r tm (le) s = foldF (r.call 8 [(gp 0 tm)] s) fun v1 s => g.run r tm (v1 :: v1 :: (gp 0 tm) :: le) s) ∧
  (∀ (g : LoC) (r : R) (s : S) (tm : T) (le : List V), (qLApply_4_3 g).run r tm ((.bool true) :: le) s = g.run r tm (Go.Ev.undef :: Go.Ev.undef :: (.bool true) :: le) s)) ∧
  ((∀ (g : LoC) (r : R) (s : S) (tm : T) (le : List V), (qLApply_4_3 g).run r tm ((.bool false) :: le) s = foldF (r.call 12 [(gp 1 tm)] s) fun v4 s => g.run r tm (v4 :: (gp 1 tm) :: (.bool false) :: le) s) ∧
  ((∀ (g : LoC) (r : R) (s : S) (tm : T) (le : List V) (x0_ x1_ x2_ : V), (qLApply_4_5 g).run r tm (x0_ :: x1_ :: x2_ :: le) s = xPick x2_ (fun _ => g.run r (sp 9 (V.bool true) tm) ((V.bool true) :: x0_ :: x1_ :: x2_ :: le) s) (fun _ => g.run r (sp 9 x0_ tm) (x0_ :: x0_ :: x1_ :: x2_ :: le) s)) ∧
  (∀ (g : LoC) (r : R) (s : S) (tm : T) (le : List V), (qLApply_7_0 g).run r tm (le) s = foldF (r.call 9 [] s) fun v0 s => g.run r (sp 4 v0 tm) (v0 :: v0 :: le) s))))) ∧
  ((((∀ (g : LoC) (r : R) (s : S) (tm : T) (le : List V), (qLApply_11_0 g).run r tm (le) s = foldF (r.call 13 [(gp 0 tm), (gp 1 tm)] s) fun v2 s => xExtract 0 v2 fun v4 => xExtract 1 v2 fun v5 => g.run r (sp 6 v5 (sp 5 v4 tm)) (v5 :: v4 :: v5 :: v4 :: v2 :: v2 :: (gp 1 tm) :: (gp 0 tm) :: le) s) ∧
  (∀ (g : LoC) (r : R) (s : S) (tm : T) (le : List V), (qLApply_13_0 g).run r tm (le) s = foldF (r.call 14 [(gp 0 tm), (gp 1 tm)] s) fun v2 s => xExtract 0 v2 fun v4 => xExtract 1 v2 fun v5 => g.run r (sp 8 v5 (sp 7 v4 tm)) (v5 :: v4 :: v5 :: v4 :: v2 :: v2 :: (gp 1 tm) :: (gp 0 tm) :: le) s)) ∧
  ((∀ (g : LoC) (r : R) (s : S) (tm : T) (le : List V), (qLApply_15_0 g).run r tm (le) s = xBin ⟨7, []⟩ false .eql (gp 6 tm) (gp 8 tm) fun v2 => g.run r tm (v2 :: v2 :: (gp 8 tm) :: (gp 6 tm) :: le) s) ∧
  (∀ (g : LoC) (r : R) (s : S) (tm : T) (le : List V), (qLApply_15_4 g).run r tm ((.bool true) :: le) s = foldF (r.call 15 [(gp 5 tm), (gp 7 tm)] s) fun v6 s => xBin ⟨7, []⟩ true .eql v6 (V.nat .i64 0) fun v7 => g.run r tm (v7 :: v6 :: (gp 7 tm) :: (gp 5 tm) :: (.bool true) :: le) s))) ∧
  (((∀ (g : LoC) (r : R) (s : S) (tm : T) (le : List V), (qLApply_15_4 g).run r tm ((.bool false) :: le) s = g.run r tm (Go.Ev.undef :: Go.Ev.undef :: Go.Ev.undef :: Go.Ev.undef :: (.bool false) :: le) s) ∧
  (∀ (g : LoC) (r : R) (s : S) (tm : T) (le : List V) (x0_ x1_ x2_ x3_ x4_ : V), (qLApply_15_8 g).run r tm (x0_ :: x1_ :: x2_ :: x3_ :: x4_ :: le) s = xPick x4_ (fun _ => g.run r tm (x0_ :: x0_ :: x0_ :: x1_ :: x2_ :: x3_ :: x4_ :: le) s) (fun _ => g.run r tm ((V.bool false) :: (V.bool false) :: x0_ :: x1_ :: x2_ :: x3_ :: x4_ :: le) s))) ∧
  ((∀ (g : LoC) (r : R) (s : S) (tm : T) (le : List V), (qLApply_15_10 g).run r tm ((.bool true) :: le) s = foldF (r.call 9 [] s) fun v10 s => g.run r tm (v10 :: (.bool true) :: le) s) ∧
  ((∀ (g : LoC) (r : R) (s : S) (tm : T) (le : List V), (qLApply_15_10 g).run r tm ((.bool false) :: le) s = g.run r tm (Go.Ev.undef :: (.bool false) :: le) s) ∧
  (∀ (g : LoC) (r : R) (s : S) (tm : T) (le : List V) (x0_ x1_ : V), (qLApply_15_11 g).run r tm (x0_ :: x1_ :: le) s = xPick x1_ (fun _ => g.run r (sp 4 x0_ tm) (x0_ :: x0_ :: x0_ :: x1_ :: le) s) (fun _ => g.run r (sp 4 (V.bool false) tm) ((V.bool false) :: (V.bool false) :: x0_ :: x1_ :: le) s)))))))) := by
  and_intros <;> first | trivial | (intros; kernel_rfl)
theorem chLApply_1_1 : Ch pc0 fiLApply uLApply_1 1 [5] nilL := chE allLApplyx.1.1.1.1.2.1
theorem chLApply_1_0 : Ch pc0 fiLApply uLApply_1 0 [] (qLApply_1_0 nilL) := chS rfl allLApplyx.1.1.1.1.2.2 chLApply_1_1
theorem rgLApply_1 (r : R) (s : S) (tm : T) : cLApply_1.run r tm s = (qLApply_1_0 nilL).run r tm [] s := reg_run allLApplyx.1.1.1.1.1 chLApply_1_0 r s tm
theorem chLApply_4_6 : Ch pc0 fiLApply uLApply_4 6 [15, 14, 13, 12, 11, 10] nilL := chE allLApplyx.1.1.1.2.2.1
theorem chLApply_4_5 : Ch pc0 fiLApply uLApply_4 5 [14, 13, 12, 11, 10] (qLApply_4_5 nilL) := chS rfl allLApplyx.1.1.1.2.2.2 chLApply_4_6
theorem chLApply_4_3 : Ch pc0 fiLApply uLApply_4 3 [12, 11, 10] (qLApply_4_3 (qLApply_4_5 nilL)) := chS rfl allLApplyx.1.1.2.1.1 chLApply_4_5
theorem chLApply_4_0 : Ch pc0 fiLApply uLApply_4 0 [] (qLApply_4_0 (qLApply_4_3 (qLApply_4_5 nilL))) := chS rfl allLApplyx.1.1.2.1.2.1 chLApply_4_3
theorem rgLApply_4 (r : R) (s : S) (tm : T) : cLApply_4.run r tm s = (qLApply_4_0 (qLApply_4_3 (qLApply_4_5 nilL))).run r tm [] s := reg_run allLApplyx.1.1.1.2.1 chLApply_4_0 r s tm
theorem chLApply_7_2 : Ch pc0 fiLApply uLApply_7 2 [5, 16] nilL := chE allLApplyx.1.1.2.2.1
theorem chLApply_7_0 : Ch pc0 fiLApply uLApply_7 0 [] (qLApply_7_0 nilL) := chS rfl allLApplyx.1.1.2.2.2.1 chLApply_7_2
theorem rgLApply_7 (r : R) (s : S) (tm : T) : cLApply_7.run r tm s = (qLApply_7_0 nilL).run r tm [] s := reg_run allLApplyx.1.1.2.1.2.2 chLApply_7_0 r s tm
theorem chLApply_11_8 : Ch pc0 fiLApply uLApply_11 8 [7, 6, 22, 21, 17, 20, 19, 18] nilL := chE allLApplyx.1.2.1.1.1
theorem chLApply_11_0 : Ch pc0 fiLApply uLApply_11 0 [] (qLApply_11_0 nilL) := chS rfl allLApplyx.1.2.1.1.2.1 chLApply_11_8
theorem rgLApply_11 (r : R) (s : S) (tm : T) : cLApply_11.run r tm s = (qLApply_11_0 nilL).run r tm [] s := reg_run allLApplyx.1.1.2.2.2.2 chLApply_11_0 r s tm
theorem chLApply_13_8 : Ch pc0 fiLApply uLApply_13 8 [9, 8, 28, 27, 23, 26, 25, 24] nilL := chE allLApplyx.1.2.1.2.1
theorem chLApply_13_0 : Ch pc0 fiLApply uLApply_13 0 [] (qLApply_13_0 nilL) := chS rfl allLApplyx.1.2.1.2.2.1 chLApply_13_8
theorem rgLApply_13 (r : R) (s : S) (tm : T) : cLApply_13.run r tm s = (qLApply_13_0 nilL).run r tm [] s := reg_run allLApplyx.1.2.1.1.2.2 chLApply_13_0 r s tm
theorem chLApply_15_13 : Ch pc0 fiLApply uLApply_15 13 [5, 40, 39, 38, 37, 36, 35, 34, 33, 32, 31, 30, 29] nilL := chE allLApplyx.1.2.2.1.1
theorem chLApply_15_11 : Ch pc0 fiLApply uLApply_15 11 [39, 38, 37, 36, 35, 34, 33, 32, 31, 30, 29] (qLApply_15_11 nilL) := chS rfl allLApplyx.1.2.2.1.2.1 chLApply_15_13
theorem chLApply_15_10 : Ch pc0 fiLApply uLApply_15 10 [38, 37, 36, 35, 34, 33, 32, 31, 30, 29] (qLApply_15_10 (qLApply_15_11 nilL)) := chS rfl allLApplyx.1.2.2.1.2.2 chLApply_15_11
theorem chLApply_15_8 : Ch pc0 fiLApply uLApply_15 8 [36, 35, 34, 33, 32, 31, 30, 29] (qLApply_15_8 (qLApply_15_10 (qLApply_15_11 nilL))) := chS rfl allLApplyx.1.2.2.2.1 chLApply_15_10
theorem chLApply_15_4 : Ch pc0 fiLApply uLApply_15 4 [32, 31, 30, 29] (qLApply_15_4 (qLApply_15_8 (qLApply_15_10 (qLApply_15_11 nilL)))) := chS rfl allLApplyx.1.2.2.2.2.1 chLApply_15_8
theorem chLApply_15_0 : Ch pc0 fiLApply uLApply_15 0 [] (qLApply_15_0 (qLApply_15_4 (qLApply_15_8 (qLApply_15_10 (qLApply_15_11 nilL))))) := chS rfl allLApplyx.1.2.2.2.2.2 chLApply_15_4
theorem rgLApply_15 (r : R) (s : S) (tm : T) : cLApply_15.run r tm s = (qLApply_15_0 (qLApply_15_4 (qLApply_15_8 (qLApply_15_10 (qLApply_15_11 nilL))))).run r tm [] s := reg_run allLApplyx.1.2.1.2.2.2 chLApply_15_0 r s tm
theorem allLApply : type_of% (And.intro rgLApply_1 (And.intro rgLApply_4 (And.intro rgLApply_7 (And.intro rgLApply_11 (And.intro rgLApply_13 (And.intro rgLApply_15 allLApplyx.2.2.2)))))) := (And.intro rgLApply_1 (And.intro rgLApply_4 (And.intro rgLApply_7 (And.intro rgLApply_11 (And.intro rgLApply_13 (And.intro rgLApply_15 allLApplyx.2.2.2))))))
/- abugida/abugidalaw40.TranslitCopies: parameters 2, slots in the frame: [(0, 0), (1, 1), (2, 2), (3, 3), (4, 4), (5, 5), (6, 6), (7, 7), (8, 8), (9, 19), (10, 24), (11, 30), (12, 41), (13, 51)] -/
def fiLCopies : FI := ⟨9444730711739362442752, 73, 4⟩
noncomputable def bodyLCopies : Code := bodyOf Tryz.prog 5
noncomputable def uLCopies_1 : Code := subC [0] bodyLCopies
noncomputable def cLCopies_1 : CoC := comp pc0 fiLCopies uLCopies_1
noncomputable def qLCopies_1_0 : LoC → LoC := qOf pc0 fiLCopies uLCopies_1 0 1 []
noncomputable def uLCopies_4 : Code := subC [1, 0, 0] bodyLCopies
noncomputable def cLCopies_4 : CoC := comp pc0 fiLCopies uLCopies_4
noncomputable def qLCopies_4_10 : LoC → LoC := qOf pc0 fiLCopies uLCopies_4 10 1 [19, 18, 17, 16, 15, 14, 13, 12, 11, 10]
noncomputable def qLCopies_4_7 : LoC → LoC := qOf pc0 fiLCopies uLCopies_4 7 3 [16, 15, 14, 13, 12, 11, 10]
noncomputable def qLCopies_4_5 : LoC → LoC := qOf pc0 fiLCopies uLCopies_4 5 2 [14, 13, 12, 11, 10]
noncomputable def qLCopies_4_3 : LoC → LoC := qOf pc0 fiLCopies uLCopies_4 3 2 [12, 11, 10]
noncomputable def qLCopies_4_0 : LoC → LoC := qOf pc0 fiLCopies uLCopies_4 0 3 []
noncomputable def uLCopies_7 : Code := subC [1, 0, 1, 0, 0] bodyLCopies
noncomputable def cLCopies_7 : CoC := comp pc0 fiLCopies uLCopies_7
noncomputable def qLCopies_7_0 : LoC → LoC := qOf pc0 fiLCopies uLCopies_7 0 2 []
noncomputable def uLCopies_12 : Code := subC [1, 1, 0, 0] bodyLCopies
noncomputable def cLCopies_12 : CoC := comp pc0 fiLCopies uLCopies_12
noncomputable def qLCopies_12_0 : LoC → LoC := qOf pc0 fiLCopies uLCopies_12 0 1 []
noncomputable def uLCopies_17 : Code := subC [1, 1, 0, 1, 0, 0, 0, 0] bodyLCopies
noncomputable def cLCopies_17 : CoC := comp pc0 fiLCopies uLCopies_17
noncomputable def qLCopies_17_0 : LoC → LoC := qOf pc0 fiLCopies uLCopies_17 0 4 []
noncomputable def uLCopies_24 : Code := subC [1, 1, 0, 1, 0, 0, 1, 0, 0, 0] bodyLCopies
noncomputable def cLCopies_24 : CoC := comp pc0 fiLCopies uLCopies_24
noncomputable def qLCopies_24_0 : LoC → LoC := qOf pc0 fiLCopies uLCopies_24 0 1 []
noncomputable def uLCopies_29 : Code := subC [1, 1, 0, 1, 0, 0, 1, 0, 0, 1, 0, 0, 0, 0] bodyLCopies
noncomputable def cLCopies_29 : CoC := comp pc0 fiLCopies uLCopies_29
noncomputable def qLCopies_29_0 : LoC → LoC := qOf pc0 fiLCopies uLCopies_29 0 4 []
noncomputable def uLCopies_36 : Code := subC [1, 1, 0, 1, 0, 0, 1, 0, 0, 1, 0, 0, 1, 0, 0, 0] bodyLCopies
noncomputable def cLCopies_36 : CoC := comp pc0 fiLCopies uLCopies_36
noncomputable def qLCopies_36_0 : LoC → LoC := dqOf pc0 fiLCopies uLCopies_36 0 9 []
noncomputable def uLCopies_39 : Code := subC [1, 1, 0, 1, 0, 0, 1, 0, 0, 1, 0, 0, 1, 0, 0, 1, 0, 0] bodyLCopies
noncomputable def cLCopies_39 : CoC := comp pc0 fiLCopies uLCopies_39
noncomputable def qLCopies_39_0 : LoC → LoC := qOf pc0 fiLCopies uLCopies_39 0 2 []
noncomputable def uLCopies_42 : Code := subC [1, 1, 0, 1, 0, 0, 1, 0, 0, 1, 0, 0, 1, 1] bodyLCopies
noncomputable def cLCopies_42 : CoC := comp pc0 fiLCopies uLCopies_42
noncomputable def qLCopies_42_0 : LoC → LoC := qOf pc0 fiLCopies uLCopies_42 0 3 []
noncomputable def uLCopies_26 : Code := subC [1, 1, 0, 1, 0, 0, 1, 0, 0, 1, 0] bodyLCopies
noncomputable def cLCopies_26 : CoC := comp pc0 fiLCopies uLCopies_26
noncomputable def uLCopies_43 : Code := subC [1, 1, 0, 1, 0, 0, 1, 1] bodyLCopies
noncomputable def cLCopies_43 : CoC := comp pc0 fiLCopies uLCopies_43
noncomputable def qLCopies_43_0 : LoC → LoC := qOf pc0 fiLCopies uLCopies_43 0 3 []
noncomputable def uLCopies_14 : Code := subC [1, 1, 0, 1, 0] bodyLCopies
noncomputable def cLCopies_14 : CoC := comp pc0 fiLCopies uLCopies_14
noncomputable def uLCopies_45 : Code := subC [1, 1, 1, 0] bodyLCopies
noncomputable def cLCopies_45 : CoC := comp pc0 fiLCopies uLCopies_45
noncomputable def qLCopies_45_0 : LoC → LoC := qOf pc0 fiLCopies uLCopies_45 0 8 []
noncomputable def uLCopies_48 : Code := subC [1, 1, 1, 1, 0, 0] bodyLCopies
noncomputable def cLCopies_48 : CoC := comp pc0 fiLCopies uLCopies_48
noncomputable def qLCopies_48_0 : LoC → LoC := qOf pc0 fiLCopies uLCopies_48 0 3 []
noncomputable def uLCopies_51 : Code := subC [1, 1, 1, 1, 0, 1, 0, 0] bodyLCopies
noncomputable def cLCopies_51 : CoC := comp pc0 fiLCopies uLCopies_51
noncomputable def qLCopies_51_9 : LoC → LoC := qOf pc0 fiLCopies uLCopies_51 9 2 [61, 60, 59, 58, 57, 56, 55, 54, 53]
noncomputable def qLCopies_51_8 : LoC → LoC := qOf pc0 fiLCopies uLCopies_51 8 1 [60, 59, 58, 57, 56, 55, 54, 53]
noncomputable def qLCopies_51_6 : LoC → LoC := qOf pc0 fiLCopies uLCopies_51 6 2 [58, 57, 56, 55, 54, 53]
noncomputable def qLCopies_51_3 : LoC → LoC := qOf pc0 fiLCopies uLCopies_51 3 3 [55, 54, 53]
noncomputable def qLCopies_51_0 : LoC → LoC := qOf pc0 fiLCopies uLCopies_51 0 3 []
noncomputable def uLCopies_55 : Code := subC [1, 1, 1, 1, 1, 0] bodyLCopies
noncomputable def cLCopies_55 : CoC := comp pc0 fiLCopies uLCopies_55
noncomputable def qLCopies_55_10 : LoC → LoC := qOf pc0 fiLCopies uLCopies_55 10 2 [72, 71, 70, 69, 68, 67, 66, 65, 64, 63]
noncomputable def qLCopies_55_9 : LoC → LoC := qOf pc0 fiLCopies uLCopies_55 9 1 [71, 70, 69, 68, 67, 66, 65, 64, 63]
noncomputable def qLCopies_55_7 : LoC → LoC := qOf pc0 fiLCopies uLCopies_55 7 2 [69, 68, 67, 66, 65, 64, 63]
noncomputable def qLCopies_55_3 : LoC → LoC := qOf pc0 fiLCopies uLCopies_55 3 4 [65, 64, 63]
noncomputable def qLCopies_55_0 : LoC → LoC := qOf pc0 fiLCopies uLCopies_55 0 3 []
noncomputable def cLCopies_0 : CoC := comp pc0 fiLCopies bodyLCopies
noncomputable def finLCopies : T → S → A := finN (resC pc0 fiLCopies (resOf Tryz.prog 5)).run
theorem allLCopiesx :
  ((((((regPlain uLCopies_1 = true ∧
  (((regOps uLCopies_1).drop 1).isEmpty = true ∧
  pushes (((regOps uLCopies_1).drop 0).take 1) [] = [5])) ∧
  ((regPlain uLCopies_4 = true ∧
  ((regOps uLCopies_4).drop 11).isEmpty = true) ∧
  (pushes (((regOps uLCopies_4).drop 10).take 1) [19, 18, 17, 16, 15, 14, 13, 12, 11, 10] = [20, 19, 18, 17, 16, 15, 14, 13, 12, 11, 10] ∧
  pushes (((regOps uLCopies_4).drop 7).take 3) [16, 15, 14, 13, 12, 11, 10] = [19, 18, 17, 16, 15, 14, 13, 12, 11, 10]))) ∧
  ((pushes (((regOps uLCopies_4).drop 5).take 2) [14, 13, 12, 11, 10] = [16, 15, 14, 13, 12, 11, 10] ∧
  (pushes (((regOps uLCopies_4).drop 3).take 2) [12, 11, 10] = [14, 13, 12, 11, 10] ∧
  pushes (((regOps uLCopies_4).drop 0).take 3) [] = [12, 11, 10])) ∧
  ((regPlain uLCopies_7 = true ∧
  ((regOps uLCopies_7).drop 2).isEmpty = true) ∧
  (pushes (((regOps uLCopies_7).drop 0).take 2) [] = [5, 21] ∧
  regPlain uLCopies_12 = true)))) ∧
  (((((regOps uLCopies_12).drop 1).isEmpty = true ∧
  (pushes (((regOps uLCopies_12).drop 0).take 1) [] = [6] ∧
  regPlain uLCopies_17 = true)) ∧
  ((((regOps uLCopies_17).drop 4).isEmpty = true ∧
  pushes (((regOps uLCopies_17).drop 0).take 4) [] = [25, 24, 23, 22]) ∧
  (regPlain uLCopies_24 = true ∧
  ((regOps uLCopies_24).drop 1).isEmpty = true))) ∧
  ((pushes (((regOps uLCopies_24).drop 0).take 1) [] = [7] ∧
  (regPlain uLCopies_29 = true ∧
  ((regOps uLCopies_29).drop 4).isEmpty = true)) ∧
  ((pushes (((regOps uLCopies_29).drop 0).take 4) [] = [31, 30, 29, 28] ∧
  regDraw pc0.mixed uLCopies_36 = true) ∧
  (((drawSteps (regOps uLCopies_36)).drop 9).isEmpty = true ∧
  dpushes (regOps uLCopies_36) (((drawSteps (regOps uLCopies_36)).drop 0).take 9) [] = [42, 41, 40, 39, 38, 37, 36, 35, 34]))))) ∧
  ((((regPlain uLCopies_39 = true ∧
  (((regOps uLCopies_39).drop 2).isEmpty = true ∧
  pushes (((regOps uLCopies_39).drop 0).take 2) [] = [5, 43])) ∧
  ((regPlain uLCopies_42 = true ∧
  ((regOps uLCopies_42).drop 3).isEmpty = true) ∧
  (pushes (((regOps uLCopies_42).drop 0).take 3) [] = [7, 33, 32] ∧
  regPlain uLCopies_43 = true))) ∧
  ((((regOps uLCopies_43).drop 3).isEmpty = true ∧
  (pushes (((regOps uLCopies_43).drop 0).take 3) [] = [6, 27, 26] ∧
  regPlain uLCopies_45 = true)) ∧
  ((((regOps uLCopies_45).drop 8).isEmpty = true ∧
  pushes (((regOps uLCopies_45).drop 0).take 8) [] = [9, 8, 49, 48, 44, 47, 46, 45]) ∧
  (regPlain uLCopies_48 = true ∧
  ((regOps uLCopies_48).drop 3).isEmpty = true)))) ∧
  (((pushes (((regOps uLCopies_48).drop 0).take 3) [] = [52, 51, 50] ∧
  (regPlain uLCopies_51 = true ∧
  ((regOps uLCopies_51).drop 11).isEmpty = true)) ∧
  ((pushes (((regOps uLCopies_51).drop 9).take 2) [61, 60, 59, 58, 57, 56, 55, 54, 53] = [5, 62, 61, 60, 59, 58, 57, 56, 55, 54, 53] ∧
  pushes (((regOps uLCopies_51).drop 8).take 1) [60, 59, 58, 57, 56, 55, 54, 53] = [61, 60, 59, 58, 57, 56, 55, 54, 53]) ∧
  (pushes (((regOps uLCopies_51).drop 6).take 2) [58, 57, 56, 55, 54, 53] = [60, 59, 58, 57, 56, 55, 54, 53] ∧
  pushes (((regOps uLCopies_51).drop 3).take 3) [55, 54, 53] = [58, 57, 56, 55, 54, 53]))) ∧
  (((pushes (((regOps uLCopies_51).drop 0).take 3) [] = [55, 54, 53] ∧
  regPlain uLCopies_55 = true) ∧
  (((regOps uLCopies_55).drop 12).isEmpty = true ∧
  pushes (((regOps uLCopies_55).drop 10).take 2) [72, 71, 70, 69, 68, 67, 66, 65, 64, 63] = [5, 73, 72, 71, 70, 69, 68, 67, 66, 65, 64, 63])) ∧
  ((pushes (((regOps uLCopies_55).drop 9).take 1) [71, 70, 69, 68, 67, 66, 65, 64, 63] = [72, 71, 70, 69, 68, 67, 66, 65, 64, 63] ∧
  pushes (((regOps uLCopies_55).drop 7).take 2) [69, 68, 67, 66, 65, 64, 63] = [71, 70, 69, 68, 67, 66, 65, 64, 63]) ∧
  (pushes (((regOps uLCopies_55).drop 3).take 4) [65, 64, 63] = [69, 68, 67, 66, 65, 64, 63] ∧
  pushes (((regOps uLCopies_55).drop 0).take 3) [] = [65, 64, 63]))))))) ∧ ((sizeC uLCopies_26 = 35 ∧
  sizeC uLCopies_14 = 56)) ∧ (((∀ (r : R) (s : S) (tm : T), cLCopies_26.run r tm s = seqA (fun tm s => r.code fiLCopies uLCopies_26 tm s) (seqA (fun tm s => seqA (fun tm s => cLCopies_42.run r tm s) (blockA 3 (seqA (fun tm s => condV (gp 12 tm) (seqA (fun tm s => .ret tm s) (cLCopies_39.run r tm s)) (.nrm tm s)) (cLCopies_36.run r tm s)))) (seqA (fun tm s => condV (gp 11 tm) (.nrm tm s) (.ext 2 tm s)) (cLCopies_29.run r tm s)))) ∧
  (∀ (r : R) (s : S) (tm : T), cLCopies_14.run r tm s = seqA (fun tm s => r.code fiLCopies uLCopies_14 tm s) (seqA (fun tm s => seqA (fun tm s => cLCopies_43.run r tm s) (blockA 1 (seqA (fun tm s => blockA 2 (cLCopies_26.run r tm s)) (cLCopies_24.run r tm s)))) (seqA (fun tm s => condV (gp 10 tm) (.nrm tm s) (.ext 0 tm s)) (cLCopies_17.run r tm s)))))) ∧ (((((((∀ (r : R) (s : S) (x0 x1 : V), (fnC pc0 5).run r [x0, x1] s = outF (bindR (fun tm s => finLCopies tm s) (cLCopies_0.run r (sp 1 x1 (sp 0 x0 T.new)) s))) ∧
  (∀ (s : S) (tm : T), finLCopies tm s = finV (gp 240 tm) (resV [(gp 4 tm)] s))) ∧
  ((∀ (r : R) (s : S) (tm : T), cLCopies_0.run r tm s = seqA (fun tm s => seqA (fun tm s => seqA (fun tm s => seqA (fun tm s => seqA (fun tm s => seqA (fun tm s => .ret tm s) (cLCopies_55.run r tm s)) (seqA (fun tm s => condV (gp 13 tm) (seqA (fun tm s => .ret tm s) (cLCopies_51.run r tm s)) (.nrm tm s)) (cLCopies_48.run r tm s))) (cLCopies_45.run r tm s)) (seqA (fun tm s => blockA 0 (cLCopies_14.run r tm s)) (cLCopies_12.run r tm s))) (seqA (fun tm s => condV (gp 9 tm) (seqA (fun tm s => .ret tm s) (cLCopies_7.run r tm s)) (.nrm tm s)) (cLCopies_4.run r tm s))) (cLCopies_1.run r tm s)) ∧
  (∀ (g : LoC) (r : R) (s : S) (tm : T) (le : List V), (qLCopies_1_0 g).run r tm (le) s = g.run r (sp 4 (V.bool false) tm) ((V.bool false) :: le) s))) ∧
  (((∀ (g : LoC) (r : R) (s : S) (tm : T) (le : List V), (qLCopies_4_0 g).run r tm (le) s = foldF (r.call 8 [(gp 0 tm)] s) fun v1 s => g.run r tm (v1 :: v1 :: (gp 0 tm) :: le) s) ∧
  (∀ (g : LoC) (r : R) (s : S) (tm : T) (le : List V), (qLCopies_4_3 g).run r tm ((.bool true) :: le) s = g.run r tm (Go.Ev.undef :: Go.Ev.undef :: (.bool true) :: le) s)) ∧
  ((∀ (g : LoC) (r : R) (s : S) (tm : T) (le : List V), (qLCopies_4_3 g).run r tm ((.bool false) :: le) s = foldF (r.call 12 [(gp 1 tm)] s) fun v4 s => g.run r tm (v4 :: (gp 1 tm) :: (.bool false) :: le) s) ∧
  ((∀ (g : LoC) (r : R) (s : S) (tm : T) (le : List V) (x0_ x1_ x2_ : V), (qLCopies_4_5 g).run r tm (x0_ :: x1_ :: x2_ :: le) s = xPick x2_ (fun _ => g.run r tm ((V.bool true) :: (V.bool true) :: x0_ :: x1_ :: x2_ :: le) s) (fun _ => g.run r tm (x0_ :: x0_ :: x0_ :: x1_ :: x2_ :: le) s)) ∧
  (∀ (g : LoC) (r : R) (s : S) (tm : T) (le : List V), (qLCopies_4_7 g).run r tm ((.bool true) :: le) s = g.run r tm (Go.Ev.undef :: Go.Ev.undef :: Go.Ev.undef :: (.bool true) :: le) s))))) ∧
  ((((∀ (g : LoC) (r : R) (s : S) (tm : T) (le : List V), (qLCopies_4_7 g).run r tm ((.bool false) :: le) s = foldF (r.call 10 [(gp 0 tm)] s) fun v8 s => xUn .not v8 fun v9 => g.run r tm (v9 :: v8 :: (gp 0 tm) :: (.bool false) :: le) s) ∧
  (∀ (g : LoC) (r : R) (s : S) (tm : T) (le : List V) (x0_ x1_ x2_ x3_ : V), (qLCopies_4_10 g).run r tm (x0_ :: x1_ :: x2_ :: x3_ :: le) s = xPick x3_ (fun _ => g.run r (sp 9 (V.bool true) tm) ((V.bool true) :: x0_ :: x1_ :: x2_ :: x3_ :: le) s) (fun _ => g.run r (sp 9 x0_ tm) (x0_ :: x0_ :: x1_ :: x2_ :: x3_ :: le) s))) ∧
  ((∀ (g : LoC) (r : R) (s : S) (tm : T) (le : List V), (qLCopies_7_0 g).run r tm (le) s = foldF (r.call 9 [] s) fun v0 s => g.run r (sp 4 v0 tm) (v0 :: v0 :: le) s) ∧
  (∀ (g : LoC) (r : R) (s : S) (tm : T) (le : List V), (qLCopies_12_0 g).run r tm (le) s = g.run r (sp 5 (V.nat .i64 0) tm) ((V.nat .i64 0) :: le) s))) ∧
  (((∀ (g : LoC) (r : R) (s : S) (tm : T) (le : List V), (qLCopies_17_0 g).run r tm (le) s = xLenS (gp 1 tm) fun v2 => xBin ⟨9, []⟩ false .lss (gp 5 tm) v2 fun v3 => g.run r (sp 10 v3 tm) (v3 :: v2 :: (gp 1 tm) :: (gp 5 tm) :: le) s) ∧
  (∀ (g : LoC) (r : R) (s : S) (tm : T) (le : List V), (qLCopies_24_0 g).run r tm (le) s = g.run r (sp 6 (V.nat .i64 0) tm) ((V.nat .i64 0) :: le) s)) ∧
  ((∀ (g : LoC) (r : R) (s : S) (tm : T) (le : List V), (qLCopies_29_0 g).run r tm (le) s = xLenS (gp 0 tm) fun v2 => xBin ⟨9, []⟩ false .lss (gp 6 tm) v2 fun v3 => g.run r (sp 11 v3 tm) (v3 :: v2 :: (gp 0 tm) :: (gp 6 tm) :: le) s) ∧
  ((∀ (g : LoC) (r : R) (s : S) (tm : T) (le : List V), (qLCopies_36_0 g).run r tm (le) s = xSlice 3 1 (gp 1 tm) (some (gp 5 tm)) none none s fun v2 => xIdxAddrS 2 (gp 0 tm) (gp 6 tm) fun v5 => xFieldAddr 0 v5 fun v6 => xLoad false 1 v6 s fun v7 s => foldF (r.call 16 [v2, v7] s) fun v8 s => g.run r (sp 12 v8 tm) (v8 :: v7 :: v6 :: v5 :: (gp 6 tm) :: (gp 0 tm) :: v2 :: (gp 5 tm) :: (gp 1 tm) :: le) s) ∧
  (∀ (g : LoC) (r : R) (s : S) (tm : T) (le : List V), (qLCopies_39_0 g).run r tm (le) s = foldF (r.call 9 [] s) fun v0 s => g.run r (sp 4 v0 tm) (v0 :: v0 :: le) s)))))) ∧
  (((((∀ (g : LoC) (r : R) (s : S) (tm : T) (le : List V), (qLCopies_42_0 g).run r tm (le) s = xBin ⟨9, []⟩ false .add (gp 6 tm) (V.nat .i64 1) fun v1 => g.run r (sp 6 v1 tm) (v1 :: v1 :: (gp 6 tm) :: le) s) ∧
  (∀ (g : LoC) (r : R) (s : S) (tm : T) (le : List V), (qLCopies_43_0 g).run r tm (le) s = xBin ⟨9, []⟩ false .add (gp 5 tm) (V.nat .i64 1) fun v1 => g.run r (sp 5 v1 tm) (v1 :: v1 :: (gp 5 tm) :: le) s)) ∧
  ((∀ (g : LoC) (r : R) (s : S) (tm : T) (le : List V), (qLCopies_45_0 g).run r tm (le) s = foldF (r.call 13 [(gp 0 tm), (gp 1 tm)] s) fun v2 s => xExtract 0 v2 fun v4 => xExtract 1 v2 fun v5 => g.run r (sp 8 v5 (sp 7 v4 tm)) (v5 :: v4 :: v5 :: v4 :: v2 :: v2 :: (gp 1 tm) :: (gp 0 tm) :: le) s) ∧
  (∀ (g : LoC) (r : R) (s : S) (tm : T) (le : List V), (qLCopies_48_0 g).run r tm (le) s = foldF (r.call 17 [(gp 1 tm)] s) fun v1 s => xUn .not v1 fun v2 => g.run r (sp 13 v2 tm) (v2 :: v1 :: (gp 1 tm) :: le) s))) ∧
  (((∀ (g : LoC) (r : R) (s : S) (tm : T) (le : List V), (qLCopies_51_0 g).run r tm (le) s = xBin ⟨7, []⟩ true .eql (gp 8 tm) (V.nat .i64 1) fun v1 => g.run r tm (v1 :: v1 :: (gp 8 tm) :: le) s) ∧
  (∀ (g : LoC) (r : R) (s : S) (tm : T) (le : List V), (qLCopies_51_3 g).run r tm ((.bool true) :: le) s = xLenS (gp 7 tm) fun v4 => xBin ⟨7, []⟩ true .eql v4 (V.nat .i64 0) fun v5 => g.run r tm (v5 :: v4 :: (gp 7 tm) :: (.bool true) :: le) s)) ∧
  ((∀ (g : LoC) (r : R) (s : S) (tm : T) (le : List V), (qLCopies_51_3 g).run r tm ((.bool false) :: le) s = g.run r tm (Go.Ev.undef :: Go.Ev.undef :: Go.Ev.undef :: (.bool false) :: le) s) ∧
  ((∀ (g : LoC) (r : R) (s : S) (tm : T) (le : List V) (x0_ x1_ x2_ x3_ : V), (qLCopies_51_6 g).run r tm (x0_ :: x1_ :: x2_ :: x3_ :: le) s = xPick x3_ (fun _ => g.run r tm (x0_ :: x0_ :: x0_ :: x1_ :: x2_ :: x3_ :: le) s) (fun _ => g.run r tm ((V.bool false) :: (V.bool false) :: x0_ :: x1_ :: x2_ :: x3_ :: le) s)) ∧
  (∀ (g : LoC) (r : R) (s : S) (tm : T) (le : List V), (qLCopies_51_8 g).run r tm ((.bool true) :: le) s = foldF (r.call 9 [] s) fun v8 s => g.run r tm (v8 :: (.bool true) :: le) s))))) ∧
  ((((∀ (g : LoC) (r : R) (s : S) (tm : T) (le : List V), (qLCopies_51_8 g).run r tm ((.bool false) :: le) s = g.run r tm (Go.Ev.undef :: (.bool false) :: le) s) ∧
  (∀ (g : LoC) (r : R) (s : S) (tm : T) (le : List V) (x0_ x1_ : V), (qLCopies_51_9 g).run r tm (x0_ :: x1_ :: le) s = xPick x1_ (fun _ => g.run r (sp 4 x0_ tm) (x0_ :: x0_ :: x0_ :: x1_ :: le) s) (fun _ => g.run r (sp 4 (V.bool false) tm) ((V.bool false) :: (V.bool false) :: x0_ :: x1_ :: le) s))) ∧
  ((∀ (g : LoC) (r : R) (s : S) (tm : T) (le : List V), (qLCopies_55_0 g).run r tm (le) s = xBin ⟨7, []⟩ true .eql (gp 8 tm) (V.nat .i64 0) fun v1 => g.run r tm (v1 :: v1 :: (gp 8 tm) :: le) s) ∧
  (∀ (g : LoC) (r : R) (s : S) (tm : T) (le : List V), (qLCopies_55_3 g).run r tm ((.bool true) :: le) s = foldF (r.call 15 [(gp 1 tm), (gp 7 tm)] s) fun v5 s => xBin ⟨7, []⟩ true .eql v5 (V.nat .i64 0) fun v6 => g.run r tm (v6 :: v5 :: (gp 7 tm) :: (gp 1 tm) :: (.bool true) :: le) s))) ∧
  (((∀ (g : LoC) (r : R) (s : S) (tm : T) (le : List V), (qLCopies_55_3 g).run r tm ((.bool false) :: le) s = g.run r tm (Go.Ev.undef :: Go.Ev.undef :: Go.Ev.undef :: Go.Ev.undef :: (.bool false) :: le) s) ∧
  (∀ (g : LoC) (r : R) (s : S) (tm : T) (le : List V) (x0_ x1_ x2_ x3_ x4_ : V), (qLCopies_55_7 g).run r tm (x0_ :: x1_ :: x2_ :: x3_ :: x4_ :: le) s = xPick x4_ (fun _ => g.run r tm (x0_ :: x0_ :: x0_ :: x1_ :: x2_ :: x3_ :: x4_ :: le) s) (fun _ => g.run r tm ((V.bool false) :: (V.bool false) :: x0_ :: x1_ :: x2_ :: x3_ :: x4_ :: le) s))) ∧
  ((∀ (g : LoC) (r : R) (s : S) (tm : T) (le : List V), (qLCopies_55_9 g).run r tm ((.bool true) :: le) s = foldF (r.call 9 [] s) fun v9 s => g.run r tm (v9 :: (.bool true) :: le) s) ∧
  ((∀ (g : LoC) (r : R) (s : S) (tm : T) (le : List V), (qLCopies_55_9 g).run r tm ((.bool false) :: le) s = g.run r tm (Go.Ev.undef :: (.bool false) :: le) s) ∧
  (∀ (g : LoC) (r : R) (s : S) (tm : T) (le : List V) (x0_ x1_ : V), (qLCopies_55_10 g).run r tm (x0_ :: x1_ :: le) s = xPick x1_ (fun _ => g.run r (sp 4 x0_ tm) (x0_ :: x0_ :: x0_ :: x1_ :: le) s) (fun _ => g.run r (sp 4 (V.bool false) tm) ((V.bool false) :: (V.bool false) :: x0_ :: x1_ :: le) s))))))))) := by
  and_intros <;> first | trivial | (intros; kernel_rfl)
theorem chLCopies_1_1 : Ch pc0 fiLCopies uLCopies_1 1 [5] nilL := chE allLCopiesx.1.1.1.1.1.2.1
theorem chLCopies_1_0 : Ch pc0 fiLCopies uLCopies_1 0 [] (qLCopies_1_0 nilL) := chS rfl allLCopiesx.1.1.1.1.1.2.2 chLCopies_1_1
theorem rgLCopies_1 (r : R) (s : S) (tm : T) : cLCopies_1.run r tm s = (qLCopies_1_0 nilL).run r tm [] s := reg_run allLCopiesx.1.1.1.1.1.1 chLCopies_1_0 r s tm
theorem chLCopies_4_11 : Ch pc0 fiLCopies uLCopies_4 11 [20, 19, 18, 17, 16, 15, 14, 13, 12, 11, 10] nilL := chE allLCopiesx.1.1.1.1.2.1.2
theorem chLCopies_4_10 : Ch pc0 fiLCopies uLCopies_4 10 [19, 18, 17, 16, 15, 14, 13, 12, 11, 10] (qLCopies_4_10 nilL) := chS rfl allLCopiesx.1.1.1.1.2.2.1 chLCopies_4_11
theorem chLCopies_4_7 : Ch pc0 fiLCopies uLCopies_4 7 [16, 15, 14, 13, 12, 11, 10] (qLCopies_4_7 (qLCopies_4_10 nilL)) := chS rfl allLCopiesx.1.1.1.1.2.2.2 chLCopies_4_10
theorem chLCopies_4_5 : Ch pc0 fiLCopies uLCopies_4 5 [14, 13, 12, 11, 10] (qLCopies_4_5 (qLCopies_4_7 (qLCopies_4_10 nilL))) := chS rfl allLCopiesx.1.1.1.2.1.1 chLCopies_4_7
theorem chLCopies_4_3 : Ch pc0 fiLCopies uLCopies_4 3 [12, 11, 10] (qLCopies_4_3 (qLCopies_4_5 (qLCopies_4_7 (qLCopies_4_10 nilL)))) := chS rfl allLCopiesx.1.1.1.2.1.2.1 chLCopies_4_5
theorem chLCopies_4_0 : Ch pc0 fiLCopies uLCopies_4 0 [] (qLCopies_4_0 (qLCopies_4_3 (qLCopies_4_5 (qLCopies_4_7 (qLCopies_4_10 nilL))))) := chS rfl allLCopiesx.1.1.1.2.1.2.2 chLCopies_4_3
theorem rgLCopies_4 (r : R) (s : S) (tm : T) : cLCopies_4.run r tm s = (qLCopies_4_0 (qLCopies_4_3 (qLCopies_4_5 (qLCopies_4_7 (qLCopies_4_10 nilL))))).run r tm [] s := reg_run allLCopiesx.1.1.1.1.2.1.1 chLCopies_4_0 r s tm
theorem chLCopies_7_2 : Ch pc0 fiLCopies uLCopies_7 2 [5, 21] nilL := chE allLCopiesx.1.1.1.2.2.1.2
theorem chLCopies_7_0 : Ch pc0 fiLCopies uLCopies_7 0 [] (qLCopies_7_0 nilL) := chS rfl allLCopiesx.1.1.1.2.2.2.1 chLCopies_7_2
theorem rgLCopies_7 (r : R) (s : S) (tm : T) : cLCopies_7.run r tm s = (qLCopies_7_0 nilL).run r tm [] s := reg_run allLCopiesx.1.1.1.2.2.1.1 chLCopies_7_0 r s tm
theorem chLCopies_12_1 : Ch pc0 fiLCopies uLCopies_12 1 [6] nilL := chE allLCopiesx.1.1.2.1.1.1
theorem chLCopies_12_0 : Ch pc0 fiLCopies uLCopies_12 0 [] (qLCopies_12_0 nilL) := chS rfl allLCopiesx.1.1.2.1.1.2.1 chLCopies_12_1
theorem rgLCopies_12 (r : R) (s : S) (tm : T) : cLCopies_12.run r tm s = (qLCopies_12_0 nilL).run r tm [] s := reg_run allLCopiesx.1.1.1.2.2.2.2 chLCopies_12_0 r s tm
theorem chLCopies_17_4 : Ch pc0 fiLCopies uLCopies_17 4 [25, 24, 23, 22] nilL := chE allLCopiesx.1.1.2.1.2.1.1
theorem chLCopies_17_0 : Ch pc0 fiLCopies uLCopies_17 0 [] (qLCopies_17_0 nilL) := chS rfl allLCopiesx.1.1.2.1.2.1.2 chLCopies_17_4
theorem rgLCopies_17 (r : R) (s : S) (tm : T) : cLCopies_17.run r tm s = (qLCopies_17_0 nilL).run r tm [] s := reg_run allLCopiesx.1.1.2.1.1.2.2 chLCopies_17_0 r s tm
theorem chLCopies_24_1 : Ch pc0 fiLCopies uLCopies_24 1 [7] nilL := chE allLCopiesx.1.1.2.1.2.2.2
theorem chLCopies_24_0 : Ch pc0 fiLCopies uLCopies_24 0 [] (qLCopies_24_0 nilL) := chS rfl allLCopiesx.1.1.2.2.1.1 chLCopies_24_1
theorem rgLCopies_24 (r : R) (s : S) (tm : T) : cLCopies_24.run r tm s = (qLCopies_24_0 nilL).run r tm [] s := reg_run allLCopiesx.1.1.2.1.2.2.1 chLCopies_24_0 r s tm
theorem chLCopies_29_4 : Ch pc0 fiLCopies uLCopies_29 4 [31, 30, 29, 28] nilL := chE allLCopiesx.1.1.2.2.1.2.2
theorem chLCopies_29_0 : Ch pc0 fiLCopies uLCopies_29 0 [] (qLCopies_29_0 nilL) := chS rfl allLCopiesx.1.1.2.2.2.1.1 chLCopies_29_4
theorem rgLCopies_29 (r : R) (s : S) (tm : T) : cLCopies_29.run r tm s = (qLCopies_29_0 nilL).run r tm [] s := reg_run allLCopiesx.1.1.2.2.1.2.1 chLCopies_29_0 r s tm
theorem chLCopies_36_9 : DCh pc0 fiLCopies uLCopies_36 9 [42, 41, 40, 39, 38, 37, 36, 35, 34] nilL := dchE allLCopiesx.1.1.2.2.2.2.1
theorem chLCopies_36_0 : DCh pc0 fiLCopies uLCopies_36 0 [] (qLCopies_36_0 nilL) := dchS rfl allLCopiesx.1.1.2.2.2.2.2 chLCopies_36_9
theorem rgLCopies_36 (r : R) (s : S) (tm : T) : cLCopies_36.run r tm s = (qLCopies_36_0 nilL).run r.det tm [] s := reg_drun allLCopiesx.1.1.2.2.2.1.2 chLCopies_36_0 r s tm
theorem chLCopies_39_2 : Ch pc0 fiLCopies uLCopies_39 2 [5, 43] nilL := chE allLCopiesx.1.2.1.1.1.2.1
theorem chLCopies_39_0 : Ch pc0 fiLCopies uLCopies_39 0 [] (qLCopies_39_0 nilL) := chS rfl allLCopiesx.1.2.1.1.1.2.2 chLCopies_39_2
theorem rgLCopies_39 (r : R) (s : S) (tm : T) : cLCopies_39.run r tm s = (qLCopies_39_0 nilL).run r tm [] s := reg_run allLCopiesx.1.2.1.1.1.1 chLCopies_39_0 r s tm
theorem chLCopies_42_3 : Ch pc0 fiLCopies uLCopies_42 3 [7, 33, 32] nilL := chE allLCopiesx.1.2.1.1.2.1.2
theorem chLCopies_42_0 : Ch pc0 fiLCopies uLCopies_42 0 [] (qLCopies_42_0 nilL) := chS rfl allLCopiesx.1.2.1.1.2.2.1 chLCopies_42_3
theorem rgLCopies_42 (r : R) (s : S) (tm : T) : cLCopies_42.run r tm s = (qLCopies_42_0 nilL).run r tm [] s := reg_run allLCopiesx.1.2.1.1.2.1.1 chLCopies_42_0 r s tm
theorem chLCopies_43_3 : Ch pc0 fiLCopies uLCopies_43 3 [6, 27, 26] nilL := chE allLCopiesx.1.2.1.2.1.1
theorem chLCopies_43_0 : Ch pc0 fiLCopies uLCopies_43 0 [] (qLCopies_43_0 nilL) := chS rfl allLCopiesx.1.2.1.2.1.2.1 chLCopies_43_3
theorem rgLCopies_43 (r : R) (s : S) (tm : T) : cLCopies_43.run r tm s = (qLCopies_43_0 nilL).run r tm [] s := reg_run allLCopiesx.1.2.1.1.2.2.2 chLCopies_43_0 r s tm
theorem chLCopies_45_8 : Ch pc0 fiLCopies uLCopies_45 8 [9, 8, 49, 48, 44, 47, 46, 45] nilL := chE allLCopiesx.1.2.1.2.2.1.1
theorem chLCopies_45_0 : Ch pc0 fiLCopies uLCopies_45 0 [] (qLCopies_45_0 nilL) := chS rfl allLCopiesx.1.2.1.2.2.1.2 chLCopies_45_8
theorem rgLCopies_45 (r : R) (s : S) (tm : T) : cLCopies_45.run r tm s = (qLCopies_45_0 nilL).run r tm [] s := reg_run allLCopiesx.1.2.1.2.1.2.2 chLCopies_45_0 r s tm
theorem chLCopies_48_3 : Ch pc0 fiLCopies uLCopies_48 3 [52, 51, 50] nilL := chE allLCopiesx.1.2.1.2.2.2.2
theorem chLCopies_48_0 : Ch pc0 fiLCopies uLCopies_48 0 [] (qLCopies_48_0 nilL) := chS rfl allLCopiesx.1.2.2.1.1.1 chLCopies_48_3
theorem rgLCopies_48 (r : R) (s : S) (tm : T) : cLCopies_48.run r tm s = (qLCopies_48_0 nilL).run r tm [] s := reg_run allLCopiesx.1.2.1.2.2.2.1 chLCopies_48_0 r s tm
theorem chLCopies_51_11 : Ch pc0 fiLCopies uLCopies_51 11 [5, 62, 61, 60, 59, 58, 57, 56, 55, 54, 53] nilL := chE allLCopiesx.1.2.2.1.1.2.2
theorem chLCopies_51_9 : Ch pc0 fiLCopies uLCopies_51 9 [61, 60, 59, 58, 57, 56, 55, 54, 53] (qLCopies_51_9 nilL) := chS rfl allLCopiesx.1.2.2.1.2.1.1 chLCopies_51_11
theorem chLCopies_51_8 : Ch pc0 fiLCopies uLCopies_51 8 [60, 59, 58, 57, 56, 55, 54, 53] (qLCopies_51_8 (qLCopies_51_9 nilL)) := chS rfl allLCopiesx.1.2.2.1.2.1.2 chLCopies_51_9
theorem chLCopies_51_6 : Ch pc0 fiLCopies uLCopies_51 6 [58, 57, 56, 55, 54, 53] (qLCopies_51_6 (qLCopies_51_8 (qLCopies_51_9 nilL))) := chS rfl allLCopiesx.1.2.2.1.2.2.1 chLCopies_51_8
theorem chLCopies_51_3 : Ch pc0 fiLCopies uLCopies_51 3 [55, 54, 53] (qLCopies_51_3 (qLCopies_51_6 (qLCopies_51_8 (qLCopies_51_9 nilL)))) := chS rfl allLCopiesx.1.2.2.1.2.2.2 chLCopies_51_6
theorem chLCopies_51_0 : Ch pc0 fiLCopies uLCopies_51 0 [] (qLCopies_51_0 (qLCopies_51_3 (qLCopies_51_6 (qLCopies_51_8 (qLCopies_51_9 nilL))))) := chS rfl allLCopiesx.1.2.2.2.1.1.1 chLCopies_51_3
theorem rgLCopies_51 (r : R) (s : S) (tm : T) : cLCopies_51.run r tm s = (qLCopies_51_0 (qLCopies_51_3 (qLCopies_51_6 (qLCopies_51_8 (qLCopies_51_9 nilL))))).run r tm [] s := reg_run allLCopiesx.1.2.2.1.1.2.1 chLCopies_51_0 r s tm
theorem chLCopies_55_12 : Ch pc0 fiLCopies uLCopies_55 12 [5, 73, 72, 71, 70, 69, 68, 67, 66, 65, 64, 63] nilL := chE allLCopiesx.1.2.2.2.1.2.1
theorem chLCopies_55_10 : Ch pc0 fiLCopies uLCopies_55 10 [72, 71, 70, 69, 68, 67, 66, 65, 64, 63] (qLCopies_55_10 nilL) := chS rfl allLCopiesx.1.2.2.2.1.2.2 chLCopies_55_12
theorem chLCopies_55_9 : Ch pc0 fiLCopies uLCopies_55 9 [71, 70, 69, 68, 67, 66, 65, 64, 63] (qLCopies_55_9 (qLCopies_55_10 nilL)) := chS rfl allLCopiesx.1.2.2.2.2.1.1 chLCopies_55_10
theorem chLCopies_55_7 : Ch pc0 fiLCopies uLCopies_55 7 [69, 68, 67, 66, 65, 64, 63] (qLCopies_55_7 (qLCopies_55_9 (qLCopies_55_10 nilL))) := chS rfl allLCopiesx.1.2.2.2.2.1.2 chLCopies_55_9
theorem chLCopies_55_3 : Ch pc0 fiLCopies uLCopies_55 3 [65, 64, 63] (qLCopies_55_3 (qLCopies_55_7 (qLCopies_55_9 (qLCopies_55_10 nilL)))) := chS rfl allLCopiesx.1.2.2.2.2.2.1 chLCopies_55_7
theorem chLCopies_55_0 : Ch pc0 fiLCopies uLCopies_55 0 [] (qLCopies_55_0 (qLCopies_55_3 (qLCopies_55_7 (qLCopies_55_9 (qLCopies_55_10 nilL))))) := chS rfl allLCopiesx.1.2.2.2.2.2.2 chLCopies_55_3
theorem rgLCopies_55 (r : R) (s : S) (tm : T) : cLCopies_55.run r tm s = (qLCopies_55_0 (qLCopies_55_3 (qLCopies_55_7 (qLCopies_55_9 (qLCopies_55_10 nilL))))).run r tm [] s := reg_run allLCopiesx.1.2.2.2.1.1.2 chLCopies_55_0 r s tm
theorem szLCopies_26 : sizeC uLCopies_26 = 35 := allLCopiesx.2.1.1
theorem szLCopies_14 : sizeC uLCopies_14 = 56 := allLCopiesx.2.1.2
theorem lpLCopies_26 : type_of% allLCopiesx.2.2.1.1 := allLCopiesx.2.2.1.1
theorem lpLCopies_14 : type_of% allLCopiesx.2.2.1.2 := allLCopiesx.2.2.1.2
theorem allLCopies : type_of% (And.intro rgLCopies_1 (And.intro rgLCopies_4 (And.intro rgLCopies_7 (And.intro rgLCopies_12 (And.intro rgLCopies_17 (And.intro rgLCopies_24 (And.intro rgLCopies_29 (And.intro rgLCopies_36 (And.intro rgLCopies_39 (And.intro rgLCopies_42 (And.intro rgLCopies_43 (And.intro rgLCopies_45 (And.intro rgLCopies_48 (And.intro rgLCopies_51 (And.intro rgLCopies_55 allLCopiesx.2.2.2))))))))))))))) := (And.intro rgLCopies_1 (And.intro rgLCopies_4 (And.intro rgLCopies_7 (And.intro rgLCopies_12 (And.intro rgLCopies_17 (And.intro rgLCopies_24 (And.intro rgLCopies_29 (And.intro rgLCopies_36 (And.intro rgLCopies_39 (And.intro rgLCopies_42 (And.intro rgLCopies_43 (And.intro rgLCopies_45 (And.intro rgLCopies_48 (And.intro rgLCopies_51 (And.intro rgLCopies_55 allLCopiesx.2.2.2)))))))))))))))
/- abugida/abugidalaw40.TranslitParts: parameters 2, slots in the frame: [(0, 0), (1, 1), (2, 2), (3, 3), (4, 4), (5, 5), (6, 6), (7, 7), (8, 8), (9, 9), (10, 10), (11, 11), (12, 12), (13, 13), (14, 34), (15, 41), (16, 64), (17, 101)] -/
def fiLParts : FI := ⟨10633821430978126508324907198923653120, 123, 4⟩
noncomputable def bodyLParts : Code := bodyOf Tryz.prog 6
noncomputable def uLParts_1 : Code := subC [0] bodyLParts
noncomputable def cLParts_1 : CoC := comp pc0 fiLParts uLParts_1
noncomputable def qLParts_1_0 : LoC → LoC := qOf pc0 fiLParts uLParts_1 0 1 []
noncomputable def uLParts_4 : Code := subC [1, 0, 0] bodyLParts
noncomputable def cLParts_4 : CoC := comp pc0 fiLParts uLParts_4
noncomputable def qLParts_4_20 : LoC → LoC := qOf pc0 fiLParts uLParts_4 20 1 [34, 33, 32, 31, 30, 29, 28, 27, 26, 25, 24, 23, 22, 21, 20, 19, 18, 17, 16, 15]
noncomputable def qLParts_4_17 : LoC → LoC := qOf pc0 fiLParts uLParts_4 17 3 [31, 30, 29, 28, 27, 26, 25, 24, 23, 22, 21, 20, 19, 18, 17, 16, 15]
noncomputable def qLParts_4_15 : LoC → LoC := qOf pc0 fiLParts uLParts_4 15 2 [29, 28, 27, 26, 25, 24, 23, 22, 21, 20, 19, 18, 17, 16, 15]
noncomputable def qLParts_4_12 : LoC → LoC := qOf pc0 fiLParts uLParts_4 12 3 [26, 25, 24, 23, 22, 21, 20, 19, 18, 17, 16, 15]
noncomputable def qLParts_4_10 : LoC → LoC := qOf pc0 fiLParts uLParts_4 10 2 [24, 23, 22, 21, 20, 19, 18, 17, 16, 15]
noncomputable def qLParts_4_7 : LoC → LoC := qOf pc0 fiLParts uLParts_4 7 3 [21, 20, 19, 18, 17, 16, 15]
noncomputable def qLParts_4_5 : LoC → LoC := qOf pc0 fiLParts uLParts_4 5 2 [19, 18, 17, 16, 15]
noncomputable def qLParts_4_3 : LoC → LoC := qOf pc0 fiLParts uLParts_4 3 2 [17, 16, 15]
noncomputable def qLParts_4_0 : LoC → LoC := qOf pc0 fiLParts uLParts_4 0 3 []
noncomputable def uLParts_7 : Code := subC [1, 0, 1, 0, 0] bodyLParts
noncomputable def cLParts_7 : CoC := comp pc0 fiLParts uLParts_7
noncomputable def qLParts_7_0 : LoC → LoC := qOf pc0 fiLParts uLParts_7 0 2 []
noncomputable def uLParts_11 : Code := subC [1, 1, 0] bodyLParts
noncomputable def cLParts_11 : CoC := comp pc0 fiLParts uLParts_11
noncomputable def qLParts_11_0 : LoC → LoC := dqOf pc0 fiLParts uLParts_11 0 4 []
noncomputable def uLParts_13 : Code := subC [1, 1, 1, 0] bodyLParts
noncomputable def cLParts_13 : CoC := comp pc0 fiLParts uLParts_13
noncomputable def qLParts_13_0 : LoC → LoC := qOf pc0 fiLParts uLParts_13 0 1 []
noncomputable def uLParts_16 : Code := subC [1, 1, 1, 1, 0, 0] bodyLParts
noncomputable def cLParts_16 : CoC := comp pc0 fiLParts uLParts_16
noncomputable def qLParts_16_0 : LoC → LoC := qOf pc0 fiLParts uLParts_16 0 1 []
noncomputable def uLParts_21 : Code := subC [1, 1, 1, 1, 0, 1, 0, 0, 0, 0] bodyLParts
noncomputable def cLParts_21 : CoC := comp pc0 fiLParts uLParts_21
noncomputable def qLParts_21_0 : LoC → LoC := qOf pc0 fiLParts uLParts_21 0 4 []
noncomputable def uLParts_28 : Code := subC [1, 1, 1, 1, 0, 1, 0, 0, 1, 0, 0, 0] bodyLParts
noncomputable def cLParts_28 : CoC := comp pc0 fiLParts uLParts_28
noncomputable def qLParts_28_20 : LoC → LoC := qOf pc0 fiLParts uLParts_28 20 1 [64, 63, 62, 61, 60, 59, 58, 57, 56, 55, 54, 53, 52, 51, 50, 49, 48, 47, 46, 45]
noncomputable def qLParts_28_19 : LoC → LoC := qOf pc0 fiLParts uLParts_28 19 1 [63, 62, 61, 60, 59, 58, 57, 56, 55, 54, 53, 52, 51, 50, 49, 48, 47, 46, 45]
noncomputable def qLParts_28_11 : LoC → LoC := qOf pc0 fiLParts uLParts_28 11 8 [55, 54, 53, 52, 51, 50, 49, 48, 47, 46, 45]
noncomputable def qLParts_28_8 : LoC → LoC := qOf pc0 fiLParts uLParts_28 8 3 [52, 51, 50, 49, 48, 47, 46, 45]
noncomputable def qLParts_28_0 : LoC → LoC := qOf pc0 fiLParts uLParts_28 0 8 []
noncomputable def uLParts_31 : Code := subC [1, 1, 1, 1, 0, 1, 0, 0, 1, 0, 0, 1, 0, 0] bodyLParts
noncomputable def cLParts_31 : CoC := comp pc0 fiLParts uLParts_31
noncomputable def qLParts_31_0 : LoC → LoC := dqOf pc0 fiLParts uLParts_31 0 13 []
noncomputable def uLParts_32 : Code := subC [1, 1, 1, 1, 0, 1, 0, 0, 1, 0, 0, 1, 0, 1] bodyLParts
noncomputable def cLParts_32 : CoC := comp pc0 fiLParts uLParts_32
noncomputable def qLParts_32_0 : LoC → LoC := qOf pc0 fiLParts uLParts_32 0 1 []
noncomputable def uLParts_34 : Code := subC [1, 1, 1, 1, 0, 1, 0, 0, 1, 1] bodyLParts
noncomputable def cLParts_34 : CoC := comp pc0 fiLParts uLParts_34
noncomputable def qLParts_34_0 : LoC → LoC := qOf pc0 fiLParts uLParts_34 0 3 []
noncomputable def uLParts_18 : Code := subC [1, 1, 1, 1, 0, 1, 0] bodyLParts
noncomputable def cLParts_18 : CoC := comp pc0 fiLParts uLParts_18
noncomputable def uLParts_36 : Code := subC [1, 1, 1, 1, 1, 0] bodyLParts
noncomputable def cLParts_36 : CoC := comp pc0 fiLParts uLParts_36
noncomputable def qLParts_36_0 : LoC → LoC := qOf pc0 fiLParts uLParts_36 0 8 []
noncomputable def uLParts_38 : Code := subC [1, 1, 1, 1, 1, 1, 0] bodyLParts
noncomputable def cLParts_38 : CoC := comp pc0 fiLParts uLParts_38
noncomputable def qLParts_38_0 : LoC → LoC := qOf pc0 fiLParts uLParts_38 0 10 []
noncomputable def uLParts_40 : Code := subC [1, 1, 1, 1, 1, 1, 1, 0] bodyLParts
noncomputable def cLParts_40 : CoC := comp pc0 fiLParts uLParts_40
noncomputable def qLParts_40_0 : LoC → LoC := qOf pc0 fiLParts uLParts_40 0 6 []
noncomputable def uLParts_43 : Code := subC [1, 1, 1, 1, 1, 1, 1, 1, 0, 0] bodyLParts
noncomputable def cLParts_43 : CoC := comp pc0 fiLParts uLParts_43
noncomputable def qLParts_43_6 : LoC → LoC := qOf pc0 fiLParts uLParts_43 6 1 [101, 100, 99, 98, 97, 96]
noncomputable def qLParts_43_3 : LoC → LoC := qOf pc0 fiLParts uLParts_43 3 3 [98, 97, 96]
noncomputable def qLParts_43_0 : LoC → LoC := qOf pc0 fiLParts uLParts_43 0 3 []
noncomputable def uLParts_46 : Code := subC [1, 1, 1, 1, 1, 1, 1, 1, 0, 1, 0, 0] bodyLParts
noncomputable def cLParts_46 : CoC := comp pc0 fiLParts uLParts_46
noncomputable def qLParts_46_9 : LoC → LoC := qOf pc0 fiLParts uLParts_46 9 2 [111, 110, 109, 108, 107, 106, 105, 104, 103]
noncomputable def qLParts_46_8 : LoC → LoC := qOf pc0 fiLParts uLParts_46 8 1 [110, 109, 108, 107, 106, 105, 104, 103]
noncomputable def qLParts_46_6 : LoC → LoC := qOf pc0 fiLParts uLParts_46 6 2 [108, 107, 106, 105, 104, 103]
noncomputable def qLParts_46_3 : LoC → LoC := qOf pc0 fiLParts uLParts_46 3 3 [105, 104, 103]
noncomputable def qLParts_46_0 : LoC → LoC := qOf pc0 fiLParts uLParts_46 0 3 []
noncomputable def uLParts_50 : Code := subC [1, 1, 1, 1, 1, 1, 1, 1, 1, 0] bodyLParts
noncomputable def cLParts_50 : CoC := comp pc0 fiLParts uLParts_50
noncomputable def qLParts_50_10 : LoC → LoC := qOf pc0 fiLParts uLParts_50 10 2 [122, 121, 120, 119, 118, 117, 116, 115, 114, 113]
noncomputable def qLParts_50_9 : LoC → LoC := qOf pc0 fiLParts uLParts_50 9 1 [121, 120, 119, 118, 117, 116, 115, 114, 113]
noncomputable def qLParts_50_7 : LoC → LoC := qOf pc0 fiLParts uLParts_50 7 2 [119, 118, 117, 116, 115, 114, 113]
noncomputable def qLParts_50_3 : LoC → LoC := qOf pc0 fiLParts uLParts_50 3 4 [115, 114, 113]
noncomputable def qLParts_50_0 : LoC → LoC := qOf pc0 fiLParts uLParts_50 0 3 []
noncomputable def cLParts_0 : CoC := comp pc0 fiLParts bodyLParts
noncomputable def finLParts : T → S → A := finN (resC pc0 fiLParts (resOf Tryz.prog 6)).run
theorem allLPartsx :
  (((((((regPlain uLParts_1 = true ∧
  ((regOps uLParts_1).drop 1).isEmpty = true) ∧
  (pushes (((regOps uLParts_1).drop 0).take 1) [] = [5] ∧
  regPlain uLParts_4 = true)) ∧
  ((((regOps uLParts_4).drop 21).isEmpty = true ∧
  pushes (((regOps uLParts_4).drop 20).take 1) [34, 33, 32, 31, 30, 29, 28, 27, 26, 25, 24, 23, 22, 21, 20, 19, 18, 17, 16, 15] = [35, 34, 33, 32, 31, 30, 29, 28, 27, 26, 25, 24, 23, 22, 21, 20, 19, 18, 17, 16, 15]) ∧
  (pushes (((regOps uLParts_4).drop 17).take 3) [31, 30, 29, 28, 27, 26, 25, 24, 23, 22, 21, 20, 19, 18, 17, 16, 15] = [34, 33, 32, 31, 30, 29, 28, 27, 26, 25, 24, 23, 22, 21, 20, 19, 18, 17, 16, 15] ∧
  (pushes (((regOps uLParts_4).drop 15).take 2) [29, 28, 27, 26, 25, 24, 23, 22, 21, 20, 19, 18, 17, 16, 15] = [31, 30, 29, 28, 27, 26, 25, 24, 23, 22, 21, 20, 19, 18, 17, 16, 15] ∧
  pushes (((regOps uLParts_4).drop 12).take 3) [26, 25, 24, 23, 22, 21, 20, 19, 18, 17, 16, 15] = [29, 28, 27, 26, 25, 24, 23, 22, 21, 20, 19, 18, 17, 16, 15])))) ∧
  (((pushes (((regOps uLParts_4).drop 10).take 2) [24, 23, 22, 21, 20, 19, 18, 17, 16, 15] = [26, 25, 24, 23, 22, 21, 20, 19, 18, 17, 16, 15] ∧
  pushes (((regOps uLParts_4).drop 7).take 3) [21, 20, 19, 18, 17, 16, 15] = [24, 23, 22, 21, 20, 19, 18, 17, 16, 15]) ∧
  (pushes (((regOps uLParts_4).drop 5).take 2) [19, 18, 17, 16, 15] = [21, 20, 19, 18, 17, 16, 15] ∧
  pushes (((regOps uLParts_4).drop 3).take 2) [17, 16, 15] = [19, 18, 17, 16, 15])) ∧
  ((pushes (((regOps uLParts_4).drop 0).take 3) [] = [17, 16, 15] ∧
  regPlain uLParts_7 = true) ∧
  (((regOps uLParts_7).drop 2).isEmpty = true ∧
  (pushes (((regOps uLParts_7).drop 0).take 2) [] = [5, 36] ∧
  regDraw pc0.mixed uLParts_11 = true))))) ∧
  ((((((drawSteps (regOps uLParts_11)).drop 4).isEmpty = true ∧
  dpushes (regOps uLParts_11) (((drawSteps (regOps uLParts_11)).drop 0).take 4) [] = [7, 6, 38, 37]) ∧
  (regPlain uLParts_13 = true ∧
  ((regOps uLParts_13).drop 1).isEmpty = true)) ∧
  ((pushes (((regOps uLParts_13).drop 0).take 1) [] = [8] ∧
  regPlain uLParts_16 = true) ∧
  (((regOps uLParts_16).drop 1).isEmpty = true ∧
  (pushes (((regOps uLParts_16).drop 0).take 1) [] = [9] ∧
  regPlain uLParts_21 = true)))) ∧
  (((((regOps uLParts_21).drop 4).isEmpty = true ∧
  pushes (((regOps uLParts_21).drop 0).take 4) [] = [42, 41, 40, 39]) ∧
  (regPlain uLParts_28 = true ∧
  ((regOps uLParts_28).drop 21).isEmpty = true)) ∧
  ((pushes (((regOps uLParts_28).drop 20).take 1) [64, 63, 62, 61, 60, 59, 58, 57, 56, 55, 54, 53, 52, 51, 50, 49, 48, 47, 46, 45] = [65, 64, 63, 62, 61, 60, 59, 58, 57, 56, 55, 54, 53, 52, 51, 50, 49, 48, 47, 46, 45] ∧
  pushes (((regOps uLParts_28).drop 19).take 1) [63, 62, 61, 60, 59, 58, 57, 56, 55, 54, 53, 52, 51, 50, 49, 48, 47, 46, 45] = [64, 63, 62, 61, 60, 59, 58, 57, 56, 55, 54, 53, 52, 51, 50, 49, 48, 47, 46, 45]) ∧
  (pushes (((regOps uLParts_28).drop 11).take 8) [55, 54, 53, 52, 51, 50, 49, 48, 47, 46, 45] = [63, 62, 61, 60, 59, 58, 57, 56, 55, 54, 53, 52, 51, 50, 49, 48, 47, 46, 45] ∧
  (pushes (((regOps uLParts_28).drop 8).take 3) [52, 51, 50, 49, 48, 47, 46, 45] = [55, 54, 53, 52, 51, 50, 49, 48, 47, 46, 45] ∧
  pushes (((regOps uLParts_28).drop 0).take 8) [] = [52, 51, 50, 49, 48, 47, 46, 45])))))) ∧
  (((((regDraw pc0.mixed uLParts_31 = true ∧
  ((drawSteps (regOps uLParts_31)).drop 13).isEmpty = true) ∧
  (dpushes (regOps uLParts_31) (((drawSteps (regOps uLParts_31)).drop 0).take 13) [] = [7, 6, 76, 75, 74, 73, 72, 71, 70, 69, 68, 67, 66] ∧
  regPlain uLParts_32 = true)) ∧
  ((((regOps uLParts_32).drop 1).isEmpty = true ∧
  pushes (((regOps uLParts_32).drop 0).take 1) [] = [8]) ∧
  (regPlain uLParts_34 = true ∧
  (((regOps uLParts_34).drop 3).isEmpty = true ∧
  pushes (((regOps uLParts_34).drop 0).take 3) [] = [9, 44, 43])))) ∧
  (((regPlain uLParts_36 = true ∧
  ((regOps uLParts_36).drop 8).isEmpty = true) ∧
  (pushes (((regOps uLParts_36).drop 0).take 8) [] = [11, 10, 82, 81, 77, 80, 79, 78] ∧
  regPlain uLParts_38 = true)) ∧
  ((((regOps uLParts_38).drop 10).isEmpty = true ∧
  pushes (((regOps uLParts_38).drop 0).take 10) [] = [13, 12, 90, 89, 83, 88, 87, 86, 85, 84]) ∧
  (regPlain uLParts_40 = true ∧
  (((regOps uLParts_40).drop 6).isEmpty = true ∧
  pushes (((regOps uLParts_40).drop 0).take 6) [] = [14, 95, 94, 93, 92, 91]))))) ∧
  ((((regPlain uLParts_43 = true ∧
  ((regOps uLParts_43).drop 7).isEmpty = true) ∧
  (pushes (((regOps uLParts_43).drop 6).take 1) [101, 100, 99, 98, 97, 96] = [102, 101, 100, 99, 98, 97, 96] ∧
  pushes (((regOps uLParts_43).drop 3).take 3) [98, 97, 96] = [101, 100, 99, 98, 97, 96])) ∧
  ((pushes (((regOps uLParts_43).drop 0).take 3) [] = [98, 97, 96] ∧
  regPlain uLParts_46 = true) ∧
  (((regOps uLParts_46).drop 11).isEmpty = true ∧
  (pushes (((regOps uLParts_46).drop 9).take 2) [111, 110, 109, 108, 107, 106, 105, 104, 103] = [5, 112, 111, 110, 109, 108, 107, 106, 105, 104, 103] ∧
  pushes (((regOps uLParts_46).drop 8).take 1) [110, 109, 108, 107, 106, 105, 104, 103] = [111, 110, 109, 108, 107, 106, 105, 104, 103])))) ∧
  (((pushes (((regOps uLParts_46).drop 6).take 2) [108, 107, 106, 105, 104, 103] = [110, 109, 108, 107, 106, 105, 104, 103] ∧
  pushes (((regOps uLParts_46).drop 3).take 3) [105, 104, 103] = [108, 107, 106, 105, 104, 103]) ∧
  (pushes (((regOps uLParts_46).drop 0).take 3) [] = [105, 104, 103] ∧
  (regPlain uLParts_50 = true ∧
  ((regOps uLParts_50).drop 12).isEmpty = true))) ∧
  ((pushes (((regOps uLParts_50).drop 10).take 2) [122, 121, 120, 119, 118, 117, 116, 115, 114, 113] = [5, 123, 122, 121, 120, 119, 118, 117, 116, 115, 114, 113] ∧
  pushes (((regOps uLParts_50).drop 9).take 1) [121, 120, 119, 118, 117, 116, 115, 114, 113] = [122, 121, 120, 119, 118, 117, 116, 115, 114, 113]) ∧
  (pushes (((regOps uLParts_50).drop 7).take 2) [119, 118, 117, 116, 115, 114, 113] = [121, 120, 119, 118, 117, 116, 115, 114, 113] ∧
  (pushes (((regOps uLParts_50).drop 3).take 4) [115, 114, 113] = [119, 118, 117, 116, 115, 114, 113] ∧
  pushes (((regOps uLParts_50).drop 0).take 3) [] = [115, 114, 113])))))))) ∧ (sizeC uLParts_18 = 59) ∧ ((∀ (r : R) (s : S) (tm : T), cLParts_18.run r tm s = seqA (fun tm s => r.code fiLParts uLParts_18 tm s) (seqA (fun tm s => seqA (fun tm s => cLParts_34.run r tm s) (blockA 1 (seqA (fun tm s => condV (gp 16 tm) (seqA (fun tm s => cLParts_32.run r tm s) (cLParts_31.run r tm s)) (.nrm tm s)) (cLParts_28.run r tm s)))) (seqA (fun tm s => condV (gp 15 tm) (.nrm tm s) (.ext 0 tm s)) (cLParts_21.run r tm s))))) ∧ (((((((∀ (r : R) (s : S) (x0 x1 : V), (fnC pc0 6).run r [x0, x1] s = outF (bindR (fun tm s => finLParts tm s) (cLParts_0.run r (sp 1 x1 (sp 0 x0 T.new)) s))) ∧
  ((∀ (s : S) (tm : T), finLParts tm s = finV (gp 240 tm) (resV [(gp 4 tm)] s)) ∧
  (∀ (r : R) (s : S) (tm : T), cLParts_0.run r tm s = seqA (fun tm s => seqA (fun tm s => seqA (fun tm s => seqA (fun tm s => seqA (fun tm s => seqA (fun tm s => seqA (fun tm s => seqA (fun tm s => seqA (fun tm s => seqA (fun tm s => .ret tm s) (cLParts_50.run r tm s)) (seqA (fun tm s => condV (gp 17 tm) (seqA (fun tm s => .ret tm s) (cLParts_46.run r tm s)) (.nrm tm s)) (cLParts_43.run r tm s))) (cLParts_40.run r tm s)) (cLParts_38.run r tm s)) (cLParts_36.run r tm s)) (seqA (fun tm s => blockA 0 (cLParts_18.run r tm s)) (cLParts_16.run r tm s))) (cLParts_13.run r tm s)) (cLParts_11.run r tm s)) (seqA (fun tm s => condV (gp 14 tm) (seqA (fun tm s => .ret tm s) (cLParts_7.run r tm s)) (.nrm tm s)) (cLParts_4.run r tm s))) (cLParts_1.run r tm s)))) ∧
  ((∀ (g : LoC) (r : R) (s : S) (tm : T) (le : List V), (qLParts_1_0 g).run r tm (le) s = g.run r (sp 4 (V.bool false) tm) ((V.bool false) :: le) s) ∧
  ((∀ (g : LoC) (r : R) (s : S) (tm : T) (le : List V), (qLParts_4_0 g).run r tm (le) s = foldF (r.call 8 [(gp 0 tm)] s) fun v1 s => g.run r tm (v1 :: v1 :: (gp 0 tm) :: le) s) ∧
  (∀ (g : LoC) (r : R) (s : S) (tm : T) (le : List V), (qLParts_4_3 g).run r tm ((.bool true) :: le) s = g.run r tm (Go.Ev.undef :: Go.Ev.undef :: (.bool true) :: le) s)))) ∧
  (((∀ (g : LoC) (r : R) (s : S) (tm : T) (le : List V), (qLParts_4_3 g).run r tm ((.bool false) :: le) s = foldF (r.call 12 [(gp 1 tm)] s) fun v4 s => g.run r tm (v4 :: (gp 1 tm) :: (.bool false) :: le) s) ∧
  ((∀ (g : LoC) (r : R) (s : S) (tm : T) (le : List V) (x0_ x1_ x2_ : V), (qLParts_4_5 g).run r tm (x0_ :: x1_ :: x2_ :: le) s = xPick x2_ (fun _ => g.run r tm ((V.bool true) :: (V.bool true) :: x0_ :: x1_ :: x2_ :: le) s) (fun _ => g.run r tm (x0_ :: x0_ :: x0_ :: x1_ :: x2_ :: le) s)) ∧
  (∀ (g : LoC) (r : R) (s : S) (tm : T) (le : List V), (qLParts_4_7 g).run r tm ((.bool true) :: le) s = g.run r tm (Go.Ev.undef :: Go.Ev.undef :: Go.Ev.undef :: (.bool true) :: le) s))) ∧
  (((∀ (g : LoC) (r : R) (s : S) (tm : T) (le : List V), (qLParts_4_7 g).run r tm ((.bool false) :: le) s = foldF (r.call 10 [(gp 0 tm)] s) fun v8 s => xUn .not v8 fun v9 => g.run r tm (v9 :: v8 :: (gp 0 tm) :: (.bool false) :: le) s) ∧
  (∀ (g : LoC) (r : R) (s : S) (tm : T) (le : List V) (x0_ x1_ x2_ x3_ : V), (qLParts_4_10 g).run r tm (x0_ :: x1_ :: x2_ :: x3_ :: le) s = xPick x3_ (fun _ => g.run r tm ((V.bool true) :: (V.bool true) :: x0_ :: x1_ :: x2_ :: x3_ :: le) s) (fun _ => g.run r tm (x0_ :: x0_ :: x0_ :: x1_ :: x2_ :: x3_ :: le) s))) ∧
  ((∀ (g : LoC) (r : R) (s : S) (tm : T) (le : List V), (qLParts_4_12 g).run r tm ((.bool true) :: le) s = g.run r tm (Go.Ev.undef :: Go.Ev.undef :: Go.Ev.undef :: (.bool true) :: le) s) ∧
  (∀ (g : LoC) (r : R) (s : S) (tm : T) (le : List V), (qLParts_4_12 g).run r tm ((.bool false) :: le) s = xLenS (gp 1 tm) fun v13 => xBin ⟨7, []⟩ true .eql v13 (V.nat .i64 0) fun v14 => g.run r tm (v14 :: v13 :: (gp 1 tm) :: (.bool false) :: le) s))))) ∧
  ((((∀ (g : LoC) (r : R) (s : S) (tm : T) (le : List V) (x0_ x1_ x2_ x3_ : V), (qLParts_4_15 g).run r tm (x0_ :: x1_ :: x2_ :: x3_ :: le) s = xPick x3_ (fun _ => g.run r tm ((V.bool true) :: (V.bool true) :: x0_ :: x1_ :: x2_ :: x3_ :: le) s) (fun _ => g.run r tm (x0_ :: x0_ :: x0_ :: x1_ :: x2_ :: x3_ :: le) s)) ∧
  ((∀ (g : LoC) (r : R) (s : S) (tm : T) (le : List V), (qLParts_4_17 g).run r tm ((.bool true) :: le) s = g.run r tm (Go.Ev.undef :: Go.Ev.undef :: Go.Ev.undef :: (.bool true) :: le) s) ∧
  (∀ (g : LoC) (r : R) (s : S) (tm : T) (le : List V), (qLParts_4_17 g).run r tm ((.bool false) :: le) s = foldF (r.call 17 [(gp 1 tm)] s) fun v18 s => xUn .not v18 fun v19 => g.run r tm (v19 :: v18 :: (gp 1 tm) :: (.bool false) :: le) s))) ∧
  (((∀ (g : LoC) (r : R) (s : S) (tm : T) (le : List V) (x0_ x1_ x2_ x3_ : V), (qLParts_4_20 g).run r tm (x0_ :: x1_ :: x2_ :: x3_ :: le) s = xPick x3_ (fun _ => g.run r (sp 14 (V.bool true) tm) ((V.bool true) :: x0_ :: x1_ :: x2_ :: x3_ :: le) s) (fun _ => g.run r (sp 14 x0_ tm) (x0_ :: x0_ :: x1_ :: x2_ :: x3_ :: le) s)) ∧
  (∀ (g : LoC) (r : R) (s : S) (tm : T) (le : List V), (qLParts_7_0 g).run r tm (le) s = foldF (r.call 9 [] s) fun v0 s => g.run r (sp 4 v0 tm) (v0 :: v0 :: le) s)) ∧
  ((∀ (g : LoC) (r : R) (s : S) (tm : T) (le : List V), (qLParts_11_0 g).run r tm (le) s = xSlice 3 1 (gp 1 tm) none (some (V.nat .i64 1)) none s fun v1 => g.run r (sp 6 v1 (sp 5 (V.nat .i64 1) tm)) (v1 :: (V.nat .i64 1) :: v1 :: (gp 1 tm) :: le) s) ∧
  (∀ (g : LoC) (r : R) (s : S) (tm : T) (le : List V), (qLParts_13_0 g).run r tm (le) s = g.run r (sp 7 (V.bool false) tm) ((V.bool false) :: le) s)))) ∧
  (((∀ (g : LoC) (r : R) (s : S) (tm : T) (le : List V), (qLParts_16_0 g).run r tm (le) s = g.run r (sp 8 (V.nat .i64 0) tm) ((V.nat .i64 0) :: le) s) ∧
  ((∀ (g : LoC) (r : R) (s : S) (tm : T) (le : List V), (qLParts_21_0 g).run r tm (le) s = xLenS (gp 0 tm) fun v2 => xBin ⟨9, []⟩ false .lss (gp 8 tm) v2 fun v3 => g.run r (sp 15 v3 tm) (v3 :: v2 :: (gp 0 tm) :: (gp 8 tm) :: le) s) ∧
  (∀ (g : LoC) (r : R) (s : S) (tm : T) (le : List V), (qLParts_28_0 g).run r tm (le) s = xIdxAddrS 2 (gp 0 tm) (gp 8 tm) fun v3 => xFieldAddr 0 v3 fun v4 => xLoad false 1 v4 s fun v5 s => foldF (r.call 16 [(gp 1 tm), v5] s) fun v6 s => g.run r tm (v6 :: v6 :: v5 :: v4 :: v3 :: (gp 8 tm) :: (gp 0 tm) :: (gp 1 tm) :: le) s))) ∧
  (((∀ (g : LoC) (r : R) (s : S) (tm : T) (le : List V), (qLParts_28_8 g).run r tm ((.bool true) :: le) s = xUn .not (gp 7 tm) fun v9 => g.run r tm (v9 :: v9 :: (gp 7 tm) :: (.bool true) :: le) s) ∧
  (∀ (g : LoC) (r : R) (s : S) (tm : T) (le : List V), (qLParts_28_8 g).run r tm ((.bool false) :: le) s = g.run r tm (Go.Ev.undef :: Go.Ev.undef :: Go.Ev.undef :: (.bool false) :: le) s)) ∧
  ((∀ (g : LoC) (r : R) (s : S) (tm : T) (le : List V), (qLParts_28_11 g).run r tm ((.bool true) :: le) s = g.run r tm (Go.Ev.undef :: Go.Ev.undef :: Go.Ev.undef :: Go.Ev.undef :: Go.Ev.undef :: Go.Ev.undef :: Go.Ev.undef :: Go.Ev.undef :: (.bool true) :: le) s) ∧
  (∀ (g : LoC) (r : R) (s : S) (tm : T) (le : List V), (qLParts_28_11 g).run r tm ((.bool false) :: le) s = xIdxAddrS 2 (gp 0 tm) (gp 8 tm) fun v13 => xFieldAddr 0 v13 fun v14 => xLoad false 1 v14 s fun v15 s => xLenS v15 fun v16 => xBin ⟨9, []⟩ false .gtr v16 (gp 5 tm) fun v18 => g.run r tm (v18 :: (gp 5 tm) :: v16 :: v15 :: v14 :: v13 :: (gp 8 tm) :: (gp 0 tm) :: (.bool false) :: le) s)))))) ∧
  (((((∀ (g : LoC) (r : R) (s : S) (tm : T) (le : List V), (qLParts_28_11 g).run r tm (Go.Ev.undef :: le) s = g.run r tm (Go.Ev.undef :: Go.Ev.undef :: Go.Ev.undef :: Go.Ev.undef :: Go.Ev.undef :: Go.Ev.undef :: Go.Ev.undef :: Go.Ev.undef :: Go.Ev.undef :: le) s) ∧
  ((∀ (g : LoC) (r : R) (s : S) (tm : T) (le : List V) (x0_ x1_ x2_ x3_ x4_ x5_ x6_ x7_ x8_ x9_ x10_ : V), (qLParts_28_19 g).run r tm (x0_ :: x1_ :: x2_ :: x3_ :: x4_ :: x5_ :: x6_ :: x7_ :: x8_ :: x9_ :: x10_ :: (.bool true) :: le) s = xPick x8_ (fun _ => g.run r tm ((V.bool true) :: x0_ :: x1_ :: x2_ :: x3_ :: x4_ :: x5_ :: x6_ :: x7_ :: x8_ :: x9_ :: x10_ :: (.bool true) :: le) s) (fun _ => g.run r tm (x0_ :: x0_ :: x1_ :: x2_ :: x3_ :: x4_ :: x5_ :: x6_ :: x7_ :: x8_ :: x9_ :: x10_ :: (.bool true) :: le) s)) ∧
  (∀ (g : LoC) (r : R) (s : S) (tm : T) (le : List V) (x0_ x1_ x2_ x3_ x4_ x5_ x6_ x7_ x8_ x9_ x10_ : V), (qLParts_28_19 g).run r tm (x0_ :: x1_ :: x2_ :: x3_ :: x4_ :: x5_ :: x6_ :: x7_ :: x8_ :: x9_ :: x10_ :: (.bool false) :: le) s = g.run r tm (Go.Ev.undef :: x0_ :: x1_ :: x2_ :: x3_ :: x4_ :: x5_ :: x6_ :: x7_ :: x8_ :: x9_ :: x10_ :: (.bool false) :: le) s))) ∧
  (((∀ (g : LoC) (r : R) (s : S) (tm : T) (le : List V) (x0_ x1_ x2_ x3_ x4_ x5_ x6_ x7_ x8_ x9_ x10_ x11_ x12_ : V), (qLParts_28_20 g).run r tm (x0_ :: x1_ :: x2_ :: x3_ :: x4_ :: x5_ :: x6_ :: x7_ :: x8_ :: x9_ :: x10_ :: x11_ :: x12_ :: le) s = xPick x12_ (fun _ => g.run r (sp 16 x0_ tm) (x0_ :: x0_ :: x1_ :: x2_ :: x3_ :: x4_ :: x5_ :: x6_ :: x7_ :: x8_ :: x9_ :: x10_ :: x11_ :: x12_ :: le) s) (fun _ => g.run r (sp 16 (V.bool false) tm) ((V.bool false) :: x0_ :: x1_ :: x2_ :: x3_ :: x4_ :: x5_ :: x6_ :: x7_ :: x8_ :: x9_ :: x10_ :: x11_ :: x12_ :: le) s)) ∧
  (∀ (g : LoC) (r : R) (s : S) (tm : T) (le : List V), (qLParts_31_0 g).run r tm (le) s = xIdxAddrS 2 (gp 0 tm) (gp 8 tm) fun v2 => xFieldAddr 0 v2 fun v3 => xLoad false 1 v3 s fun v4 s => xLenS v4 fun v5 => xIdxAddrS 2 (gp 0 tm) (gp 8 tm) fun v8 => xFieldAddr 1 v8 fun v9 => xLoad false 1 v9 s fun v10 s => g.run r (sp 6 v10 (sp 5 v5 tm)) (v10 :: v5 :: v10 :: v9 :: v8 :: (gp 8 tm) :: (gp 0 tm) :: v5 :: v4 :: v3 :: v2 :: (gp 8 tm) :: (gp 0 tm) :: le) s)) ∧
  ((∀ (g : LoC) (r : R) (s : S) (tm : T) (le : List V), (qLParts_32_0 g).run r tm (le) s = g.run r (sp 7 (V.bool true) tm) ((V.bool true) :: le) s) ∧
  (∀ (g : LoC) (r : R) (s : S) (tm : T) (le : List V), (qLParts_34_0 g).run r tm (le) s = xBin ⟨9, []⟩ false .add (gp 8 tm) (V.nat .i64 1) fun v1 => g.run r (sp 8 v1 tm) (v1 :: v1 :: (gp 8 tm) :: le) s)))) ∧
  (((∀ (g : LoC) (r : R) (s : S) (tm : T) (le : List V), (qLParts_36_0 g).run r tm (le) s = foldF (r.call 13 [(gp 0 tm), (gp 1 tm)] s) fun v2 s => xExtract 0 v2 fun v4 => xExtract 1 v2 fun v5 => g.run r (sp 10 v5 (sp 9 v4 tm)) (v5 :: v4 :: v5 :: v4 :: v2 :: v2 :: (gp 1 tm) :: (gp 0 tm) :: le) s) ∧
  ((∀ (g : LoC) (r : R) (s : S) (tm : T) (le : List V), (qLParts_38_0 g).run r tm (le) s = xSlice 3 1 (gp 1 tm) (some (gp 5 tm)) none none s fun v3 => foldF (r.call 13 [(gp 0 tm), v3] s) fun v4 s => xExtract 0 v4 fun v6 => xExtract 1 v4 fun v7 => g.run r (sp 12 v7 (sp 11 v6 tm)) (v7 :: v6 :: v7 :: v6 :: v4 :: v4 :: v3 :: (gp 5 tm) :: (gp 1 tm) :: (gp 0 tm) :: le) s) ∧
  (∀ (g : LoC) (r : R) (s : S) (tm : T) (le : List V), (qLParts_40_0 g).run r tm (le) s = repL [(V.nat .i64 0)] 0 fun l0z => Go.Ev.newRow s 3 l0z false fun a0k _ s => xAppend 3 1 (V.sl a0k 0 0 0 0) (gp 6 tm) s fun v2 s => xAppend 3 1 v2 (gp 11 tm) s fun v4 s => g.run r (sp 13 v4 tm) (v4 :: v4 :: (gp 11 tm) :: v2 :: (gp 6 tm) :: (V.sl a0k 0 0 0 0) :: le) s))) ∧
  (((∀ (g : LoC) (r : R) (s : S) (tm : T) (le : List V), (qLParts_43_0 g).run r tm (le) s = xBin ⟨7, []⟩ true .neq (gp 12 tm) (V.nat .i64 0) fun v1 => g.run r tm (v1 :: v1 :: (gp 12 tm) :: le) s) ∧
  (∀ (g : LoC) (r : R) (s : S) (tm : T) (le : List V), (qLParts_43_3 g).run r tm ((.bool true) :: le) s = g.run r tm (Go.Ev.undef :: Go.Ev.undef :: Go.Ev.undef :: (.bool true) :: le) s)) ∧
  ((∀ (g : LoC) (r : R) (s : S) (tm : T) (le : List V), (qLParts_43_3 g).run r tm ((.bool false) :: le) s = xLenS (gp 13 tm) fun v4 => xBin ⟨9, []⟩ false .gtr v4 (V.nat .i64 200) fun v5 => g.run r tm (v5 :: v4 :: (gp 13 tm) :: (.bool false) :: le) s) ∧
  (∀ (g : LoC) (r : R) (s : S) (tm : T) (le : List V) (x0_ x1_ x2_ x3_ : V), (qLParts_43_6 g).run r tm (x0_ :: x1_ :: x2_ :: x3_ :: le) s = xPick x3_ (fun _ => g.run r (sp 17 (V.bool true) tm) ((V.bool true) :: x0_ :: x1_ :: x2_ :: x3_ :: le) s) (fun _ => g.run r (sp 17 x0_ tm) (x0_ :: x0_ :: x1_ :: x2_ :: x3_ :: le) s)))))) ∧
  ((((∀ (g : LoC) (r : R) (s : S) (tm : T) (le : List V), (qLParts_46_0 g).run r tm (le) s = xBin ⟨7, []⟩ true .eql (gp 10 tm) (V.nat .i64 2) fun v1 => g.run r tm (v1 :: v1 :: (gp 10 tm) :: le) s) ∧
  ((∀ (g : LoC) (r : R) (s : S) (tm : T) (le : List V), (qLParts_46_3 g).run r tm ((.bool true) :: le) s = xLenS (gp 9 tm) fun v4 => xBin ⟨7, []⟩ true .eql v4 (V.nat .i64 0) fun v5 => g.run r tm (v5 :: v4 :: (gp 9 tm) :: (.bool true) :: le) s) ∧
  (∀ (g : LoC) (r : R) (s : S) (tm : T) (le : List V), (qLParts_46_3 g).run r tm ((.bool false) :: le) s = g.run r tm (Go.Ev.undef :: Go.Ev.undef :: Go.Ev.undef :: (.bool false) :: le) s))) ∧
  (((∀ (g : LoC) (r : R) (s : S) (tm : T) (le : List V) (x0_ x1_ x2_ x3_ : V), (qLParts_46_6 g).run r tm (x0_ :: x1_ :: x2_ :: x3_ :: le) s = xPick x3_ (fun _ => g.run r tm (x0_ :: x0_ :: x0_ :: x1_ :: x2_ :: x3_ :: le) s) (fun _ => g.run r tm ((V.bool false) :: (V.bool false) :: x0_ :: x1_ :: x2_ :: x3_ :: le) s)) ∧
  (∀ (g : LoC) (r : R) (s : S) (tm : T) (le : List V), (qLParts_46_8 g).run r tm ((.bool true) :: le) s = foldF (r.call 9 [] s) fun v8 s => g.run r tm (v8 :: (.bool true) :: le) s)) ∧
  ((∀ (g : LoC) (r : R) (s : S) (tm : T) (le : List V), (qLParts_46_8 g).run r tm ((.bool false) :: le) s = g.run r tm (Go.Ev.undef :: (.bool false) :: le) s) ∧
  (∀ (g : LoC) (r : R) (s : S) (tm : T) (le : List V) (x0_ x1_ : V), (qLParts_46_9 g).run r tm (x0_ :: x1_ :: le) s = xPick x1_ (fun _ => g.run r (sp 4 x0_ tm) (x0_ :: x0_ :: x0_ :: x1_ :: le) s) (fun _ => g.run r (sp 4 (V.bool false) tm) ((V.bool false) :: (V.bool false) :: x0_ :: x1_ :: le) s))))) ∧
  (((∀ (g : LoC) (r : R) (s : S) (tm : T) (le : List V), (qLParts_50_0 g).run r tm (le) s = xBin ⟨7, []⟩ true .eql (gp 10 tm) (V.nat .i64 0) fun v1 => g.run r tm (v1 :: v1 :: (gp 10 tm) :: le) s) ∧
  ((∀ (g : LoC) (r : R) (s : S) (tm : T) (le : List V), (qLParts_50_3 g).run r tm ((.bool true) :: le) s = foldF (r.call 15 [(gp 9 tm), (gp 13 tm)] s) fun v5 s => xBin ⟨7, []⟩ true .eql v5 (V.nat .i64 0) fun v6 => g.run r tm (v6 :: v5 :: (gp 13 tm) :: (gp 9 tm) :: (.bool true) :: le) s) ∧
  (∀ (g : LoC) (r : R) (s : S) (tm : T) (le : List V), (qLParts_50_3 g).run r tm ((.bool false) :: le) s = g.run r tm (Go.Ev.undef :: Go.Ev.undef :: Go.Ev.undef :: Go.Ev.undef :: (.bool false) :: le) s))) ∧
  (((∀ (g : LoC) (r : R) (s : S) (tm : T) (le : List V) (x0_ x1_ x2_ x3_ x4_ : V), (qLParts_50_7 g).run r tm (x0_ :: x1_ :: x2_ :: x3_ :: x4_ :: le) s = xPick x4_ (fun _ => g.run r tm (x0_ :: x0_ :: x0_ :: x1_ :: x2_ :: x3_ :: x4_ :: le) s) (fun _ => g.run r tm ((V.bool false) :: (V.bool false) :: x0_ :: x1_ :: x2_ :: x3_ :: x4_ :: le) s)) ∧
  (∀ (g : LoC) (r : R) (s : S) (tm : T) (le : List V), (qLParts_50_9 g).run r tm ((.bool true) :: le) s = foldF (r.call 9 [] s) fun v9 s => g.run r tm (v9 :: (.bool true) :: le) s)) ∧
  ((∀ (g : LoC) (r : R) (s : S) (tm : T) (le : List V), (qLParts_50_9 g).run r tm ((.bool false) :: le) s = g.run r tm (Go.Ev.undef :: (.bool false) :: le) s) ∧
  (∀ (g : LoC) (r : R) (s : S) (tm : T) (le : List V) (x0_ x1_ : V), (qLParts_50_10 g).run r tm (x0_ :: x1_ :: le) s = xPick x1_ (fun _ => g.run r (sp 4 x0_ tm) (x0_ :: x0_ :: x0_ :: x1_ :: le) s) (fun _ => g.run r (sp 4 (V.bool false) tm) ((V.bool false) :: (V.bool false) :: x0_ :: x1_ :: le) s))))))))) := by
  and_intros <;> first | trivial | (intros; kernel_rfl)
theorem chLParts_1_1 : Ch pc0 fiLParts uLParts_1 1 [5] nilL := chE allLPartsx.1.1.1.1.1.1.2
theorem chLParts_1_0 : Ch pc0 fiLParts uLParts_1 0 [] (qLParts_1_0 nilL) := chS rfl allLPartsx.1.1.1.1.1.2.1 chLParts_1_1
theorem rgLParts_1 (r : R) (s : S) (tm : T) : cLParts_1.run r tm s = (qLParts_1_0 nilL).run r tm [] s := reg_run allLPartsx.1.1.1.1.1.1.1 chLParts_1_0 r s tm
theorem chLParts_4_21 : Ch pc0 fiLParts uLParts_4 21 [35, 34, 33, 32, 31, 30, 29, 28, 27, 26, 25, 24, 23, 22, 21, 20, 19, 18, 17, 16, 15] nilL := chE allLPartsx.1.1.1.1.2.1.1
theorem chLParts_4_20 : Ch pc0 fiLParts uLParts_4 20 [34, 33, 32, 31, 30, 29, 28, 27, 26, 25, 24, 23, 22, 21, 20, 19, 18, 17, 16, 15] (qLParts_4_20 nilL) := chS rfl allLPartsx.1.1.1.1.2.1.2 chLParts_4_21
theorem chLParts_4_17 : Ch pc0 fiLParts uLParts_4 17 [31, 30, 29, 28, 27, 26, 25, 24, 23, 22, 21, 20, 19, 18, 17, 16, 15] (qLParts_4_17 (qLParts_4_20 nilL)) := chS rfl allLPartsx.1.1.1.1.2.2.1 chLParts_4_20
theorem chLParts_4_15 : Ch pc0 fiLParts uLParts_4 15 [29, 28, 27, 26, 25, 24, 23, 22, 21, 20, 19, 18, 17, 16, 15] (qLParts_4_15 (qLParts_4_17 (qLParts_4_20 nilL))) := chS rfl allLPartsx.1.1.1.1.2.2.2.1 chLParts_4_17
theorem chLParts_4_12 : Ch pc0 fiLParts uLParts_4 12 [26, 25, 24, 23, 22, 21, 20, 19, 18, 17, 16, 15] (qLParts_4_12 (qLParts_4_15 (qLParts_4_17 (qLParts_4_20 nilL)))) := chS rfl allLPartsx.1.1.1.1.2.2.2.2 chLParts_4_15
theorem chLParts_4_10 : Ch pc0 fiLParts uLParts_4 10 [24, 23, 22, 21, 20, 19, 18, 17, 16, 15] (qLParts_4_10 (qLParts_4_12 (qLParts_4_15 (qLParts_4_17 (qLParts_4_20 nilL))))) := chS rfl allLPartsx.1.1.1.2.1.1.1 chLParts_4_12
theorem chLParts_4_7 : Ch pc0 fiLParts uLParts_4 7 [21, 20, 19, 18, 17, 16, 15] (qLParts_4_7 (qLParts_4_10 (qLParts_4_12 (qLParts_4_15 (qLParts_4_17 (qLParts_4_20 nilL)))))) := chS rfl allLPartsx.1.1.1.2.1.1.2 chLParts_4_10
theorem chLParts_4_5 : Ch pc0 fiLParts uLParts_4 5 [19, 18, 17, 16, 15] (qLParts_4_5 (qLParts_4_7 (qLParts_4_10 (qLParts_4_12 (qLParts_4_15 (qLParts_4_17 (qLParts_4_20 nilL))))))) := chS rfl allLPartsx.1.1.1.2.1.2.1 chLParts_4_7
theorem chLParts_4_3 : Ch pc0 fiLParts uLParts_4 3 [17, 16, 15] (qLParts_4_3 (qLParts_4_5 (qLParts_4_7 (qLParts_4_10 (qLParts_4_12 (qLParts_4_15 (qLParts_4_17 (qLParts_4_20 nilL)))))))) := chS rfl allLPartsx.1.1.1.2.1.2.2 chLParts_4_5
theorem chLParts_4_0 : Ch pc0 fiLParts uLParts_4 0 [] (qLParts_4_0 (qLParts_4_3 (qLParts_4_5 (qLParts_4_7 (qLParts_4_10 (qLParts_4_12 (qLParts_4_15 (qLParts_4_17 (qLParts_4_20 nilL))))))))) := chS rfl allLPartsx.1.1.1.2.2.1.1 chLParts_4_3
theorem rgLParts_4 (r : R) (s : S) (tm : T) : cLParts_4.run r tm s = (qLParts_4_0 (qLParts_4_3 (qLParts_4_5 (qLParts_4_7 (qLParts_4_10 (qLParts_4_12 (qLParts_4_15 (qLParts_4_17 (qLParts_4_20 nilL))))))))).run r tm [] s := reg_run allLPartsx.1.1.1.1.1.2.2 chLParts_4_0 r s tm
theorem chLParts_7_2 : Ch pc0 fiLParts uLParts_7 2 [5, 36] nilL := chE allLPartsx.1.1.1.2.2.2.1
theorem chLParts_7_0 : Ch pc0 fiLParts uLParts_7 0 [] (qLParts_7_0 nilL) := chS rfl allLPartsx.1.1.1.2.2.2.2.1 chLParts_7_2
theorem rgLParts_7 (r : R) (s : S) (tm : T) : cLParts_7.run r tm s = (qLParts_7_0 nilL).run r tm [] s := reg_run allLPartsx.1.1.1.2.2.1.2 chLParts_7_0 r s tm
theorem chLParts_11_4 : DCh pc0 fiLParts uLParts_11 4 [7, 6, 38, 37] nilL := dchE allLPartsx.1.1.2.1.1.1.1
theorem chLParts_11_0 : DCh pc0 fiLParts uLParts_11 0 [] (qLParts_11_0 nilL) := dchS rfl allLPartsx.1.1.2.1.1.1.2 chLParts_11_4
theorem rgLParts_11 (r : R) (s : S) (tm : T) : cLParts_11.run r tm s = (qLParts_11_0 nilL).run r.det tm [] s := reg_drun allLPartsx.1.1.1.2.2.2.2.2 chLParts_11_0 r s tm
theorem chLParts_13_1 : Ch pc0 fiLParts uLParts_13 1 [8] nilL := chE allLPartsx.1.1.2.1.1.2.2
theorem chLParts_13_0 : Ch pc0 fiLParts uLParts_13 0 [] (qLParts_13_0 nilL) := chS rfl allLPartsx.1.1.2.1.2.1.1 chLParts_13_1
theorem rgLParts_13 (r : R) (s : S) (tm : T) : cLParts_13.run r tm s = (qLParts_13_0 nilL).run r tm [] s := reg_run allLPartsx.1.1.2.1.1.2.1 chLParts_13_0 r s tm
theorem chLParts_16_1 : Ch pc0 fiLParts uLParts_16 1 [9] nilL := chE allLPartsx.1.1.2.1.2.2.1
theorem chLParts_16_0 : Ch pc0 fiLParts uLParts_16 0 [] (qLParts_16_0 nilL) := chS rfl allLPartsx.1.1.2.1.2.2.2.1 chLParts_16_1
theorem rgLParts_16 (r : R) (s : S) (tm : T) : cLParts_16.run r tm s = (qLParts_16_0 nilL).run r tm [] s := reg_run allLPartsx.1.1.2.1.2.1.2 chLParts_16_0 r s tm
theorem chLParts_21_4 : Ch pc0 fiLParts uLParts_21 4 [42, 41, 40, 39] nilL := chE allLPartsx.1.1.2.2.1.1.1
theorem chLParts_21_0 : Ch pc0 fiLParts uLParts_21 0 [] (qLParts_21_0 nilL) := chS rfl allLPartsx.1.1.2.2.1.1.2 chLParts_21_4
theorem rgLParts_21 (r : R) (s : S) (tm : T) : cLParts_21.run r tm s = (qLParts_21_0 nilL).run r tm [] s := reg_run allLPartsx.1.1.2.1.2.2.2.2 chLParts_21_0 r s tm
theorem chLParts_28_21 : Ch pc0 fiLParts uLParts_28 21 [65, 64, 63, 62, 61, 60, 59, 58, 57, 56, 55, 54, 53, 52, 51, 50, 49, 48, 47, 46, 45] nilL := chE allLPartsx.1.1.2.2.1.2.2
theorem chLParts_28_20 : Ch pc0 fiLParts uLParts_28 20 [64, 63, 62, 61, 60, 59, 58, 57, 56, 55, 54, 53, 52, 51, 50, 49, 48, 47, 46, 45] (qLParts_28_20 nilL) := chS rfl allLPartsx.1.1.2.2.2.1.1 chLParts_28_21
theorem chLParts_28_19 : Ch pc0 fiLParts uLParts_28 19 [63, 62, 61, 60, 59, 58, 57, 56, 55, 54, 53, 52, 51, 50, 49, 48, 47, 46, 45] (qLParts_28_19 (qLParts_28_20 nilL)) := chS rfl allLPartsx.1.1.2.2.2.1.2 chLParts_28_20
theorem chLParts_28_11 : Ch pc0 fiLParts uLParts_28 11 [55, 54, 53, 52, 51, 50, 49, 48, 47, 46, 45] (qLParts_28_11 (qLParts_28_19 (qLParts_28_20 nilL))) := chS rfl allLPartsx.1.1.2.2.2.2.1 chLParts_28_19
theorem chLParts_28_8 : Ch pc0 fiLParts uLParts_28 8 [52, 51, 50, 49, 48, 47, 46, 45] (qLParts_28_8 (qLParts_28_11 (qLParts_28_19 (qLParts_28_20 nilL)))) := chS rfl allLPartsx.1.1.2.2.2.2.2.1 chLParts_28_11
theorem chLParts_28_0 : Ch pc0 fiLParts uLParts_28 0 [] (qLParts_28_0 (qLParts_28_8 (qLParts_28_11 (qLParts_28_19 (qLParts_28_20 nilL))))) := chS rfl allLPartsx.1.1.2.2.2.2.2.2 chLParts_28_8
theorem rgLParts_28 (r : R) (s : S) (tm : T) : cLParts_28.run r tm s = (qLParts_28_0 (qLParts_28_8 (qLParts_28_11 (qLParts_28_19 (qLParts_28_20 nilL))))).run r tm [] s := reg_run allLPartsx.1.1.2.2.1.2.1 chLParts_28_0 r s tm
theorem chLParts_31_13 : DCh pc0 fiLParts uLParts_31 13 [7, 6, 76, 75, 74, 73, 72, 71, 70, 69, 68, 67, 66] nilL := dchE allLPartsx.1.2.1.1.1.1.2
theorem chLParts_31_0 : DCh pc0 fiLParts uLParts_31 0 [] (qLParts_31_0 nilL) := dchS rfl allLPartsx.1.2.1.1.1.2.1 chLParts_31_13
theorem rgLParts_31 (r : R) (s : S) (tm : T) : cLParts_31.run r tm s = (qLParts_31_0 nilL).run r.det tm [] s := reg_drun allLPartsx.1.2.1.1.1.1.1 chLParts_31_0 r s tm
theorem chLParts_32_1 : Ch pc0 fiLParts uLParts_32 1 [8] nilL := chE allLPartsx.1.2.1.1.2.1.1
theorem chLParts_32_0 : Ch pc0 fiLParts uLParts_32 0 [] (qLParts_32_0 nilL) := chS rfl allLPartsx.1.2.1.1.2.1.2 chLParts_32_1
theorem rgLParts_32 (r : R) (s : S) (tm : T) : cLParts_32.run r tm s = (qLParts_32_0 nilL).run r tm [] s := reg_run allLPartsx.1.2.1.1.1.2.2 chLParts_32_0 r s tm
theorem chLParts_34_3 : Ch pc0 fiLParts uLParts_34 3 [9, 44, 43] nilL := chE allLPartsx.1.2.1.1.2.2.2.1
theorem chLParts_34_0 : Ch pc0 fiLParts uLParts_34 0 [] (qLParts_34_0 nilL) := chS rfl allLPartsx.1.2.1.1.2.2.2.2 chLParts_34_3
theorem rgLParts_34 (r : R) (s : S) (tm : T) : cLParts_34.run r tm s = (qLParts_34_0 nilL).run r tm [] s := reg_run allLPartsx.1.2.1.1.2.2.1 chLParts_34_0 r s tm
theorem chLParts_36_8 : Ch pc0 fiLParts uLParts_36 8 [11, 10, 82, 81, 77, 80, 79, 78] nilL := chE allLPartsx.1.2.1.2.1.1.2
theorem chLParts_36_0 : Ch pc0 fiLParts uLParts_36 0 [] (qLParts_36_0 nilL) := chS rfl allLPartsx.1.2.1.2.1.2.1 chLParts_36_8
theorem rgLParts_36 (r : R) (s : S) (tm : T) : cLParts_36.run r tm s = (qLParts_36_0 nilL).run r tm [] s := reg_run allLPartsx.1.2.1.2.1.1.1 chLParts_36_0 r s tm
theorem chLParts_38_10 : Ch pc0 fiLParts uLParts_38 10 [13, 12, 90, 89, 83, 88, 87, 86, 85, 84] nilL := chE allLPartsx.1.2.1.2.2.1.1
theorem chLParts_38_0 : Ch pc0 fiLParts uLParts_38 0 [] (qLParts_38_0 nilL) := chS rfl allLPartsx.1.2.1.2.2.1.2 chLParts_38_10
theorem rgLParts_38 (r : R) (s : S) (tm : T) : cLParts_38.run r tm s = (qLParts_38_0 nilL).run r tm [] s := reg_run allLPartsx.1.2.1.2.1.2.2 chLParts_38_0 r s tm
theorem chLParts_40_6 : Ch pc0 fiLParts uLParts_40 6 [14, 95, 94, 93, 92, 91] nilL := chE allLPartsx.1.2.1.2.2.2.2.1
theorem chLParts_40_0 : Ch pc0 fiLParts uLParts_40 0 [] (qLParts_40_0 nilL) := chS rfl allLPartsx.1.2.1.2.2.2.2.2 chLParts_40_6
theorem rgLParts_40 (r : R) (s : S) (tm : T) : cLParts_40.run r tm s = (qLParts_40_0 nilL).run r tm [] s := reg_run allLPartsx.1.2.1.2.2.2.1 chLParts_40_0 r s tm
theorem chLParts_43_7 : Ch pc0 fiLParts uLParts_43 7 [102, 101, 100, 99, 98, 97, 96] nilL := chE allLPartsx.1.2.2.1.1.1.2
theorem chLParts_43_6 : Ch pc0 fiLParts uLParts_43 6 [101, 100, 99, 98, 97, 96] (qLParts_43_6 nilL) := chS rfl allLPartsx.1.2.2.1.1.2.1 chLParts_43_7
theorem chLParts_43_3 : Ch pc0 fiLParts uLParts_43 3 [98, 97, 96] (qLParts_43_3 (qLParts_43_6 nilL)) := chS rfl allLPartsx.1.2.2.1.1.2.2 chLParts_43_6
theorem chLParts_43_0 : Ch pc0 fiLParts uLParts_43 0 [] (qLParts_43_0 (qLParts_43_3 (qLParts_43_6 nilL))) := chS rfl allLPartsx.1.2.2.1.2.1.1 chLParts_43_3
theorem rgLParts_43 (r : R) (s : S) (tm : T) : cLParts_43.run r tm s = (qLParts_43_0 (qLParts_43_3 (qLParts_43_6 nilL))).run r tm [] s := reg_run allLPartsx.1.2.2.1.1.1.1 chLParts_43_0 r s tm
theorem chLParts_46_11 : Ch pc0 fiLParts uLParts_46 11 [5, 112, 111, 110, 109, 108, 107, 106, 105, 104, 103] nilL := chE allLPartsx.1.2.2.1.2.2.1
theorem chLParts_46_9 : Ch pc0 fiLParts uLParts_46 9 [111, 110, 109, 108, 107, 106, 105, 104, 103] (qLParts_46_9 nilL) := chS rfl allLPartsx.1.2.2.1.2.2.2.1 chLParts_46_11
theorem chLParts_46_8 : Ch pc0 fiLParts uLParts_46 8 [110, 109, 108, 107, 106, 105, 104, 103] (qLParts_46_8 (qLParts_46_9 nilL)) := chS rfl allLPartsx.1.2.2.1.2.2.2.2 chLParts_46_9
theorem chLParts_46_6 : Ch pc0 fiLParts uLParts_46 6 [108, 107, 106, 105, 104, 103] (qLParts_46_6 (qLParts_46_8 (qLParts_46_9 nilL))) := chS rfl allLPartsx.1.2.2.2.1.1.1 chLParts_46_8
theorem chLParts_46_3 : Ch pc0 fiLParts uLParts_46 3 [105, 104, 103] (qLParts_46_3 (qLParts_46_6 (qLParts_46_8 (qLParts_46_9 nilL)))) := chS rfl allLPartsx.1.2.2.2.1.1.2 chLParts_46_6
theorem chLParts_46_0 : Ch pc0 fiLParts uLParts_46 0 [] (qLParts_46_0 (qLParts_46_3 (qLParts_46_6 (qLParts_46_8 (qLParts_46_9 nilL))))) := chS rfl allLPartsx.1.2.2.2.1.2.1 chLParts_46_3
theorem rgLParts_46 (r : R) (s : S) (tm : T) : cLParts_46.run r tm s = (qLParts_46_0 (qLParts_46_3 (qLParts_46_6 (qLParts_46_8 (qLParts_46_9 nilL))))).run r tm [] s := reg_run allLPartsx.1.2.2.1.2.1.2 chLParts_46_0 r s tm
theorem chLParts_50_12 : Ch pc0 fiLParts uLParts_50 12 [5, 123, 122, 121, 120, 119, 118, 117, 116, 115, 114, 113] nilL := chE allLPartsx.1.2.2.2.1.2.2.2
theorem chLParts_50_10 : Ch pc0 fiLParts uLParts_50 10 [122, 121, 120, 119, 118, 117, 116, 115, 114, 113] (qLParts_50_10 nilL) := chS rfl allLPartsx.1.2.2.2.2.1.1 chLParts_50_12
theorem chLParts_50_9 : Ch pc0 fiLParts uLParts_50 9 [121, 120, 119, 118, 117, 116, 115, 114, 113] (qLParts_50_9 (qLParts_50_10 nilL)) := chS rfl allLPartsx.1.2.2.2.2.1.2 chLParts_50_10
theorem chLParts_50_7 : Ch pc0 fiLParts uLParts_50 7 [119, 118, 117, 116, 115, 114, 113] (qLParts_50_7 (qLParts_50_9 (qLParts_50_10 nilL))) := chS rfl allLPartsx.1.2.2.2.2.2.1 chLParts_50_9
theorem chLParts_50_3 : Ch pc0 fiLParts uLParts_50 3 [115, 114, 113] (qLParts_50_3 (qLParts_50_7 (qLParts_50_9 (qLParts_50_10 nilL)))) := chS rfl allLPartsx.1.2.2.2.2.2.2.1 chLParts_50_7
theorem chLParts_50_0 : Ch pc0 fiLParts uLParts_50 0 [] (qLParts_50_0 (qLParts_50_3 (qLParts_50_7 (qLParts_50_9 (qLParts_50_10 nilL))))) := chS rfl allLPartsx.1.2.2.2.2.2.2.2 chLParts_50_3
theorem rgLParts_50 (r : R) (s : S) (tm : T) : cLParts_50.run r tm s = (qLParts_50_0 (qLParts_50_3 (qLParts_50_7 (qLParts_50_9 (qLParts_50_10 nilL))))).run r tm [] s := reg_run allLPartsx.1.2.2.2.1.2.2.1 chLParts_50_0 r s tm
theorem szLParts_18 : sizeC uLParts_18 = 59 := allLPartsx.2.1
theorem lpLParts_18 : type_of% allLPartsx.2.2.1 := allLPartsx.2.2.1
theorem allLParts : type_of% (And.intro rgLParts_1 (And.intro rgLParts_4 (And.intro rgLParts_7 (And.intro rgLParts_11 (And.intro rgLParts_13 (And.intro rgLParts_16 (And.intro rgLParts_21 (And.intro rgLParts_28 (And.intro rgLParts_31 (And.intro rgLParts_32 (And.intro rgLParts_34 (And.intro rgLParts_36 (And.intro rgLParts_38 (And.intro rgLParts_40 (And.intro rgLParts_43 (And.intro rgLParts_46 (And.intro rgLParts_50 allLPartsx.2.2.2))))))))))))))))) := (And.intro rgLParts_1 (And.intro rgLParts_4 (And.intro rgLParts_7 (And.intro rgLParts_11 (And.intro rgLParts_13 (And.intro rgLParts_16 (And.intro rgLParts_21 (And.intro rgLParts_28 (And.intro rgLParts_31 (And.intro rgLParts_32 (And.intro rgLParts_34 (And.intro rgLParts_36 (And.intro rgLParts_38 (And.intro rgLParts_40 (And.intro rgLParts_43 (And.intro rgLParts_46 (And.intro rgLParts_50 allLPartsx.2.2.2)))))))))))))))))
/- abugida/abugidalaw40.far: parameters 1, slots in the frame: [(0, 0), (1, 1), (2, 2)] -/
def fiFar : FI := ⟨56, 6, 4⟩
noncomputable def bodyFar : Code := bodyOf Tryz.prog 12
noncomputable def uFar_1 : Code := subC [0] bodyFar
noncomputable def cFar_1 : CoC := comp pc0 fiFar uFar_1
noncomputable def qFar_1_0 : LoC → LoC := qOf pc0 fiFar uFar_1 0 1 []
noncomputable def uFar_3 : Code := subC [1, 0] bodyFar
noncomputable def cFar_3 : CoC := comp pc0 fiFar uFar_3
noncomputable def qFar_3_0 : LoC → LoC := qOf pc0 fiFar uFar_3 0 4 []
noncomputable def cFar_0 : CoC := comp pc0 fiFar bodyFar
noncomputable def finFar : T → S → A := finN (resC pc0 fiFar (resOf Tryz.prog 12)).run
theorem allFarx :
  (((regPlain uFar_1 = true ∧
  (((regOps uFar_1).drop 1).isEmpty = true ∧
  pushes (((regOps uFar_1).drop 0).take 1) [] = [3])) ∧
  (regPlain uFar_3 = true ∧
  (((regOps uFar_3).drop 4).isEmpty = true ∧
  pushes (((regOps uFar_3).drop 0).take 4) [] = [3, 6, 5, 4])))) ∧ (True) ∧ (True) ∧ ((((∀ (r : R) (s : S) (x0 : V), (fnC pc0 12).run r [x0] s = outF (bindR (fun tm s => finFar tm s) (cFar_0.run r (sp 0 x0 T.new) s))) ∧
  (∀ (s : S) (tm : T), finFar tm s = finV (gp 240 tm) (resV [(gp 2 tm)] s))) ∧
  ((∀ (r : R) (s : S) (tm : T), cFar_0.run r tm s = seqA (fun tm s => seqA (fun tm s => .ret tm s) (cFar_3.run r tm s)) (cFar_1.run r tm s)) ∧
  ((∀ (g : LoC) (r : R) (s : S) (tm : T) (le : List V), (qFar_1_0 g).run r tm (le) s = g.run r (sp 2 (V.bool false) tm) ((V.bool false) :: le) s) ∧
  (∀ (g : LoC) (r : R) (s : S) (tm : T) (le : List V), (qFar_3_0 g).run r tm (le) s = xLenS (gp 0 tm) fun v1 => xBin ⟨9, []⟩ false .gtr v1 (V.nat .i64 250) fun v2 => g.run r (sp 2 v2 tm) (v2 :: v2 :: v1 :: (gp 0 tm) :: le) s))))) := by
  and_intros <;> first | trivial | (intros; kernel_rfl)
theorem chFar_1_1 : Ch pc0 fiFar uFar_1 1 [3] nilL := chE allFarx.1.1.2.1
theorem chFar_1_0 : Ch pc0 fiFar uFar_1 0 [] (qFar_1_0 nilL) := chS rfl allFarx.1.1.2.2 chFar_1_1
theorem rgFar_1 (r : R) (s : S) (tm : T) : cFar_1.run r tm s = (qFar_1_0 nilL).run r tm [] s := reg_run allFarx.1.1.1 chFar_1_0 r s tm
theorem chFar_3_4 : Ch pc0 fiFar uFar_3 4 [3, 6, 5, 4] nilL := chE allFarx.1.2.2.1
theorem chFar_3_0 : Ch pc0 fiFar uFar_3 0 [] (qFar_3_0 nilL) := chS rfl allFarx.1.2.2.2 chFar_3_4
theorem rgFar_3 (r : R) (s : S) (tm : T) : cFar_3.run r tm s = (qFar_3_0 nilL).run r tm [] s := reg_run allFarx.1.2.1 chFar_3_0 r s tm
theorem allFar : type_of% (And.intro rgFar_1 (And.intro rgFar_3 allFarx.2.2.2)) := (And.intro rgFar_1 (And.intro rgFar_3 allFarx.2.2.2))
/- abugida/translit.Apply: parameters 2, slots in the frame: [(0, 0), (1, 1), (2, 2), (3, 3), (4, 4), (5, 5), (6, 6), (7, 7), (8, 8), (9, 9), (10, 10), (11, 11), (12, 24), (13, 30), (14, 38), (15, 51), (16, 56), (17, 64), (18, 82)] -/
def fiApply : FI := ⟨14507091314321806566879232, 84, 4⟩
noncomputable def bodyApply : Code := bodyOf Tryz.prog 13
noncomputable def uApply_1 : Code := subC [0] bodyApply
noncomputable def cApply_1 : CoC := comp pc0 fiApply uApply_1
noncomputable def qApply_1_0 : LoC → LoC := qOf pc0 fiApply uApply_1 0 2 []
noncomputable def uApply_4 : Code := subC [1, 0, 0] bodyApply
noncomputable def cApply_4 : CoC := comp pc0 fiApply uApply_4
noncomputable def qApply_4_12 : LoC → LoC := qOf pc0 fiApply uApply_4 12 1 [24, 23, 22, 21, 20, 19, 18, 17, 16, 15, 14, 13]
noncomputable def qApply_4_9 : LoC → LoC := qOf pc0 fiApply uApply_4 9 3 [21, 20, 19, 18, 17, 16, 15, 14, 13]
noncomputable def qApply_4_7 : LoC → LoC := qOf pc0 fiApply uApply_4 7 2 [19, 18, 17, 16, 15, 14, 13]
noncomputable def qApply_4_4 : LoC → LoC := qOf pc0 fiApply uApply_4 4 3 [16, 15, 14, 13]
noncomputable def qApply_4_0 : LoC → LoC := qOf pc0 fiApply uApply_4 0 4 []
noncomputable def uApply_7 : Code := subC [1, 0, 1, 0, 0] bodyApply
noncomputable def cApply_7 : CoC := comp pc0 fiApply uApply_7
noncomputable def qApply_7_0 : LoC → LoC := qOf pc0 fiApply uApply_7 0 2 []
noncomputable def uApply_11 : Code := subC [1, 1, 0] bodyApply
noncomputable def cApply_11 : CoC := comp pc0 fiApply uApply_11
noncomputable def qApply_11_0 : LoC → LoC := qOf pc0 fiApply uApply_11 0 3 []
noncomputable def uApply_14 : Code := subC [1, 1, 1, 0, 0] bodyApply
noncomputable def cApply_14 : CoC := comp pc0 fiApply uApply_14
noncomputable def qApply_14_0 : LoC → LoC := qOf pc0 fiApply uApply_14 0 1 []
noncomputable def uApply_19 : Code := subC [1, 1, 1, 0, 1, 0, 0, 0, 0] bodyApply
noncomputable def cApply_19 : CoC := comp pc0 fiApply uApply_19
noncomputable def qApply_19_0 : LoC → LoC := qOf pc0 fiApply uApply_19 0 4 []
noncomputable def uApply_25 : Code := subC [1, 1, 1, 0, 1, 0, 0, 1, 0, 0] bodyApply
noncomputable def cApply_25 : CoC := comp pc0 fiApply uApply_25
noncomputable def qApply_25_0 : LoC → LoC := qOf pc0 fiApply uApply_25 0 4 []
noncomputable def uApply_27 : Code := subC [1, 1, 1, 0, 1, 0, 0, 1, 0, 1, 0] bodyApply
noncomputable def cApply_27 : CoC := comp pc0 fiApply uApply_27
noncomputable def qApply_27_0 : LoC → LoC := qOf pc0 fiApply uApply_27 0 2 []
noncomputable def uApply_30 : Code := subC [1, 1, 1, 0, 1, 0, 0, 1, 0, 1, 1, 0, 0] bodyApply
noncomputable def cApply_30 : CoC := comp pc0 fiApply uApply_30
noncomputable def qApply_30_0 : LoC → LoC := qOf pc0 fiApply uApply_30 0 2 []
noncomputable def uApply_35 : Code := subC [1, 1, 1, 0, 1, 0, 0, 1, 0, 1, 1, 0, 1, 0, 0, 0, 0] bodyApply
noncomputable def cApply_35 : CoC := comp pc0 fiApply uApply_35
noncomputable def qApply_35_0 : LoC → LoC := qOf pc0 fiApply uApply_35 0 4 []
noncomputable def uApply_43 : Code := subC [1, 1, 1, 0, 1, 0, 0, 1, 0, 1, 1, 0, 1, 0, 0, 1, 0, 0, 0, 0] bodyApply
noncomputable def cApply_43 : CoC := comp pc0 fiApply uApply_43
noncomputable def qApply_43_0 : LoC → LoC := dqOf pc0 fiApply uApply_43 0 10 []
noncomputable def uApply_45 : Code := subC [1, 1, 1, 0, 1, 0, 0, 1, 0, 1, 1, 0, 1, 0, 0, 1, 0, 0, 0, 1, 0] bodyApply
noncomputable def cApply_45 : CoC := comp pc0 fiApply uApply_45
noncomputable def qApply_45_0 : LoC → LoC := qOf pc0 fiApply uApply_45 0 2 []
noncomputable def uApply_50 : Code := subC [1, 1, 1, 0, 1, 0, 0, 1, 0, 1, 1, 0, 1, 0, 0, 1, 0, 0, 1, 0] bodyApply
noncomputable def cApply_50 : CoC := comp pc0 fiApply uApply_50
noncomputable def qApply_50_0 : LoC → LoC := qOf pc0 fiApply uApply_50 0 5 []
noncomputable def uApply_52 : Code := subC [1, 1, 1, 0, 1, 0, 0, 1, 0, 1, 1, 0, 1, 0, 0, 1, 0, 0, 1, 1, 0] bodyApply
noncomputable def cApply_52 : CoC := comp pc0 fiApply uApply_52
noncomputable def qApply_52_0 : LoC → LoC := qOf pc0 fiApply uApply_52 0 8 []
noncomputable def uApply_54 : Code := subC [1, 1, 1, 0, 1, 0, 0, 1, 0, 1, 1, 0, 1, 0, 0, 1, 1] bodyApply
noncomputable def cApply_54 : CoC := comp pc0 fiApply uApply_54
noncomputable def qApply_54_0 : LoC → LoC := qOf pc0 fiApply uApply_54 0 3 []
noncomputable def uApply_32 : Code := subC [1, 1, 1, 0, 1, 0, 0, 1, 0, 1, 1, 0, 1, 0] bodyApply
noncomputable def cApply_32 : CoC := comp pc0 fiApply uApply_32
noncomputable def uApply_57 : Code := subC [1, 1, 1, 0, 1, 0, 0, 1, 0, 1, 1, 1, 0, 0] bodyApply
noncomputable def cApply_57 : CoC := comp pc0 fiApply uApply_57
noncomputable def qApply_57_0 : LoC → LoC := qOf pc0 fiApply uApply_57 0 2 []
noncomputable def uApply_59 : Code := subC [1, 1, 1, 0, 1, 0, 0, 1, 0, 1, 1, 1, 0, 1, 0] bodyApply
noncomputable def cApply_59 : CoC := comp pc0 fiApply uApply_59
noncomputable def qApply_59_0 : LoC → LoC := qOf pc0 fiApply uApply_59 0 8 []
noncomputable def uApply_60 : Code := subC [1, 1, 1, 0, 1, 0, 0, 1, 0, 1, 1, 1, 0, 1, 1] bodyApply
noncomputable def cApply_60 : CoC := comp pc0 fiApply uApply_60
noncomputable def qApply_60_0 : LoC → LoC := qOf pc0 fiApply uApply_60 0 8 []
noncomputable def uApply_61 : Code := subC [1, 1, 1, 0, 1, 0, 0, 1, 0, 1, 1, 1, 1] bodyApply
noncomputable def cApply_61 : CoC := comp pc0 fiApply uApply_61
noncomputable def qApply_61_0 : LoC → LoC := qOf pc0 fiApply uApply_61 0 2 []
noncomputable def uApply_16 : Code := subC [1, 1, 1, 0, 1, 0] bodyApply
noncomputable def cApply_16 : CoC := comp pc0 fiApply uApply_16
noncomputable def uApply_64 : Code := subC [1, 1, 1, 1, 0, 0] bodyApply
noncomputable def cApply_64 : CoC := comp pc0 fiApply uApply_64
noncomputable def qApply_64_0 : LoC → LoC := qOf pc0 fiApply uApply_64 0 3 []
noncomputable def uApply_67 : Code := subC [1, 1, 1, 1, 0, 1, 0, 0] bodyApply
noncomputable def cApply_67 : CoC := comp pc0 fiApply uApply_67
noncomputable def qApply_67_0 : LoC → LoC := qOf pc0 fiApply uApply_67 0 2 []
noncomputable def uApply_71 : Code := subC [1, 1, 1, 1, 1, 0] bodyApply
noncomputable def cApply_71 : CoC := comp pc0 fiApply uApply_71
noncomputable def qApply_71_0 : LoC → LoC := qOf pc0 fiApply uApply_71 0 3 []
noncomputable def cApply_0 : CoC := comp pc0 fiApply bodyApply
noncomputable def finApply : T → S → A := finN (resC pc0 fiApply (resOf Tryz.prog 13)).run
theorem allApplyx :
  (((((((regPlain uApply_1 = true ∧
  ((regOps uApply_1).drop 2).isEmpty = true) ∧
  (pushes (((regOps uApply_1).drop 0).take 2) [] = [6, 5] ∧
  regPlain uApply_4 = true)) ∧
  ((((regOps uApply_4).drop 13).isEmpty = true ∧
  pushes (((regOps uApply_4).drop 12).take 1) [24, 23, 22, 21, 20, 19, 18, 17, 16, 15, 14, 13] = [25, 24, 23, 22, 21, 20, 19, 18, 17, 16, 15, 14, 13]) ∧
  (pushes (((regOps uApply_4).drop 9).take 3) [21, 20, 19, 18, 17, 16, 15, 14, 13] = [24, 23, 22, 21, 20, 19, 18, 17, 16, 15, 14, 13] ∧
  pushes (((regOps uApply_4).drop 7).take 2) [19, 18, 17, 16, 15, 14, 13] = [21, 20, 19, 18, 17, 16, 15, 14, 13]))) ∧
  (((pushes (((regOps uApply_4).drop 4).take 3) [16, 15, 14, 13] = [19, 18, 17, 16, 15, 14, 13] ∧
  pushes (((regOps uApply_4).drop 0).take 4) [] = [16, 15, 14, 13]) ∧
  (regPlain uApply_7 = true ∧
  ((regOps uApply_7).drop 2).isEmpty = true)) ∧
  ((pushes (((regOps uApply_7).drop 0).take 2) [] = [6, 5] ∧
  regPlain uApply_11 = true) ∧
  (((regOps uApply_11).drop 3).isEmpty = true ∧
  (pushes (((regOps uApply_11).drop 0).take 3) [] = [7, 27, 26] ∧
  regPlain uApply_14 = true))))) ∧
  ((((((regOps uApply_14).drop 1).isEmpty = true ∧
  pushes (((regOps uApply_14).drop 0).take 1) [] = [8]) ∧
  (regPlain uApply_19 = true ∧
  ((regOps uApply_19).drop 4).isEmpty = true)) ∧
  ((pushes (((regOps uApply_19).drop 0).take 4) [] = [31, 30, 29, 28] ∧
  regPlain uApply_25 = true) ∧
  (((regOps uApply_25).drop 4).isEmpty = true ∧
  (pushes (((regOps uApply_25).drop 0).take 4) [] = [10, 9, 33, 32] ∧
  regPlain uApply_27 = true)))) ∧
  (((((regOps uApply_27).drop 2).isEmpty = true ∧
  pushes (((regOps uApply_27).drop 0).take 2) [] = [11, 34]) ∧
  (regPlain uApply_30 = true ∧
  ((regOps uApply_30).drop 2).isEmpty = true)) ∧
  ((pushes (((regOps uApply_30).drop 0).take 2) [] = [12, 35] ∧
  regPlain uApply_35 = true) ∧
  (((regOps uApply_35).drop 4).isEmpty = true ∧
  (pushes (((regOps uApply_35).drop 0).take 4) [] = [39, 38, 37, 36] ∧
  regDraw pc0.mixed uApply_43 = true)))))) ∧
  (((((((drawSteps (regOps uApply_43)).drop 10).isEmpty = true ∧
  dpushes (regOps uApply_43) (((drawSteps (regOps uApply_43)).drop 0).take 10) [] = [11, 50, 49, 48, 47, 46, 45, 44, 43, 42]) ∧
  (regPlain uApply_45 = true ∧
  ((regOps uApply_45).drop 2).isEmpty = true)) ∧
  ((pushes (((regOps uApply_45).drop 0).take 2) [] = [52, 51] ∧
  regPlain uApply_50 = true) ∧
  (((regOps uApply_50).drop 5).isEmpty = true ∧
  pushes (((regOps uApply_50).drop 0).take 5) [] = [57, 56, 55, 54, 53]))) ∧
  (((regPlain uApply_52 = true ∧
  ((regOps uApply_52).drop 8).isEmpty = true) ∧
  (pushes (((regOps uApply_52).drop 0).take 8) [] = [10, 9, 63, 62, 61, 60, 59, 58] ∧
  regPlain uApply_54 = true)) ∧
  ((((regOps uApply_54).drop 3).isEmpty = true ∧
  pushes (((regOps uApply_54).drop 0).take 3) [] = [12, 41, 40]) ∧
  (regPlain uApply_57 = true ∧
  (((regOps uApply_57).drop 2).isEmpty = true ∧
  pushes (((regOps uApply_57).drop 0).take 2) [] = [65, 64]))))) ∧
  ((((regPlain uApply_59 = true ∧
  ((regOps uApply_59).drop 8).isEmpty = true) ∧
  (pushes (((regOps uApply_59).drop 0).take 8) [] = [5, 72, 71, 70, 69, 68, 67, 66] ∧
  regPlain uApply_60 = true)) ∧
  ((((regOps uApply_60).drop 8).isEmpty = true ∧
  pushes (((regOps uApply_60).drop 0).take 8) [] = [5, 79, 78, 77, 76, 75, 74, 73]) ∧
  (regPlain uApply_61 = true ∧
  (((regOps uApply_61).drop 2).isEmpty = true ∧
  pushes (((regOps uApply_61).drop 0).take 2) [] = [8, 80])))) ∧
  (((regPlain uApply_64 = true ∧
  ((regOps uApply_64).drop 3).isEmpty = true) ∧
  (pushes (((regOps uApply_64).drop 0).take 3) [] = [83, 82, 81] ∧
  regPlain uApply_67 = true)) ∧
  ((((regOps uApply_67).drop 2).isEmpty = true ∧
  pushes (((regOps uApply_67).drop 0).take 2) [] = [6, 5]) ∧
  (regPlain uApply_71 = true ∧
  (((regOps uApply_71).drop 3).isEmpty = true ∧
  pushes (((regOps uApply_71).drop 0).take 3) [] = [6, 5, 84])))))))) ∧ ((sizeC uApply_32 = 55 ∧
  sizeC uApply_16 = 110)) ∧ (((∀ (r : R) (s : S) (tm : T), cApply_32.run r tm s = seqA (fun tm s => r.code fiApply uApply_32 tm s) (seqA (fun tm s => seqA (fun tm s => cApply_54.run r tm s) (blockA 3 (seqA (fun tm s => seqA (fun tm s => condV (gp 16 tm) (cApply_52.run r tm s) (.nrm tm s)) (cApply_50.run r tm s)) (seqA (fun tm s => seqA (fun tm s => condV (gp 15 tm) (.ext 2 tm s) (.nrm tm s)) (cApply_45.run r tm s)) (cApply_43.run r tm s))))) (seqA (fun tm s => condV (gp 14 tm) (.nrm tm s) (.ext 2 tm s)) (cApply_35.run r tm s)))) ∧
  (∀ (r : R) (s : S) (tm : T), cApply_16.run r tm s = seqA (fun tm s => r.code fiApply uApply_16 tm s) (seqA (fun tm s => blockA 1 (seqA (fun tm s => seqA (fun tm s => seqA (fun tm s => seqA (fun tm s => cApply_61.run r tm s) (seqA (fun tm s => condV (gp 17 tm) (cApply_59.run r tm s) (cApply_60.run r tm s)) (cApply_57.run r tm s))) (seqA (fun tm s => blockA 2 (cApply_32.run r tm s)) (cApply_30.run r tm s))) (cApply_27.run r tm s)) (cApply_25.run r tm s))) (seqA (fun tm s => condV (gp 13 tm) (.nrm tm s) (.ext 0 tm s)) (cApply_19.run r tm s)))))) ∧ ((((((∀ (r : R) (s : S) (x0 x1 : V), (fnC pc0 13).run r [x0, x1] s = outF (bindR (fun tm s => finApply tm s) (cApply_0.run r (sp 1 x1 (sp 0 x0 T.new)) s))) ∧
  ((∀ (s : S) (tm : T), finApply tm s = finV (gp 240 tm) (resV [(gp 4 tm), (gp 5 tm)] s)) ∧
  (∀ (r : R) (s : S) (tm : T), cApply_0.run r tm s = seqA (fun tm s => seqA (fun tm s => seqA (fun tm s => seqA (fun tm s => seqA (fun tm s => seqA (fun tm s => .ret tm s) (cApply_71.run r tm s)) (seqA (fun tm s => condV (gp 18 tm) (seqA (fun tm s => .ret tm s) (cApply_67.run r tm s)) (.nrm tm s)) (cApply_64.run r tm s))) (seqA (fun tm s => blockA 0 (cApply_16.run r tm s)) (cApply_14.run r tm s))) (cApply_11.run r tm s)) (seqA (fun tm s => condV (gp 12 tm) (seqA (fun tm s => .ret tm s) (cApply_7.run r tm s)) (.nrm tm s)) (cApply_4.run r tm s))) (cApply_1.run r tm s)))) ∧
  (((∀ (g : LoC) (r : R) (s : S) (tm : T) (le : List V), (qApply_1_0 g).run r tm (le) s = g.run r (sp 5 (V.nat .i64 0) (sp 4 (V.nil 1) tm)) ((V.nat .i64 0) :: (V.nil 1) :: le) s) ∧
  (∀ (g : LoC) (r : R) (s : S) (tm : T) (le : List V), (qApply_4_0 g).run r tm (le) s = foldF (r.call 10 [(gp 0 tm)] s) fun v1 s => xUn .not v1 fun v2 => g.run r tm (v2 :: v2 :: v1 :: (gp 0 tm) :: le) s)) ∧
  ((∀ (g : LoC) (r : R) (s : S) (tm : T) (le : List V), (qApply_4_4 g).run r tm ((.bool true) :: le) s = g.run r tm (Go.Ev.undef :: Go.Ev.undef :: Go.Ev.undef :: (.bool true) :: le) s) ∧
  (∀ (g : LoC) (r : R) (s : S) (tm : T) (le : List V), (qApply_4_4 g).run r tm ((.bool false) :: le) s = xLenS (gp 1 tm) fun v5 => xBin ⟨9, []⟩ false .gtr v5 (V.nat .i64 200) fun v6 => g.run r tm (v6 :: v5 :: (gp 1 tm) :: (.bool false) :: le) s)))) ∧
  ((((∀ (g : LoC) (r : R) (s : S) (tm : T) (le : List V) (x0_ x1_ x2_ x3_ : V), (qApply_4_7 g).run r tm (x0_ :: x1_ :: x2_ :: x3_ :: le) s = xPick x3_ (fun _ => g.run r tm ((V.bool true) :: (V.bool true) :: x0_ :: x1_ :: x2_ :: x3_ :: le) s) (fun _ => g.run r tm (x0_ :: x0_ :: x0_ :: x1_ :: x2_ :: x3_ :: le) s)) ∧
  (∀ (g : LoC) (r : R) (s : S) (tm : T) (le : List V), (qApply_4_9 g).run r tm ((.bool true) :: le) s = g.run r tm (Go.Ev.undef :: Go.Ev.undef :: Go.Ev.undef :: (.bool true) :: le) s)) ∧
  ((∀ (g : LoC) (r : R) (s : S) (tm : T) (le : List V), (qApply_4_9 g).run r tm ((.bool false) :: le) s = foldF (r.call 24 [(gp 1 tm), (V.nat .i64 500)] s) fun v10 s => xUn .not v10 fun v11 => g.run r tm (v11 :: v10 :: (gp 1 tm) :: (.bool false) :: le) s) ∧
  (∀ (g : LoC) (r : R) (s : S) (tm : T) (le : List V) (x0_ x1_ x2_ x3_ : V), (qApply_4_12 g).run r tm (x0_ :: x1_ :: x2_ :: x3_ :: le) s = xPick x3_ (fun _ => g.run r (sp 12 (V.bool true) tm) ((V.bool true) :: x0_ :: x1_ :: x2_ :: x3_ :: le) s) (fun _ => g.run r (sp 12 x0_ tm) (x0_ :: x0_ :: x1_ :: x2_ :: x3_ :: le) s)))) ∧
  (((∀ (g : LoC) (r : R) (s : S) (tm : T) (le : List V), (qApply_7_0 g).run r tm (le) s = g.run r (sp 5 (V.nat .i64 1) (sp 4 (V.nil 1) tm)) ((V.nat .i64 1) :: (V.nil 1) :: le) s) ∧
  (∀ (g : LoC) (r : R) (s : S) (tm : T) (le : List V), (qApply_11_0 g).run r tm (le) s = foldF (r.call 26 [(gp 0 tm)] s) fun v1 s => g.run r (sp 6 v1 tm) (v1 :: v1 :: (gp 0 tm) :: le) s)) ∧
  ((∀ (g : LoC) (r : R) (s : S) (tm : T) (le : List V), (qApply_14_0 g).run r tm (le) s = g.run r (sp 7 (V.nat .i64 0) tm) ((V.nat .i64 0) :: le) s) ∧
  (∀ (g : LoC) (r : R) (s : S) (tm : T) (le : List V), (qApply_19_0 g).run r tm (le) s = xLenS (gp 1 tm) fun v2 => xBin ⟨9, []⟩ false .lss (gp 7 tm) v2 fun v3 => g.run r (sp 13 v3 tm) (v3 :: v2 :: (gp 1 tm) :: (gp 7 tm) :: le) s))))) ∧
  (((((∀ (g : LoC) (r : R) (s : S) (tm : T) (le : List V), (qApply_25_0 g).run r tm (le) s = xBin ⟨9, []⟩ false .add (gp 7 tm) (V.nat .i64 1) fun v1 => g.run r (sp 9 v1 (sp 8 (V.neg .i64 0) tm)) (v1 :: (V.neg .i64 0) :: v1 :: (gp 7 tm) :: le) s) ∧
  (∀ (g : LoC) (r : R) (s : S) (tm : T) (le : List V), (qApply_27_0 g).run r tm (le) s = g.run r (sp 10 (gp 6 tm) tm) ((gp 6 tm) :: (gp 6 tm) :: le) s)) ∧
  ((∀ (g : LoC) (r : R) (s : S) (tm : T) (le : List V), (qApply_30_0 g).run r tm (le) s = g.run r (sp 11 (gp 7 tm) tm) ((gp 7 tm) :: (gp 7 tm) :: le) s) ∧
  (∀ (g : LoC) (r : R) (s : S) (tm : T) (le : List V), (qApply_35_0 g).run r tm (le) s = xLenS (gp 1 tm) fun v2 => xBin ⟨9, []⟩ false .lss (gp 11 tm) v2 fun v3 => g.run r (sp 14 v3 tm) (v3 :: v2 :: (gp 1 tm) :: (gp 11 tm) :: le) s))) ∧
  (((∀ (g : LoC) (r : R) (s : S) (tm : T) (le : List V), (qApply_43_0 g).run r tm (le) s = xNilCheck (gp 10 tm) fun v1 => xFieldAddr 0 v1 fun v2 => xLoad false 1 v2 s fun v3 s => xIdxAddrS 1 (gp 1 tm) (gp 11 tm) fun v6 => xLoad false 1 v6 s fun v7 s => xLookup ⟨7, []⟩ (V.nil 0) false v3 v7 s fun v8 => g.run r (sp 10 v8 tm) (v8 :: v8 :: v7 :: v6 :: (gp 11 tm) :: (gp 1 tm) :: v3 :: v2 :: v1 :: (gp 10 tm) :: le) s) ∧
  (∀ (g : LoC) (r : R) (s : S) (tm : T) (le : List V), (qApply_45_0 g).run r tm (le) s = xBin ⟨1, []⟩ true .eql (gp 10 tm) (V.nil 0) fun v1 => g.run r (sp 15 v1 tm) (v1 :: (gp 10 tm) :: le) s)) ∧
  ((∀ (g : LoC) (r : R) (s : S) (tm : T) (le : List V), (qApply_50_0 g).run r tm (le) s = xNilCheck (gp 10 tm) fun v1 => xFieldAddr 1 v1 fun v2 => xLoad false 1 v2 s fun v3 s => xBin ⟨9, []⟩ false .geq v3 (V.nat .i64 0) fun v4 => g.run r (sp 16 v4 tm) (v4 :: v3 :: v2 :: v1 :: (gp 10 tm) :: le) s) ∧
  (∀ (g : LoC) (r : R) (s : S) (tm : T) (le : List V), (qApply_52_0 g).run r tm (le) s = xNilCheck (gp 10 tm) fun v1 => xFieldAddr 1 v1 fun v2 => xLoad false 1 v2 s fun v3 s => xBin ⟨9, []⟩ false .add (gp 11 tm) (V.nat .i64 1) fun v5 => g.run r (sp 9 v5 (sp 8 v3 tm)) (v5 :: v3 :: v5 :: (gp 11 tm) :: v3 :: v2 :: v1 :: (gp 10 tm) :: le) s)))) ∧
  ((((∀ (g : LoC) (r : R) (s : S) (tm : T) (le : List V), (qApply_54_0 g).run r tm (le) s = xBin ⟨9, []⟩ false .add (gp 11 tm) (V.nat .i64 1) fun v1 => g.run r (sp 11 v1 tm) (v1 :: v1 :: (gp 11 tm) :: le) s) ∧
  (∀ (g : LoC) (r : R) (s : S) (tm : T) (le : List V), (qApply_57_0 g).run r tm (le) s = xBin ⟨9, []⟩ false .geq (gp 8 tm) (V.nat .i64 0) fun v1 => g.run r (sp 17 v1 tm) (v1 :: (gp 8 tm) :: le) s)) ∧
  ((∀ (g : LoC) (r : R) (s : S) (tm : T) (le : List V), (qApply_59_0 g).run r tm (le) s = xIdxAddrS 2 (gp 0 tm) (gp 8 tm) fun v3 => xFieldAddr 1 v3 fun v4 => xLoad false 1 v4 s fun v5 s => xAppend 3 1 (gp 4 tm) v5 s fun v6 s => g.run r (sp 4 v6 tm) (v6 :: v6 :: v5 :: v4 :: v3 :: (gp 8 tm) :: (gp 0 tm) :: (gp 4 tm) :: le) s) ∧
  (∀ (g : LoC) (r : R) (s : S) (tm : T) (le : List V), (qApply_60_0 g).run r tm (le) s = xIdxAddrS 1 (gp 1 tm) (gp 7 tm) fun v3 => xLoad false 1 v3 s fun v4 s => repL [(V.nat .i64 0)] 1 fun l5z => cellsC 1 v4 fun x5_0 => updL x5_0 0 l5z fun l5_0 => Go.Ev.newRow s 3 l5_0 false fun a5k _ s => xAppend 3 1 (gp 4 tm) (V.sl a5k 0 0 1 1) s fun v6 s => g.run r (sp 4 v6 tm) (v6 :: v6 :: (V.sl a5k 0 0 1 1) :: v4 :: v3 :: (gp 7 tm) :: (gp 1 tm) :: (gp 4 tm) :: le) s))) ∧
  (((∀ (g : LoC) (r : R) (s : S) (tm : T) (le : List V), (qApply_61_0 g).run r tm (le) s = g.run r (sp 7 (gp 9 tm) tm) ((gp 9 tm) :: (gp 9 tm) :: le) s) ∧
  (∀ (g : LoC) (r : R) (s : S) (tm : T) (le : List V), (qApply_64_0 g).run r tm (le) s = xLenS (gp 4 tm) fun v1 => xBin ⟨9, []⟩ false .gtr v1 (V.nat .i64 200) fun v2 => g.run r (sp 18 v2 tm) (v2 :: v1 :: (gp 4 tm) :: le) s)) ∧
  ((∀ (g : LoC) (r : R) (s : S) (tm : T) (le : List V), (qApply_67_0 g).run r tm (le) s = g.run r (sp 5 (V.nat .i64 2) (sp 4 (V.nil 1) tm)) ((V.nat .i64 2) :: (V.nil 1) :: le) s) ∧
  (∀ (g : LoC) (r : R) (s : S) (tm : T) (le : List V), (qApply_71_0 g).run r tm (le) s = g.run r (sp 5 (V.nat .i64 0) (sp 4 (gp 4 tm) tm)) ((V.nat .i64 0) :: (gp 4 tm) :: (gp 4 tm) :: le) s))))))) := by
  and_intros <;> first | trivial | (intros; kernel_rfl)
theorem chApply_1_2 : Ch pc0 fiApply uApply_1 2 [6, 5] nilL := chE allApplyx.1.1.1.1.1.1.2
theorem chApply_1_0 : Ch pc0 fiApply uApply_1 0 [] (qApply_1_0 nilL) := chS rfl allApplyx.1.1.1.1.1.2.1 chApply_1_2
theorem rgApply_1 (r : R) (s : S) (tm : T) : cApply_1.run r tm s = (qApply_1_0 nilL).run r tm [] s := reg_run allApplyx.1.1.1.1.1.1.1 chApply_1_0 r s tm
theorem chApply_4_13 : Ch pc0 fiApply uApply_4 13 [25, 24, 23, 22, 21, 20, 19, 18, 17, 16, 15, 14, 13] nilL := chE allApplyx.1.1.1.1.2.1.1
theorem chApply_4_12 : Ch pc0 fiApply uApply_4 12 [24, 23, 22, 21, 20, 19, 18, 17, 16, 15, 14, 13] (qApply_4_12 nilL) := chS rfl allApplyx.1.1.1.1.2.1.2 chApply_4_13
theorem chApply_4_9 : Ch pc0 fiApply uApply_4 9 [21, 20, 19, 18, 17, 16, 15, 14, 13] (qApply_4_9 (qApply_4_12 nilL)) := chS rfl allApplyx.1.1.1.1.2.2.1 chApply_4_12
theorem chApply_4_7 : Ch pc0 fiApply uApply_4 7 [19, 18, 17, 16, 15, 14, 13] (qApply_4_7 (qApply_4_9 (qApply_4_12 nilL))) := chS rfl allApplyx.1.1.1.1.2.2.2 chApply_4_9
theorem chApply_4_4 : Ch pc0 fiApply uApply_4 4 [16, 15, 14, 13] (qApply_4_4 (qApply_4_7 (qApply_4_9 (qApply_4_12 nilL)))) := chS rfl allApplyx.1.1.1.2.1.1.1 chApply_4_7
theorem chApply_4_0 : Ch pc0 fiApply uApply_4 0 [] (qApply_4_0 (qApply_4_4 (qApply_4_7 (qApply_4_9 (qApply_4_12 nilL))))) := chS rfl allApplyx.1.1.1.2.1.1.2 chApply_4_4
theorem rgApply_4 (r : R) (s : S) (tm : T) : cApply_4.run r tm s = (qApply_4_0 (qApply_4_4 (qApply_4_7 (qApply_4_9 (qApply_4_12 nilL))))).run r tm [] s := reg_run allApplyx.1.1.1.1.1.2.2 chApply_4_0 r s tm
theorem chApply_7_2 : Ch pc0 fiApply uApply_7 2 [6, 5] nilL := chE allApplyx.1.1.1.2.1.2.2
theorem chApply_7_0 : Ch pc0 fiApply uApply_7 0 [] (qApply_7_0 nilL) := chS rfl allApplyx.1.1.1.2.2.1.1 chApply_7_2
theorem rgApply_7 (r : R) (s : S) (tm : T) : cApply_7.run r tm s = (qApply_7_0 nilL).run r tm [] s := reg_run allApplyx.1.1.1.2.1.2.1 chApply_7_0 r s tm
theorem chApply_11_3 : Ch pc0 fiApply uApply_11 3 [7, 27, 26] nilL := chE allApplyx.1.1.1.2.2.2.1
theorem chApply_11_0 : Ch pc0 fiApply uApply_11 0 [] (qApply_11_0 nilL) := chS rfl allApplyx.1.1.1.2.2.2.2.1 chApply_11_3
theorem rgApply_11 (r : R) (s : S) (tm : T) : cApply_11.run r tm s = (qApply_11_0 nilL).run r tm [] s := reg_run allApplyx.1.1.1.2.2.1.2 chApply_11_0 r s tm
theorem chApply_14_1 : Ch pc0 fiApply uApply_14 1 [8] nilL := chE allApplyx.1.1.2.1.1.1.1
theorem chApply_14_0 : Ch pc0 fiApply uApply_14 0 [] (qApply_14_0 nilL) := chS rfl allApplyx.1.1.2.1.1.1.2 chApply_14_1
theorem rgApply_14 (r : R) (s : S) (tm : T) : cApply_14.run r tm s = (qApply_14_0 nilL).run r tm [] s := reg_run allApplyx.1.1.1.2.2.2.2.2 chApply_14_0 r s tm
theorem chApply_19_4 : Ch pc0 fiApply uApply_19 4 [31, 30, 29, 28] nilL := chE allApplyx.1.1.2.1.1.2.2
theorem chApply_19_0 : Ch pc0 fiApply uApply_19 0 [] (qApply_19_0 nilL) := chS rfl allApplyx.1.1.2.1.2.1.1 chApply_19_4
theorem rgApply_19 (r : R) (s : S) (tm : T) : cApply_19.run r tm s = (qApply_19_0 nilL).run r tm [] s := reg_run allApplyx.1.1.2.1.1.2.1 chApply_19_0 r s tm
theorem chApply_25_4 : Ch pc0 fiApply uApply_25 4 [10, 9, 33, 32] nilL := chE allApplyx.1.1.2.1.2.2.1
theorem chApply_25_0 : Ch pc0 fiApply uApply_25 0 [] (qApply_25_0 nilL) := chS rfl allApplyx.1.1.2.1.2.2.2.1 chApply_25_4
theorem rgApply_25 (r : R) (s : S) (tm : T) : cApply_25.run r tm s = (qApply_25_0 nilL).run r tm [] s := reg_run allApplyx.1.1.2.1.2.1.2 chApply_25_0 r s tm
theorem chApply_27_2 : Ch pc0 fiApply uApply_27 2 [11, 34] nilL := chE allApplyx.1.1.2.2.1.1.1
theorem chApply_27_0 : Ch pc0 fiApply uApply_27 0 [] (qApply_27_0 nilL) := chS rfl allApplyx.1.1.2.2.1.1.2 chApply_27_2
theorem rgApply_27 (r : R) (s : S) (tm : T) : cApply_27.run r tm s = (qApply_27_0 nilL).run r tm [] s := reg_run allApplyx.1.1.2.1.2.2.2.2 chApply_27_0 r s tm
theorem chApply_30_2 : Ch pc0 fiApply uApply_30 2 [12, 35] nilL := chE allApplyx.1.1.2.2.1.2.2
theorem chApply_30_0 : Ch pc0 fiApply uApply_30 0 [] (qApply_30_0 nilL) := chS rfl allApplyx.1.1.2.2.2.1.1 chApply_30_2
theorem rgApply_30 (r : R) (s : S) (tm : T) : cApply_30.run r tm s = (qApply_30_0 nilL).run r tm [] s := reg_run allApplyx.1.1.2.2.1.2.1 chApply_30_0 r s tm
theorem chApply_35_4 : Ch pc0 fiApply uApply_35 4 [39, 38, 37, 36] nilL := chE allApplyx.1.1.2.2.2.2.1
theorem chApply_35_0 : Ch pc0 fiApply uApply_35 0 [] (qApply_35_0 nilL) := chS rfl allApplyx.1.1.2.2.2.2.2.1 chApply_35_4
theorem rgApply_35 (r : R) (s : S) (tm : T) : cApply_35.run r tm s = (qApply_35_0 nilL).run r tm [] s := reg_run allApplyx.1.1.2.2.2.1.2 chApply_35_0 r s tm
theorem chApply_43_10 : DCh pc0 fiApply uApply_43 10 [11, 50, 49, 48, 47, 46, 45, 44, 43, 42] nilL := dchE allApplyx.1.2.1.1.1.1.1
theorem chApply_43_0 : DCh pc0 fiApply uApply_43 0 [] (qApply_43_0 nilL) := dchS rfl allApplyx.1.2.1.1.1.1.2 chApply_43_10
theorem rgApply_43 (r : R) (s : S) (tm : T) : cApply_43.run r tm s = (qApply_43_0 nilL).run r.det tm [] s := reg_drun allApplyx.1.1.2.2.2.2.2.2 chApply_43_0 r s tm
theorem chApply_45_2 : Ch pc0 fiApply uApply_45 2 [52, 51] nilL := chE allApplyx.1.2.1.1.1.2.2
theorem chApply_45_0 : Ch pc0 fiApply uApply_45 0 [] (qApply_45_0 nilL) := chS rfl allApplyx.1.2.1.1.2.1.1 chApply_45_2
theorem rgApply_45 (r : R) (s : S) (tm : T) : cApply_45.run r tm s = (qApply_45_0 nilL).run r tm [] s := reg_run allApplyx.1.2.1.1.1.2.1 chApply_45_0 r s tm
theorem chApply_50_5 : Ch pc0 fiApply uApply_50 5 [57, 56, 55, 54, 53] nilL := chE allApplyx.1.2.1.1.2.2.1
theorem chApply_50_0 : Ch pc0 fiApply uApply_50 0 [] (qApply_50_0 nilL) := chS rfl allApplyx.1.2.1.1.2.2.2 chApply_50_5
theorem rgApply_50 (r : R) (s : S) (tm : T) : cApply_50.run r tm s = (qApply_50_0 nilL).run r tm [] s := reg_run allApplyx.1.2.1.1.2.1.2 chApply_50_0 r s tm
theorem chApply_52_8 : Ch pc0 fiApply uApply_52 8 [10, 9, 63, 62, 61, 60, 59, 58] nilL := chE allApplyx.1.2.1.2.1.1.2
theorem chApply_52_0 : Ch pc0 fiApply uApply_52 0 [] (qApply_52_0 nilL) := chS rfl allApplyx.1.2.1.2.1.2.1 chApply_52_8
theorem rgApply_52 (r : R) (s : S) (tm : T) : cApply_52.run r tm s = (qApply_52_0 nilL).run r tm [] s := reg_run allApplyx.1.2.1.2.1.1.1 chApply_52_0 r s tm
theorem chApply_54_3 : Ch pc0 fiApply uApply_54 3 [12, 41, 40] nilL := chE allApplyx.1.2.1.2.2.1.1
theorem chApply_54_0 : Ch pc0 fiApply uApply_54 0 [] (qApply_54_0 nilL) := chS rfl allApplyx.1.2.1.2.2.1.2 chApply_54_3
theorem rgApply_54 (r : R) (s : S) (tm : T) : cApply_54.run r tm s = (qApply_54_0 nilL).run r tm [] s := reg_run allApplyx.1.2.1.2.1.2.2 chApply_54_0 r s tm
theorem chApply_57_2 : Ch pc0 fiApply uApply_57 2 [65, 64] nilL := chE allApplyx.1.2.1.2.2.2.2.1
theorem chApply_57_0 : Ch pc0 fiApply uApply_57 0 [] (qApply_57_0 nilL) := chS rfl allApplyx.1.2.1.2.2.2.2.2 chApply_57_2
theorem rgApply_57 (r : R) (s : S) (tm : T) : cApply_57.run r tm s = (qApply_57_0 nilL).run r tm [] s := reg_run allApplyx.1.2.1.2.2.2.1 chApply_57_0 r s tm
theorem chApply_59_8 : Ch pc0 fiApply uApply_59 8 [5, 72, 71, 70, 69, 68, 67, 66] nilL := chE allApplyx.1.2.2.1.1.1.2
theorem chApply_59_0 : Ch pc0 fiApply uApply_59 0 [] (qApply_59_0 nilL) := chS rfl allApplyx.1.2.2.1.1.2.1 chApply_59_8
theorem rgApply_59 (r : R) (s : S) (tm : T) : cApply_59.run r tm s = (qApply_59_0 nilL).run r tm [] s := reg_run allApplyx.1.2.2.1.1.1.1 chApply_59_0 r s tm
theorem chApply_60_8 : Ch pc0 fiApply uApply_60 8 [5, 79, 78, 77, 76, 75, 74, 73] nilL := chE allApplyx.1.2.2.1.2.1.1
theorem chApply_60_0 : Ch pc0 fiApply uApply_60 0 [] (qApply_60_0 nilL) := chS rfl allApplyx.1.2.2.1.2.1.2 chApply_60_8
theorem rgApply_60 (r : R) (s : S) (tm : T) : cApply_60.run r tm s = (qApply_60_0 nilL).run r tm [] s := reg_run allApplyx.1.2.2.1.1.2.2 chApply_60_0 r s tm
theorem chApply_61_2 : Ch pc0 fiApply uApply_61 2 [8, 80] nilL := chE allApplyx.1.2.2.1.2.2.2.1
theorem chApply_61_0 : Ch pc0 fiApply uApply_61 0 [] (qApply_61_0 nilL) := chS rfl allApplyx.1.2.2.1.2.2.2.2 chApply_61_2
theorem rgApply_61 (r : R) (s : S) (tm : T) : cApply_61.run r tm s = (qApply_61_0 nilL).run r tm [] s := reg_run allApplyx.1.2.2.1.2.2.1 chApply_61_0 r s tm
theorem chApply_64_3 : Ch pc0 fiApply uApply_64 3 [83, 82, 81] nilL := chE allApplyx.1.2.2.2.1.1.2
theorem chApply_64_0 : Ch pc0 fiApply uApply_64 0 [] (qApply_64_0 nilL) := chS rfl allApplyx.1.2.2.2.1.2.1 chApply_64_3
theorem rgApply_64 (r : R) (s : S) (tm : T) : cApply_64.run r tm s = (qApply_64_0 nilL).run r tm [] s := reg_run allApplyx.1.2.2.2.1.1.1 chApply_64_0 r s tm
theorem chApply_67_2 : Ch pc0 fiApply uApply_67 2 [6, 5] nilL := chE allApplyx.1.2.2.2.2.1.1
theorem chApply_67_0 : Ch pc0 fiApply uApply_67 0 [] (qApply_67_0 nilL) := chS rfl allApplyx.1.2.2.2.2.1.2 chApply_67_2
theorem rgApply_67 (r : R) (s : S) (tm : T) : cApply_67.run r tm s = (qApply_67_0 nilL).run r tm [] s := reg_run allApplyx.1.2.2.2.1.2.2 chApply_67_0 r s tm
theorem chApply_71_3 : Ch pc0 fiApply uApply_71 3 [6, 5, 84] nilL := chE allApplyx.1.2.2.2.2.2.2.1
theorem chApply_71_0 : Ch pc0 fiApply uApply_71 0 [] (qApply_71_0 nilL) := chS rfl allApplyx.1.2.2.2.2.2.2.2 chApply_71_3
theorem rgApply_71 (r : R) (s : S) (tm : T) : cApply_71.run r tm s = (qApply_71_0 nilL).run r tm [] s := reg_run allApplyx.1.2.2.2.2.2.1 chApply_71_0 r s tm
theorem szApply_32 : sizeC uApply_32 = 55 := allApplyx.2.1.1
theorem szApply_16 : sizeC uApply_16 = 110 := allApplyx.2.1.2
theorem lpApply_32 : type_of% allApplyx.2.2.1.1 := allApplyx.2.2.1.1
theorem lpApply_16 : type_of% allApplyx.2.2.1.2 := allApplyx.2.2.1.2
theorem allApply : type_of% (And.intro rgApply_1 (And.intro rgApply_4 (And.intro rgApply_7 (And.intro rgApply_11 (And.intro rgApply_14 (And.intro rgApply_19 (And.intro rgApply_25 (And.intro rgApply_27 (And.intro rgApply_30 (And.intro rgApply_35 (And.intro rgApply_43 (And.intro rgApply_45 (And.intro rgApply_50 (And.intro rgApply_52 (And.intro rgApply_54 (And.intro rgApply_57 (And.intro rgApply_59 (And.intro rgApply_60 (And.intro rgApply_61 (And.intro rgApply_64 (And.intro rgApply_67 (And.intro rgApply_71 allApplyx.2.2.2)))))))))))))))))))))) := (And.intro rgApply_1 (And.intro rgApply_4 (And.intro rgApply_7 (And.intro rgApply_11 (And.intro rgApply_14 (And.intro rgApply_19 (And.intro rgApply_25 (And.intro rgApply_27 (And.intro rgApply_30 (And.intro rgApply_35 (And.intro rgApply_43 (And.intro rgApply_45 (And.intro rgApply_50 (And.intro rgApply_52 (And.intro rgApply_54 (And.intro rgApply_57 (And.intro rgApply_59 (And.intro rgApply_60 (And.intro rgApply_61 (And.intro rgApply_64 (And.intro rgApply_67 (And.intro rgApply_71 allApplyx.2.2.2))))))))))))))))))))))
/- abugida/abugidaref40.Apply: parameters 2, slots in the frame: [(0, 0), (1, 1), (2, 2), (3, 3), (4, 4), (5, 5), (6, 6), (7, 14), (8, 20)] -/
def fiRApply : FI := ⟨3129216, 22, 4⟩
noncomputable def bodyRApply : Code := bodyOf Tryz.prog 14
noncomputable def uRApply_1 : Code := subC [0] bodyRApply
noncomputable def cRApply_1 : CoC := comp pc0 fiRApply uRApply_1
noncomputable def qRApply_1_0 : LoC → LoC := qOf pc0 fiRApply uRApply_1 0 2 []
noncomputable def uRApply_4 : Code := subC [1, 0, 0] bodyRApply
noncomputable def cRApply_4 : CoC := comp pc0 fiRApply uRApply_4
noncomputable def qRApply_4_7 : LoC → LoC := qOf pc0 fiRApply uRApply_4 7 1 [14, 13, 12, 11, 10, 9, 8]
noncomputable def qRApply_4_4 : LoC → LoC := qOf pc0 fiRApply uRApply_4 4 3 [11, 10, 9, 8]
noncomputable def qRApply_4_0 : LoC → LoC := qOf pc0 fiRApply uRApply_4 0 4 []
noncomputable def uRApply_7 : Code := subC [1, 0, 1, 0, 0] bodyRApply
noncomputable def cRApply_7 : CoC := comp pc0 fiRApply uRApply_7
noncomputable def qRApply_7_0 : LoC → LoC := qOf pc0 fiRApply uRApply_7 0 2 []
noncomputable def uRApply_11 : Code := subC [1, 1, 0] bodyRApply
noncomputable def cRApply_11 : CoC := comp pc0 fiRApply uRApply_11
noncomputable def qRApply_11_0 : LoC → LoC := qOf pc0 fiRApply uRApply_11 0 4 []
noncomputable def uRApply_14 : Code := subC [1, 1, 1, 0, 0] bodyRApply
noncomputable def cRApply_14 : CoC := comp pc0 fiRApply uRApply_14
noncomputable def qRApply_14_0 : LoC → LoC := qOf pc0 fiRApply uRApply_14 0 3 []
noncomputable def uRApply_17 : Code := subC [1, 1, 1, 0, 1, 0, 0] bodyRApply
noncomputable def cRApply_17 : CoC := comp pc0 fiRApply uRApply_17
noncomputable def qRApply_17_0 : LoC → LoC := qOf pc0 fiRApply uRApply_17 0 2 []
noncomputable def uRApply_21 : Code := subC [1, 1, 1, 1, 0] bodyRApply
noncomputable def cRApply_21 : CoC := comp pc0 fiRApply uRApply_21
noncomputable def qRApply_21_0 : LoC → LoC := qOf pc0 fiRApply uRApply_21 0 3 []
noncomputable def cRApply_0 : CoC := comp pc0 fiRApply bodyRApply
noncomputable def finRApply : T → S → A := finN (resC pc0 fiRApply (resOf Tryz.prog 14)).run
theorem allRApplyx :
  (((((regPlain uRApply_1 = true ∧
  ((regOps uRApply_1).drop 2).isEmpty = true) ∧
  (pushes (((regOps uRApply_1).drop 0).take 2) [] = [6, 5] ∧
  (regPlain uRApply_4 = true ∧
  ((regOps uRApply_4).drop 8).isEmpty = true))) ∧
  ((pushes (((regOps uRApply_4).drop 7).take 1) [14, 13, 12, 11, 10, 9, 8] = [15, 14, 13, 12, 11, 10, 9, 8] ∧
  (pushes (((regOps uRApply_4).drop 4).take 3) [11, 10, 9, 8] = [14, 13, 12, 11, 10, 9, 8] ∧
  pushes (((regOps uRApply_4).drop 0).take 4) [] = [11, 10, 9, 8])) ∧
  (regPlain uRApply_7 = true ∧
  (((regOps uRApply_7).drop 2).isEmpty = true ∧
  pushes (((regOps uRApply_7).drop 0).take 2) [] = [6, 5])))) ∧
  (((regPlain uRApply_11 = true ∧
  (((regOps uRApply_11).drop 4).isEmpty = true ∧
  pushes (((regOps uRApply_11).drop 0).take 4) [] = [7, 18, 17, 16])) ∧
  (regPlain uRApply_14 = true ∧
  (((regOps uRApply_14).drop 3).isEmpty = true ∧
  pushes (((regOps uRApply_14).drop 0).take 3) [] = [21, 20, 19]))) ∧
  ((regPlain uRApply_17 = true ∧
  (((regOps uRApply_17).drop 2).isEmpty = true ∧
  pushes (((regOps uRApply_17).drop 0).take 2) [] = [6, 5])) ∧
  (regPlain uRApply_21 = true ∧
  (((regOps uRApply_21).drop 3).isEmpty = true ∧
  pushes (((regOps uRApply_21).drop 0).take 3) [] = [6, 5, 22])))))) ∧ (True) ∧ (True) ∧ (((((∀ (r : R) (s : S) (x0 x1 : V), (fnC pc0 14).run r [x0, x1] s = outF (bindR (fun tm s => finRApply tm s) (cRApply_0.run r (sp 1 x1 (sp 0 x0 T.new)) s))) ∧
  ((∀ (s : S) (tm : T), finRApply tm s = finV (gp 240 tm) (resV [(gp 4 tm), (gp 5 tm)] s)) ∧
  (∀ (r : R) (s : S) (tm : T), cRApply_0.run r tm s = seqA (fun tm s => seqA (fun tm s => seqA (fun tm s => seqA (fun tm s => seqA (fun tm s => .ret tm s) (cRApply_21.run r tm s)) (seqA (fun tm s => condV (gp 8 tm) (seqA (fun tm s => .ret tm s) (cRApply_17.run r tm s)) (.nrm tm s)) (cRApply_14.run r tm s))) (cRApply_11.run r tm s)) (seqA (fun tm s => condV (gp 7 tm) (seqA (fun tm s => .ret tm s) (cRApply_7.run r tm s)) (.nrm tm s)) (cRApply_4.run r tm s))) (cRApply_1.run r tm s)))) ∧
  ((∀ (g : LoC) (r : R) (s : S) (tm : T) (le : List V), (qRApply_1_0 g).run r tm (le) s = g.run r (sp 5 (V.nat .i64 0) (sp 4 (V.nil 1) tm)) ((V.nat .i64 0) :: (V.nil 1) :: le) s) ∧
  ((∀ (g : LoC) (r : R) (s : S) (tm : T) (le : List V), (qRApply_4_0 g).run r tm (le) s = foldF (r.call 11 [(gp 0 tm)] s) fun v1 s => xUn .not v1 fun v2 => g.run r tm (v2 :: v2 :: v1 :: (gp 0 tm) :: le) s) ∧
  (∀ (g : LoC) (r : R) (s : S) (tm : T) (le : List V), (qRApply_4_4 g).run r tm ((.bool true) :: le) s = g.run r tm (Go.Ev.undef :: Go.Ev.undef :: Go.Ev.undef :: (.bool true) :: le) s)))) ∧
  (((∀ (g : LoC) (r : R) (s : S) (tm : T) (le : List V), (qRApply_4_4 g).run r tm ((.bool false) :: le) s = foldF (r.call 17 [(gp 1 tm)] s) fun v5 s => xUn .not v5 fun v6 => g.run r tm (v6 :: v5 :: (gp 1 tm) :: (.bool false) :: le) s) ∧
  ((∀ (g : LoC) (r : R) (s : S) (tm : T) (le : List V) (x0_ x1_ x2_ x3_ : V), (qRApply_4_7 g).run r tm (x0_ :: x1_ :: x2_ :: x3_ :: le) s = xPick x3_ (fun _ => g.run r (sp 7 (V.bool true) tm) ((V.bool true) :: x0_ :: x1_ :: x2_ :: x3_ :: le) s) (fun _ => g.run r (sp 7 x0_ tm) (x0_ :: x0_ :: x1_ :: x2_ :: x3_ :: le) s)) ∧
  (∀ (g : LoC) (r : R) (s : S) (tm : T) (le : List V), (qRApply_7_0 g).run r tm (le) s = g.run r (sp 5 (V.nat .i64 1) (sp 4 (V.nil 1) tm)) ((V.nat .i64 1) :: (V.nil 1) :: le) s))) ∧
  (((∀ (g : LoC) (r : R) (s : S) (tm : T) (le : List V), (qRApply_11_0 g).run r tm (le) s = foldF (r.call 27 [(gp 0 tm), (gp 1 tm)] s) fun v2 s => g.run r (sp 6 v2 tm) (v2 :: v2 :: (gp 1 tm) :: (gp 0 tm) :: le) s) ∧
  (∀ (g : LoC) (r : R) (s : S) (tm : T) (le : List V), (qRApply_14_0 g).run r tm (le) s = xLenS (gp 6 tm) fun v1 => xBin ⟨9, []⟩ false .gtr v1 (V.nat .i64 200) fun v2 => g.run r (sp 8 v2 tm) (v2 :: v1 :: (gp 6 tm) :: le) s)) ∧
  ((∀ (g : LoC) (r : R) (s : S) (tm : T) (le : List V), (qRApply_17_0 g).run r tm (le) s = g.run r (sp 5 (V.nat .i64 2) (sp 4 (V.nil 1) tm)) ((V.nat .i64 2) :: (V.nil 1) :: le) s) ∧
  (∀ (g : LoC) (r : R) (s : S) (tm : T) (le : List V), (qRApply_21_0 g).run r tm (le) s = g.run r (sp 5 (V.nat .i64 0) (sp 4 (gp 6 tm) tm)) ((V.nat .i64 0) :: (gp 6 tm) :: (gp 6 tm) :: le) s)))))) := by
  and_intros <;> first | trivial | (intros; kernel_rfl)
theorem chRApply_1_2 : Ch pc0 fiRApply uRApply_1 2 [6, 5] nilL := chE allRApplyx.1.1.1.1.2
theorem chRApply_1_0 : Ch pc0 fiRApply uRApply_1 0 [] (qRApply_1_0 nilL) := chS rfl allRApplyx.1.1.1.2.1 chRApply_1_2
theorem rgRApply_1 (r : R) (s : S) (tm : T) : cRApply_1.run r tm s = (qRApply_1_0 nilL).run r tm [] s := reg_run allRApplyx.1.1.1.1.1 chRApply_1_0 r s tm
theorem chRApply_4_8 : Ch pc0 fiRApply uRApply_4 8 [15, 14, 13, 12, 11, 10, 9, 8] nilL := chE allRApplyx.1.1.1.2.2.2
theorem chRApply_4_7 : Ch pc0 fiRApply uRApply_4 7 [14, 13, 12, 11, 10, 9, 8] (qRApply_4_7 nilL) := chS rfl allRApplyx.1.1.2.1.1 chRApply_4_8
theorem chRApply_4_4 : Ch pc0 fiRApply uRApply_4 4 [11, 10, 9, 8] (qRApply_4_4 (qRApply_4_7 nilL)) := chS rfl allRApplyx.1.1.2.1.2.1 chRApply_4_7
theorem chRApply_4_0 : Ch pc0 fiRApply uRApply_4 0 [] (qRApply_4_0 (qRApply_4_4 (qRApply_4_7 nilL))) := chS rfl allRApplyx.1.1.2.1.2.2 chRApply_4_4
theorem rgRApply_4 (r : R) (s : S) (tm : T) : cRApply_4.run r tm s = (qRApply_4_0 (qRApply_4_4 (qRApply_4_7 nilL))).run r tm [] s := reg_run allRApplyx.1.1.1.2.2.1 chRApply_4_0 r s tm
theorem chRApply_7_2 : Ch pc0 fiRApply uRApply_7 2 [6, 5] nilL := chE allRApplyx.1.1.2.2.2.1
theorem chRApply_7_0 : Ch pc0 fiRApply uRApply_7 0 [] (qRApply_7_0 nilL) := chS rfl allRApplyx.1.1.2.2.2.2 chRApply_7_2
theorem rgRApply_7 (r : R) (s : S) (tm : T) : cRApply_7.run r tm s = (qRApply_7_0 nilL).run r tm [] s := reg_run allRApplyx.1.1.2.2.1 chRApply_7_0 r s tm
theorem chRApply_11_4 : Ch pc0 fiRApply uRApply_11 4 [7, 18, 17, 16] nilL := chE allRApplyx.1.2.1.1.2.1
theorem chRApply_11_0 : Ch pc0 fiRApply uRApply_11 0 [] (qRApply_11_0 nilL) := chS rfl allRApplyx.1.2.1.1.2.2 chRApply_11_4
theorem rgRApply_11 (r : R) (s : S) (tm : T) : cRApply_11.run r tm s = (qRApply_11_0 nilL).run r tm [] s := reg_run allRApplyx.1.2.1.1.1 chRApply_11_0 r s tm
theorem chRApply_14_3 : Ch pc0 fiRApply uRApply_14 3 [21, 20, 19] nilL := chE allRApplyx.1.2.1.2.2.1
theorem chRApply_14_0 : Ch pc0 fiRApply uRApply_14 0 [] (qRApply_14_0 nilL) := chS rfl allRApplyx.1.2.1.2.2.2 chRApply_14_3
theorem rgRApply_14 (r : R) (s : S) (tm : T) : cRApply_14.run r tm s = (qRApply_14_0 nilL).run r tm [] s := reg_run allRApplyx.1.2.1.2.1 chRApply_14_0 r s tm
theorem chRApply_17_2 : Ch pc0 fiRApply uRApply_17 2 [6, 5] nilL := chE allRApplyx.1.2.2.1.2.1
theorem chRApply_17_0 : Ch pc0 fiRApply uRApply_17 0 [] (qRApply_17_0 nilL) := chS rfl allRApplyx.1.2.2.1.2.2 chRApply_17_2
theorem rgRApply_17 (r : R) (s : S) (tm : T) : cRApply_17.run r tm s = (qRApply_17_0 nilL).run r tm [] s := reg_run allRApplyx.1.2.2.1.1 chRApply_17_0 r s tm
theorem chRApply_21_3 : Ch pc0 fiRApply uRApply_21 3 [6, 5, 22] nilL := chE allRApplyx.1.2.2.2.2.1
theorem chRApply_21_0 : Ch pc0 fiRApply uRApply_21 0 [] (qRApply_21_0 nilL) := chS rfl allRApplyx.1.2.2.2.2.2 chRApply_21_3
theorem rgRApply_21 (r : R) (s : S) (tm : T) : cRApply_21.run r tm s = (qRApply_21_0 nilL).run r tm [] s := reg_run allRApplyx.1.2.2.2.1 chRApply_21_0 r s tm
theorem allRApply : type_of% (And.intro rgRApply_1 (And.intro rgRApply_4 (And.intro rgRApply_7 (And.intro rgRApply_11 (And.intro rgRApply_14 (And.intro rgRApply_17 (And.intro rgRApply_21 allRApplyx.2.2.2))))))) := (And.intro rgRApply_1 (And.intro rgRApply_4 (And.intro rgRApply_7 (And.intro rgRApply_11 (And.intro rgRApply_14 (And.intro rgRApply_17 (And.intro rgRApply_21 allRApplyx.2.2.2)))))))
/- abugida/abugidalaw40.begins: parameters 2, slots in the frame: [(0, 0), (1, 1), (2, 2), (3, 3), (4, 4), (5, 5), (6, 10), (7, 14), (8, 25)] -/
def fiLBegins : FI := ⟨33536960, 26, 4⟩
noncomputable def bodyLBegins : Code := bodyOf Tryz.prog 16
noncomputable def uLBegins_1 : Code := subC [0] bodyLBegins
noncomputable def cLBegins_1 : CoC := comp pc0 fiLBegins uLBegins_1
noncomputable def qLBegins_1_0 : LoC → LoC := qOf pc0 fiLBegins uLBegins_1 0 1 []
noncomputable def uLBegins_4 : Code := subC [1, 0, 0] bodyLBegins
noncomputable def cLBegins_4 : CoC := comp pc0 fiLBegins uLBegins_4
noncomputable def qLBegins_4_0 : LoC → LoC := qOf pc0 fiLBegins uLBegins_4 0 5 []
noncomputable def uLBegins_7 : Code := subC [1, 0, 1, 0, 0] bodyLBegins
noncomputable def cLBegins_7 : CoC := comp pc0 fiLBegins uLBegins_7
noncomputable def qLBegins_7_0 : LoC → LoC := qOf pc0 fiLBegins uLBegins_7 0 1 []
noncomputable def uLBegins_12 : Code := subC [1, 1, 0, 0] bodyLBegins
noncomputable def cLBegins_12 : CoC := comp pc0 fiLBegins uLBegins_12
noncomputable def qLBegins_12_0 : LoC → LoC := qOf pc0 fiLBegins uLBegins_12 0 1 []
noncomputable def uLBegins_17 : Code := subC [1, 1, 0, 1, 0, 0, 0, 0] bodyLBegins
noncomputable def cLBegins_17 : CoC := comp pc0 fiLBegins uLBegins_17
noncomputable def qLBegins_17_0 : LoC → LoC := qOf pc0 fiLBegins uLBegins_17 0 4 []
noncomputable def uLBegins_24 : Code := subC [1, 1, 0, 1, 0, 0, 1, 0, 0, 0] bodyLBegins
noncomputable def cLBegins_24 : CoC := comp pc0 fiLBegins uLBegins_24
noncomputable def qLBegins_24_0 : LoC → LoC := dqOf pc0 fiLBegins uLBegins_24 0 9 []
noncomputable def uLBegins_27 : Code := subC [1, 1, 0, 1, 0, 0, 1, 0, 0, 1, 0, 0] bodyLBegins
noncomputable def cLBegins_27 : CoC := comp pc0 fiLBegins uLBegins_27
noncomputable def qLBegins_27_0 : LoC → LoC := qOf pc0 fiLBegins uLBegins_27 0 1 []
noncomputable def uLBegins_30 : Code := subC [1, 1, 0, 1, 0, 0, 1, 1] bodyLBegins
noncomputable def cLBegins_30 : CoC := comp pc0 fiLBegins uLBegins_30
noncomputable def qLBegins_30_0 : LoC → LoC := qOf pc0 fiLBegins uLBegins_30 0 3 []
noncomputable def uLBegins_14 : Code := subC [1, 1, 0, 1, 0] bodyLBegins
noncomputable def cLBegins_14 : CoC := comp pc0 fiLBegins uLBegins_14
noncomputable def uLBegins_32 : Code := subC [1, 1, 1, 0] bodyLBegins
noncomputable def cLBegins_32 : CoC := comp pc0 fiLBegins uLBegins_32
noncomputable def qLBegins_32_0 : LoC → LoC := qOf pc0 fiLBegins uLBegins_32 0 1 []
noncomputable def cLBegins_0 : CoC := comp pc0 fiLBegins bodyLBegins
noncomputable def finLBegins : T → S → A := finN (resC pc0 fiLBegins (resOf Tryz.prog 16)).run
theorem allLBeginsx :
  (((((regPlain uLBegins_1 = true ∧
  (((regOps uLBegins_1).drop 1).isEmpty = true ∧
  pushes (((regOps uLBegins_1).drop 0).take 1) [] = [5])) ∧
  (regPlain uLBegins_4 = true ∧
  (((regOps uLBegins_4).drop 5).isEmpty = true ∧
  pushes (((regOps uLBegins_4).drop 0).take 5) [] = [11, 10, 9, 8, 7]))) ∧
  ((regPlain uLBegins_7 = true ∧
  (((regOps uLBegins_7).drop 1).isEmpty = true ∧
  pushes (((regOps uLBegins_7).drop 0).take 1) [] = [5])) ∧
  ((regPlain uLBegins_12 = true ∧
  ((regOps uLBegins_12).drop 1).isEmpty = true) ∧
  (pushes (((regOps uLBegins_12).drop 0).take 1) [] = [6] ∧
  regPlain uLBegins_17 = true)))) ∧
  (((((regOps uLBegins_17).drop 4).isEmpty = true ∧
  (pushes (((regOps uLBegins_17).drop 0).take 4) [] = [15, 14, 13, 12] ∧
  regDraw pc0.mixed uLBegins_24 = true)) ∧
  ((((drawSteps (regOps uLBegins_24)).drop 9).isEmpty = true ∧
  dpushes (regOps uLBegins_24) (((drawSteps (regOps uLBegins_24)).drop 0).take 9) [] = [26, 25, 24, 23, 22, 21, 20, 19, 18]) ∧
  (regPlain uLBegins_27 = true ∧
  ((regOps uLBegins_27).drop 1).isEmpty = true))) ∧
  ((pushes (((regOps uLBegins_27).drop 0).take 1) [] = [5] ∧
  (regPlain uLBegins_30 = true ∧
  ((regOps uLBegins_30).drop 3).isEmpty = true)) ∧
  ((pushes (((regOps uLBegins_30).drop 0).take 3) [] = [6, 17, 16] ∧
  regPlain uLBegins_32 = true) ∧
  (((regOps uLBegins_32).drop 1).isEmpty = true ∧
  pushes (((regOps uLBegins_32).drop 0).take 1) [] = [5])))))) ∧ (sizeC uLBegins_14 = 34) ∧ ((∀ (r : R) (s : S) (tm : T), cLBegins_14.run r tm s = seqA (fun tm s => r.code fiLBegins uLBegins_14 tm s) (seqA (fun tm s => seqA (fun tm s => cLBegins_30.run r tm s) (blockA 1 (seqA (fun tm s => condV (gp 8 tm) (seqA (fun tm s => .ret tm s) (cLBegins_27.run r tm s)) (.nrm tm s)) (cLBegins_24.run r tm s)))) (seqA (fun tm s => condV (gp 7 tm) (.nrm tm s) (.ext 0 tm s)) (cLBegins_17.run r tm s))))) ∧ (((((∀ (r : R) (s : S) (x0 x1 : V), (fnC pc0 16).run r [x0, x1] s = outF (bindR (fun tm s => finLBegins tm s) (cLBegins_0.run r (sp 1 x1 (sp 0 x0 T.new)) s))) ∧
  ((∀ (s : S) (tm : T), finLBegins tm s = finV (gp 240 tm) (resV [(gp 4 tm)] s)) ∧
  (∀ (r : R) (s : S) (tm : T), cLBegins_0.run r tm s = seqA (fun tm s => seqA (fun tm s => seqA (fun tm s => seqA (fun tm s => .ret tm s) (cLBegins_32.run r tm s)) (seqA (fun tm s => blockA 0 (cLBegins_14.run r tm s)) (cLBegins_12.run r tm s))) (seqA (fun tm s => condV (gp 6 tm) (seqA (fun tm s => .ret tm s) (cLBegins_7.run r tm s)) (.nrm tm s)) (cLBegins_4.run r tm s))) (cLBegins_1.run r tm s)))) ∧
  ((∀ (g : LoC) (r : R) (s : S) (tm : T) (le : List V), (qLBegins_1_0 g).run r tm (le) s = g.run r (sp 4 (V.bool false) tm) ((V.bool false) :: le) s) ∧
  ((∀ (g : LoC) (r : R) (s : S) (tm : T) (le : List V), (qLBegins_4_0 g).run r tm (le) s = xLenS (gp 1 tm) fun v1 => xLenS (gp 0 tm) fun v3 => xBin ⟨9, []⟩ false .gtr v1 v3 fun v4 => g.run r (sp 6 v4 tm) (v4 :: v3 :: (gp 0 tm) :: v1 :: (gp 1 tm) :: le) s) ∧
  (∀ (g : LoC) (r : R) (s : S) (tm : T) (le : List V), (qLBegins_7_0 g).run r tm (le) s = g.run r (sp 4 (V.bool false) tm) ((V.bool false) :: le) s)))) ∧
  (((∀ (g : LoC) (r : R) (s : S) (tm : T) (le : List V), (qLBegins_12_0 g).run r tm (le) s = g.run r (sp 5 (V.nat .i64 0) tm) ((V.nat .i64 0) :: le) s) ∧
  ((∀ (g : LoC) (r : R) (s : S) (tm : T) (le : List V), (qLBegins_17_0 g).run r tm (le) s = xLenS (gp 1 tm) fun v2 => xBin ⟨9, []⟩ false .lss (gp 5 tm) v2 fun v3 => g.run r (sp 7 v3 tm) (v3 :: v2 :: (gp 1 tm) :: (gp 5 tm) :: le) s) ∧
  (∀ (g : LoC) (r : R) (s : S) (tm : T) (le : List V), (qLBegins_24_0 g).run r tm (le) s = xIdxAddrS 1 (gp 0 tm) (gp 5 tm) fun v2 => xLoad false 1 v2 s fun v3 s => xIdxAddrS 1 (gp 1 tm) (gp 5 tm) fun v6 => xLoad false 1 v6 s fun v7 s => xBin ⟨7, []⟩ false .neq v3 v7 fun v8 => g.run r (sp 8 v8 tm) (v8 :: v7 :: v6 :: (gp 5 tm) :: (gp 1 tm) :: v3 :: v2 :: (gp 5 tm) :: (gp 0 tm) :: le) s))) ∧
  ((∀ (g : LoC) (r : R) (s : S) (tm : T) (le : List V), (qLBegins_27_0 g).run r tm (le) s = g.run r (sp 4 (V.bool false) tm) ((V.bool false) :: le) s) ∧
  ((∀ (g : LoC) (r : R) (s : S) (tm : T) (le : List V), (qLBegins_30_0 g).run r tm (le) s = xBin ⟨9, []⟩ false .add (gp 5 tm) (V.nat .i64 1) fun v1 => g.run r (sp 5 v1 tm) (v1 :: v1 :: (gp 5 tm) :: le) s) ∧
  (∀ (g : LoC) (r : R) (s : S) (tm : T) (le : List V), (qLBegins_32_0 g).run r tm (le) s = g.run r (sp 4 (V.bool true) tm) ((V.bool true) :: le) s)))))) := by
  and_intros <;> first | trivial | (intros; kernel_rfl)
theorem chLBegins_1_1 : Ch pc0 fiLBegins uLBegins_1 1 [5] nilL := chE allLBeginsx.1.1.1.1.2.1
theorem chLBegins_1_0 : Ch pc0 fiLBegins uLBegins_1 0 [] (qLBegins_1_0 nilL) := chS rfl allLBeginsx.1.1.1.1.2.2 chLBegins_1_1
theorem rgLBegins_1 (r : R) (s : S) (tm : T) : cLBegins_1.run r tm s = (qLBegins_1_0 nilL).run r tm [] s := reg_run allLBeginsx.1.1.1.1.1 chLBegins_1_0 r s tm
theorem chLBegins_4_5 : Ch pc0 fiLBegins uLBegins_4 5 [11, 10, 9, 8, 7] nilL := chE allLBeginsx.1.1.1.2.2.1
theorem chLBegins_4_0 : Ch pc0 fiLBegins uLBegins_4 0 [] (qLBegins_4_0 nilL) := chS rfl allLBeginsx.1.1.1.2.2.2 chLBegins_4_5
theorem rgLBegins_4 (r : R) (s : S) (tm : T) : cLBegins_4.run r tm s = (qLBegins_4_0 nilL).run r tm [] s := reg_run allLBeginsx.1.1.1.2.1 chLBegins_4_0 r s tm
theorem chLBegins_7_1 : Ch pc0 fiLBegins uLBegins_7 1 [5] nilL := chE allLBeginsx.1.1.2.1.2.1
theorem chLBegins_7_0 : Ch pc0 fiLBegins uLBegins_7 0 [] (qLBegins_7_0 nilL) := chS rfl allLBeginsx.1.1.2.1.2.2 chLBegins_7_1
theorem rgLBegins_7 (r : R) (s : S) (tm : T) : cLBegins_7.run r tm s = (qLBegins_7_0 nilL).run r tm [] s := reg_run allLBeginsx.1.1.2.1.1 chLBegins_7_0 r s tm
theorem chLBegins_12_1 : Ch pc0 fiLBegins uLBegins_12 1 [6] nilL := chE allLBeginsx.1.1.2.2.1.2
theorem chLBegins_12_0 : Ch pc0 fiLBegins uLBegins_12 0 [] (qLBegins_12_0 nilL) := chS rfl allLBeginsx.1.1.2.2.2.1 chLBegins_12_1
theorem rgLBegins_12 (r : R) (s : S) (tm : T) : cLBegins_12.run r tm s = (qLBegins_12_0 nilL).run r tm [] s := reg_run allLBeginsx.1.1.2.2.1.1 chLBegins_12_0 r s tm
theorem chLBegins_17_4 : Ch pc0 fiLBegins uLBegins_17 4 [15, 14, 13, 12] nilL := chE allLBeginsx.1.2.1.1.1
theorem chLBegins_17_0 : Ch pc0 fiLBegins uLBegins_17 0 [] (qLBegins_17_0 nilL) := chS rfl allLBeginsx.1.2.1.1.2.1 chLBegins_17_4
theorem rgLBegins_17 (r : R) (s : S) (tm : T) : cLBegins_17.run r tm s = (qLBegins_17_0 nilL).run r tm [] s := reg_run allLBeginsx.1.1.2.2.2.2 chLBegins_17_0 r s tm
theorem chLBegins_24_9 : DCh pc0 fiLBegins uLBegins_24 9 [26, 25, 24, 23, 22, 21, 20, 19, 18] nilL := dchE allLBeginsx.1.2.1.2.1.1
theorem chLBegins_24_0 : DCh pc0 fiLBegins uLBegins_24 0 [] (qLBegins_24_0 nilL) := dchS rfl allLBeginsx.1.2.1.2.1.2 chLBegins_24_9
theorem rgLBegins_24 (r : R) (s : S) (tm : T) : cLBegins_24.run r tm s = (qLBegins_24_0 nilL).run r.det tm [] s := reg_drun allLBeginsx.1.2.1.1.2.2 chLBegins_24_0 r s tm
theorem chLBegins_27_1 : Ch pc0 fiLBegins uLBegins_27 1 [5] nilL := chE allLBeginsx.1.2.1.2.2.2
theorem chLBegins_27_0 : Ch pc0 fiLBegins uLBegins_27 0 [] (qLBegins_27_0 nilL) := chS rfl allLBeginsx.1.2.2.1.1 chLBegins_27_1
theorem rgLBegins_27 (r : R) (s : S) (tm : T) : cLBegins_27.run r tm s = (qLBegins_27_0 nilL).run r tm [] s := reg_run allLBeginsx.1.2.1.2.2.1 chLBegins_27_0 r s tm
theorem chLBegins_30_3 : Ch pc0 fiLBegins uLBegins_30 3 [6, 17, 16] nilL := chE allLBeginsx.1.2.2.1.2.2
theorem chLBegins_30_0 : Ch pc0 fiLBegins uLBegins_30 0 [] (qLBegins_30_0 nilL) := chS rfl allLBeginsx.1.2.2.2.1.1 chLBegins_30_3
theorem rgLBegins_30 (r : R) (s : S) (tm : T) : cLBegins_30.run r tm s = (qLBegins_30_0 nilL).run r tm [] s := reg_run allLBeginsx.1.2.2.1.2.1 chLBegins_30_0 r s tm
theorem chLBegins_32_1 : Ch pc0 fiLBegins uLBegins_32 1 [5] nilL := chE allLBeginsx.1.2.2.2.2.1
theorem chLBegins_32_0 : Ch pc0 fiLBegins uLBegins_32 0 [] (qLBegins_32_0 nilL) := chS rfl allLBeginsx.1.2.2.2.2.2 chLBegins_32_1
theorem rgLBegins_32 (r : R) (s : S) (tm : T) : cLBegins_32.run r tm s = (qLBegins_32_0 nilL).run r tm [] s := reg_run allLBeginsx.1.2.2.2.1.2 chLBegins_32_0 r s tm
theorem szLBegins_14 : sizeC uLBegins_14 = 34 := allLBeginsx.2.1
theorem lpLBegins_14 : type_of% allLBeginsx.2.2.1 := allLBeginsx.2.2.1
theorem allLBegins : type_of% (And.intro rgLBegins_1 (And.intro rgLBegins_4 (And.intro rgLBegins_7 (And.intro rgLBegins_12 (And.intro rgLBegins_17 (And.intro rgLBegins_24 (And.intro rgLBegins_27 (And.intro rgLBegins_30 (And.intro rgLBegins_32 allLBeginsx.2.2.2))))))))) := (And.intro rgLBegins_1 (And.intro rgLBegins_4 (And.intro rgLBegins_7 (And.intro rgLBegins_12 (And.intro rgLBegins_17 (And.intro rgLBegins_24 (And.intro rgLBegins_27 (And.intro rgLBegins_30 (And.intro rgLBegins_32 allLBeginsx.2.2.2)))))))))
/- abugida/translit.tree: parameters 1, slots in the frame: [(0, 0), (1, 1), (2, 2), (3, 3), (4, 4), (5, 5), (6, 6), (7, 7), (8, 8), (9, 9), (10, 10), (11, 14), (12, 15), (13, 16), (14, 17), (15, 23), (16, 24), (17, 25), (18, 26), (19, 35)] -/
def fiTree : FI := ⟨72057559552112640, 56, 4⟩
noncomputable def bodyTree : Code := bodyOf Tryz.prog 26
noncomputable def uTree_1 : Code := subC [0] bodyTree
noncomputable def cTree_1 : CoC := comp pc0 fiTree uTree_1
noncomputable def qTree_1_0 : LoC → LoC := qOf pc0 fiTree uTree_1 0 1 []
noncomputable def uTree_3 : Code := subC [1, 0] bodyTree
noncomputable def cTree_3 : CoC := comp pc0 fiTree uTree_3
noncomputable def qTree_3_0 : LoC → LoC := qOf pc0 fiTree uTree_3 0 2 []
noncomputable def uTree_5 : Code := subC [1, 1, 0] bodyTree
noncomputable def cTree_5 : CoC := comp pc0 fiTree uTree_5
noncomputable def qTree_5_0 : LoC → LoC := qOf pc0 fiTree uTree_5 0 2 []
noncomputable def uTree_7 : Code := subC [1, 1, 1, 0] bodyTree
noncomputable def cTree_7 : CoC := comp pc0 fiTree uTree_7
noncomputable def qTree_7_0 : LoC → LoC := qOf pc0 fiTree uTree_7 0 3 []
noncomputable def uTree_10 : Code := subC [1, 1, 1, 1, 0, 0] bodyTree
noncomputable def cTree_10 : CoC := comp pc0 fiTree uTree_10
noncomputable def qTree_10_0 : LoC → LoC := qOf pc0 fiTree uTree_10 0 3 []
noncomputable def uTree_14 : Code := subC [1, 1, 1, 1, 0, 1, 0, 0, 0] bodyTree
noncomputable def cTree_14 : CoC := comp pc0 fiTree uTree_14
noncomputable def qTree_14_0 : LoC → LoC := qOf pc0 fiTree uTree_14 0 1 []
noncomputable def uTree_22 : Code := subC [1, 1, 1, 1, 0, 1, 0, 0, 1, 1, 0, 0, 0] bodyTree
noncomputable def cTree_22 : CoC := comp pc0 fiTree uTree_22
noncomputable def qTree_22_0 : LoC → LoC := qOf pc0 fiTree uTree_22 0 6 []
noncomputable def uTree_24 : Code := subC [1, 1, 1, 1, 0, 1, 0, 0, 1, 1, 0, 0, 1, 0] bodyTree
noncomputable def cTree_24 : CoC := comp pc0 fiTree uTree_24
noncomputable def qTree_24_0 : LoC → LoC := qOf pc0 fiTree uTree_24 0 2 []
noncomputable def uTree_27 : Code := subC [1, 1, 1, 1, 0, 1, 0, 0, 1, 1, 0, 0, 1, 1, 0, 0] bodyTree
noncomputable def cTree_27 : CoC := comp pc0 fiTree uTree_27
noncomputable def qTree_27_0 : LoC → LoC := qOf pc0 fiTree uTree_27 0 4 []
noncomputable def uTree_31 : Code := subC [1, 1, 1, 1, 0, 1, 0, 0, 1, 1, 0, 0, 1, 1, 0, 1, 0, 0, 0] bodyTree
noncomputable def cTree_31 : CoC := comp pc0 fiTree uTree_31
noncomputable def qTree_31_0 : LoC → LoC := qOf pc0 fiTree uTree_31 0 1 []
noncomputable def uTree_39 : Code := subC [1, 1, 1, 1, 0, 1, 0, 0, 1, 1, 0, 0, 1, 1, 0, 1, 0, 0, 1, 1, 0, 0, 0] bodyTree
noncomputable def cTree_39 : CoC := comp pc0 fiTree uTree_39
noncomputable def qTree_39_0 : LoC → LoC := qOf pc0 fiTree uTree_39 0 3 []
noncomputable def uTree_42 : Code := subC [1, 1, 1, 1, 0, 1, 0, 0, 1, 1, 0, 0, 1, 1, 0, 1, 0, 0, 1, 1, 0, 0, 1, 0, 0] bodyTree
noncomputable def cTree_42 : CoC := comp pc0 fiTree uTree_42
noncomputable def qTree_42_0 : LoC → LoC := qOf pc0 fiTree uTree_42 0 7 []
noncomputable def uTree_44 : Code := subC [1, 1, 1, 1, 0, 1, 0, 0, 1, 1, 0, 0, 1, 1, 0, 1, 0, 0, 1, 1, 0, 0, 1, 0, 1, 0] bodyTree
noncomputable def cTree_44 : CoC := comp pc0 fiTree uTree_44
noncomputable def qTree_44_0 : LoC → LoC := dqOf pc0 fiTree uTree_44 0 9 []
noncomputable def uTree_46 : Code := subC [1, 1, 1, 1, 0, 1, 0, 0, 1, 1, 0, 0, 1, 1, 0, 1, 0, 0, 1, 1, 0, 0, 1, 1] bodyTree
noncomputable def cTree_46 : CoC := comp pc0 fiTree uTree_46
noncomputable def qTree_46_0 : LoC → LoC := qOf pc0 fiTree uTree_46 0 7 []
noncomputable def uTree_47 : Code := subC [1, 1, 1, 1, 0, 1, 0, 0, 1, 1, 0, 0, 1, 1, 0, 1, 0, 0, 1, 1, 1] bodyTree
noncomputable def cTree_47 : CoC := comp pc0 fiTree uTree_47
noncomputable def qTree_47_0 : LoC → LoC := qOf pc0 fiTree uTree_47 0 2 []
noncomputable def uTree_29 : Code := subC [1, 1, 1, 1, 0, 1, 0, 0, 1, 1, 0, 0, 1, 1, 0, 1, 0] bodyTree
noncomputable def cTree_29 : CoC := comp pc0 fiTree uTree_29
noncomputable def uTree_48 : Code := subC [1, 1, 1, 1, 0, 1, 0, 0, 1, 1, 0, 0, 1, 1, 1] bodyTree
noncomputable def cTree_48 : CoC := comp pc0 fiTree uTree_48
noncomputable def qTree_48_0 : LoC → LoC := qOf pc0 fiTree uTree_48 0 5 []
noncomputable def uTree_49 : Code := subC [1, 1, 1, 1, 0, 1, 0, 0, 1, 1, 1] bodyTree
noncomputable def cTree_49 : CoC := comp pc0 fiTree uTree_49
noncomputable def qTree_49_0 : LoC → LoC := qOf pc0 fiTree uTree_49 0 2 []
noncomputable def uTree_12 : Code := subC [1, 1, 1, 1, 0, 1, 0] bodyTree
noncomputable def cTree_12 : CoC := comp pc0 fiTree uTree_12
noncomputable def uTree_51 : Code := subC [1, 1, 1, 1, 1, 0] bodyTree
noncomputable def cTree_51 : CoC := comp pc0 fiTree uTree_51
noncomputable def qTree_51_0 : LoC → LoC := qOf pc0 fiTree uTree_51 0 2 []
noncomputable def cTree_0 : CoC := comp pc0 fiTree bodyTree
noncomputable def finTree : T → S → A := finN (resC pc0 fiTree (resOf Tryz.prog 26)).run
theorem allTreex :
  ((((((regPlain uTree_1 = true ∧
  (((regOps uTree_1).drop 1).isEmpty = true ∧
  pushes (((regOps uTree_1).drop 0).take 1) [] = [3])) ∧
  (regPlain uTree_3 = true ∧
  (((regOps uTree_3).drop 2).isEmpty = true ∧
  pushes (((regOps uTree_3).drop 0).take 2) [] = [4]))) ∧
  ((regPlain uTree_5 = true ∧
  (((regOps uTree_5).drop 2).isEmpty = true ∧
  pushes (((regOps uTree_5).drop 0).take 2) [] = [5, 12])) ∧
  ((regPlain uTree_7 = true ∧
  ((regOps uTree_7).drop 3).isEmpty = true) ∧
  (pushes (((regOps uTree_7).drop 0).take 3) [] = [6, 14, 13] ∧
  regPlain uTree_10 = true)))) ∧
  (((((regOps uTree_10).drop 3).isEmpty = true ∧
  (pushes (((regOps uTree_10).drop 0).take 3) [] = [17, 16, 15] ∧
  regPlain uTree_14 = true)) ∧
  ((((regOps uTree_14).drop 1).isEmpty = true ∧
  pushes (((regOps uTree_14).drop 0).take 1) [] = [18]) ∧
  (regPlain uTree_22 = true ∧
  ((regOps uTree_22).drop 6).isEmpty = true))) ∧
  ((pushes (((regOps uTree_22).drop 0).take 6) [] = [7, 8, 21, 20, 19] ∧
  (regPlain uTree_24 = true ∧
  ((regOps uTree_24).drop 2).isEmpty = true)) ∧
  ((pushes (((regOps uTree_24).drop 0).take 2) [] = [9, 22] ∧
  regPlain uTree_27 = true) ∧
  (((regOps uTree_27).drop 4).isEmpty = true ∧
  pushes (((regOps uTree_27).drop 0).take 4) [] = [26, 25, 24, 23]))))) ∧
  ((((regPlain uTree_31 = true ∧
  (((regOps uTree_31).drop 1).isEmpty = true ∧
  pushes (((regOps uTree_31).drop 0).take 1) [] = [27])) ∧
  (regPlain uTree_39 = true ∧
  (((regOps uTree_39).drop 3).isEmpty = true ∧
  pushes (((regOps uTree_39).drop 0).take 3) [] = [11, 29, 28]))) ∧
  ((regPlain uTree_42 = true ∧
  (((regOps uTree_42).drop 7).isEmpty = true ∧
  pushes (((regOps uTree_42).drop 0).take 7) [] = [36, 35, 34, 33, 32, 31, 30])) ∧
  ((regDraw pc0.mixed uTree_44 = true ∧
  ((drawSteps (regOps uTree_44)).drop 9).isEmpty = true) ∧
  (dpushes (regOps uTree_44) (((drawSteps (regOps uTree_44)).drop 0).take 9) [] = [43, 42, 41, 40, 39, 38, 37] ∧
  regPlain uTree_46 = true)))) ∧
  (((((regOps uTree_46).drop 7).isEmpty = true ∧
  (pushes (((regOps uTree_46).drop 0).take 7) [] = [9, 49, 48, 47, 46, 45, 44] ∧
  regPlain uTree_47 = true)) ∧
  ((((regOps uTree_47).drop 2).isEmpty = true ∧
  pushes (((regOps uTree_47).drop 0).take 2) [] = [26, 50]) ∧
  (regPlain uTree_48 = true ∧
  ((regOps uTree_48).drop 5).isEmpty = true))) ∧
  ((pushes (((regOps uTree_48).drop 0).take 5) [] = [54, 53, 52, 51] ∧
  (regPlain uTree_49 = true ∧
  ((regOps uTree_49).drop 2).isEmpty = true)) ∧
  ((pushes (((regOps uTree_49).drop 0).take 2) [] = [17, 55] ∧
  regPlain uTree_51 = true) ∧
  (((regOps uTree_51).drop 2).isEmpty = true ∧
  pushes (((regOps uTree_51).drop 0).take 2) [] = [3, 56]))))))) ∧ ((sizeC uTree_29 = 47 ∧
  sizeC uTree_12 = 86)) ∧ (((∀ (r : R) (s : S) (tm : T), cTree_29.run r tm s = seqA (fun tm s => r.code fiTree uTree_29 tm s) (seqA (fun tm s => seqA (fun tm s => seqA (fun tm s => cTree_47.run r tm s) (blockA 3 (seqA (fun tm s => seqA (fun tm s => cTree_46.run r tm s) (seqA (fun tm s => condV (gp 19 tm) (cTree_44.run r tm s) (.nrm tm s)) (cTree_42.run r tm s))) (cTree_39.run r tm s)))) (condV (gp 18 tm) (.nrm tm s) (.ext 2 tm s))) (cTree_31.run r tm s))) ∧
  (∀ (r : R) (s : S) (tm : T), cTree_12.run r tm s = seqA (fun tm s => r.code fiTree uTree_12 tm s) (seqA (fun tm s => seqA (fun tm s => seqA (fun tm s => cTree_49.run r tm s) (blockA 1 (seqA (fun tm s => seqA (fun tm s => seqA (fun tm s => cTree_48.run r tm s) (seqA (fun tm s => blockA 2 (cTree_29.run r tm s)) (cTree_27.run r tm s))) (cTree_24.run r tm s)) (cTree_22.run r tm s)))) (condV (gp 14 tm) (.nrm tm s) (.ext 0 tm s))) (cTree_14.run r tm s))))) ∧ ((((((∀ (r : R) (s : S) (x0 : V), (fnC pc0 26).run r [x0] s = outF (bindR (fun tm s => finTree tm s) (cTree_0.run r (sp 0 x0 T.new) s))) ∧
  (∀ (s : S) (tm : T), finTree tm s = finV (gp 240 tm) (resV [(gp 2 tm)] s))) ∧
  ((∀ (r : R) (s : S) (tm : T), cTree_0.run r tm s = seqA (fun tm s => seqA (fun tm s => seqA (fun tm s => seqA (fun tm s => seqA (fun tm s => seqA (fun tm s => .ret tm s) (cTree_51.run r tm s)) (seqA (fun tm s => blockA 0 (cTree_12.run r tm s)) (cTree_10.run r tm s))) (cTree_7.run r tm s)) (cTree_5.run r tm s)) (cTree_3.run r tm s)) (cTree_1.run r tm s)) ∧
  ((∀ (g : LoC) (r : R) (s : S) (tm : T) (le : List V), (qTree_1_0 g).run r tm (le) s = g.run r (sp 2 (V.nil 0) tm) ((V.nil 0) :: le) s) ∧
  (∀ (g : LoC) (r : R) (s : S) (tm : T) (le : List V), (qTree_3_0 g).run r tm (le) s = Go.Ev.newRow s 3 [(V.nat .i64 0)] false fun a0k _ s => xStore 1 (V.ptr a0k 0 0) (V.nat .i64 0) s fun v1 s => g.run r (sp 3 (V.ptr a0k 0 0) tm) ((V.ptr a0k 0 0) :: le) s)))) ∧
  (((∀ (g : LoC) (r : R) (s : S) (tm : T) (le : List V), (qTree_5_0 g).run r tm (le) s = g.run r (sp 4 (V.fn (.func 42) [] [(gp 3 tm)]) tm) ((V.fn (.func 42) [] [(gp 3 tm)]) :: (V.fn (.func 42) [] [(gp 3 tm)]) :: le) s) ∧
  (∀ (g : LoC) (r : R) (s : S) (tm : T) (le : List V), (qTree_7_0 g).run r tm (le) s = callV r (gp 4 tm) [] tm s fun v1 s => g.run r (sp 5 v1 tm) (v1 :: v1 :: (gp 4 tm) :: le) s)) ∧
  ((∀ (g : LoC) (r : R) (s : S) (tm : T) (le : List V), (qTree_10_0 g).run r tm (le) s = xLenS (gp 0 tm) fun v1 => g.run r (sp 13 (V.nat .i64 0) (sp 12 v1 (sp 11 (gp 0 tm) tm))) ((V.nat .i64 0) :: v1 :: (gp 0 tm) :: le) s) ∧
  ((∀ (g : LoC) (r : R) (s : S) (tm : T) (le : List V), (qTree_14_0 g).run r tm (le) s = xBin ⟨9, []⟩ false .lss (gp 13 tm) (gp 12 tm) fun v0 => g.run r (sp 14 v0 tm) (v0 :: le) s) ∧
  (∀ (g : LoC) (r : R) (s : S) (tm : T) (le : List V), (qTree_22_0 g).run r tm (le) s = xIdxAddrS 2 (gp 11 tm) (gp 13 tm) fun v1 => xLoad true 2 v1 s fun v2 s => Go.Ev.newRow s 34 [(V.nil 1), (V.nil 1)] false fun a3k _ s => xStore 2 (V.ptr a3k 0 0) v2 s fun v5 s => g.run r (sp 6 (gp 13 tm) (sp 7 (V.ptr a3k 0 0) tm)) ((gp 13 tm) :: (V.ptr a3k 0 0) :: v2 :: v1 :: (gp 13 tm) :: le) s))))) ∧
  ((((∀ (g : LoC) (r : R) (s : S) (tm : T) (le : List V), (qTree_24_0 g).run r tm (le) s = g.run r (sp 8 (gp 5 tm) tm) ((gp 5 tm) :: (gp 5 tm) :: le) s) ∧
  (∀ (g : LoC) (r : R) (s : S) (tm : T) (le : List V), (qTree_27_0 g).run r tm (le) s = xFieldAddr 0 (gp 7 tm) fun v0 => xLoad false 1 v0 s fun v1 s => xLenS v1 fun v2 => g.run r (sp 17 (V.nat .i64 0) (sp 16 v2 (sp 15 v1 tm))) ((V.nat .i64 0) :: v2 :: v1 :: v0 :: le) s)) ∧
  ((∀ (g : LoC) (r : R) (s : S) (tm : T) (le : List V), (qTree_31_0 g).run r tm (le) s = xBin ⟨9, []⟩ false .lss (gp 17 tm) (gp 16 tm) fun v0 => g.run r (sp 18 v0 tm) (v0 :: le) s) ∧
  ((∀ (g : LoC) (r : R) (s : S) (tm : T) (le : List V), (qTree_39_0 g).run r tm (le) s = xIdxAddrS 1 (gp 15 tm) (gp 17 tm) fun v0 => xLoad false 1 v0 s fun v1 s => g.run r (sp 10 v1 tm) (v1 :: v1 :: v0 :: le) s) ∧
  (∀ (g : LoC) (r : R) (s : S) (tm : T) (le : List V), (qTree_42_0 g).run r tm (le) s = xNilCheck (gp 8 tm) fun v1 => xFieldAddr 0 v1 fun v2 => xLoad false 1 v2 s fun v3 s => xLookup ⟨7, []⟩ (V.nil 0) false v3 (gp 10 tm) s fun v5 => xBin ⟨1, []⟩ true .eql v5 (V.nil 0) fun v6 => g.run r (sp 19 v6 tm) (v6 :: v5 :: (gp 10 tm) :: v3 :: v2 :: v1 :: (gp 8 tm) :: le) s)))) ∧
  (((∀ (g : LoC) (r : R) (s : S) (tm : T) (le : List V), (qTree_44_0 g).run r tm (le) s = xNilCheck (gp 8 tm) fun v1 => xFieldAddr 0 v1 fun v2 => xLoad false 1 v2 s fun v3 s => callV r (gp 4 tm) [] tm s fun v6 s => xLoad false 1 v2 s fun v7 s => boolA (beqV v7 v3) (xMapUpd ⟨7, []⟩ v3 (gp 10 tm) v6 s fun v8 s => g.run r tm (v6 :: (gp 4 tm) :: (gp 10 tm) :: v3 :: v2 :: v1 :: (gp 8 tm) :: le) s) (.bad 194)) ∧
  ((∀ (g : LoC) (r : R) (s : S) (tm : T) (le : List V), (qTree_46_0 g).run r tm (le) s = xNilCheck (gp 8 tm) fun v1 => xFieldAddr 0 v1 fun v2 => xLoad false 1 v2 s fun v3 s => xLookup ⟨7, []⟩ (V.nil 0) false v3 (gp 10 tm) s fun v5 => g.run r (sp 8 v5 tm) (v5 :: v5 :: (gp 10 tm) :: v3 :: v2 :: v1 :: (gp 8 tm) :: le) s) ∧
  (∀ (g : LoC) (r : R) (s : S) (tm : T) (le : List V), (qTree_47_0 g).run r tm (le) s = xBin ⟨9, []⟩ false .add (gp 17 tm) (V.nat .i64 1) fun v0 => g.run r (sp 17 v0 tm) (v0 :: v0 :: le) s))) ∧
  ((∀ (g : LoC) (r : R) (s : S) (tm : T) (le : List V), (qTree_48_0 g).run r tm (le) s = xNilCheck (gp 8 tm) fun v2 => xFieldAddr 1 v2 fun v3 => xStore 1 v3 (gp 6 tm) s fun v4 s => g.run r tm (v3 :: v2 :: (gp 6 tm) :: (gp 8 tm) :: le) s) ∧
  ((∀ (g : LoC) (r : R) (s : S) (tm : T) (le : List V), (qTree_49_0 g).run r tm (le) s = xBin ⟨9, []⟩ false .add (gp 13 tm) (V.nat .i64 1) fun v0 => g.run r (sp 13 v0 tm) (v0 :: v0 :: le) s) ∧
  (∀ (g : LoC) (r : R) (s : S) (tm : T) (le : List V), (qTree_51_0 g).run r tm (le) s = g.run r (sp 2 (gp 5 tm) tm) ((gp 5 tm) :: (gp 5 tm) :: le) s))))))) := by
  and_intros <;> first | trivial | (intros; kernel_rfl)
theorem chTree_1_1 : Ch pc0 fiTree uTree_1 1 [3] nilL := chE allTreex.1.1.1.1.1.2.1
theorem chTree_1_0 : Ch pc0 fiTree uTree_1 0 [] (qTree_1_0 nilL) := chS rfl allTreex.1.1.1.1.1.2.2 chTree_1_1
theorem rgTree_1 (r : R) (s : S) (tm : T) : cTree_1.run r tm s = (qTree_1_0 nilL).run r tm [] s := reg_run allTreex.1.1.1.1.1.1 chTree_1_0 r s tm
theorem chTree_3_2 : Ch pc0 fiTree uTree_3 2 [4] nilL := chE allTreex.1.1.1.1.2.2.1
theorem chTree_3_0 : Ch pc0 fiTree uTree_3 0 [] (qTree_3_0 nilL) := chS rfl allTreex.1.1.1.1.2.2.2 chTree_3_2
theorem rgTree_3 (r : R) (s : S) (tm : T) : cTree_3.run r tm s = (qTree_3_0 nilL).run r tm [] s := reg_run allTreex.1.1.1.1.2.1 chTree_3_0 r s tm
theorem chTree_5_2 : Ch pc0 fiTree uTree_5 2 [5, 12] nilL := chE allTreex.1.1.1.2.1.2.1
theorem chTree_5_0 : Ch pc0 fiTree uTree_5 0 [] (qTree_5_0 nilL) := chS rfl allTreex.1.1.1.2.1.2.2 chTree_5_2
theorem rgTree_5 (r : R) (s : S) (tm : T) : cTree_5.run r tm s = (qTree_5_0 nilL).run r tm [] s := reg_run allTreex.1.1.1.2.1.1 chTree_5_0 r s tm
theorem chTree_7_3 : Ch pc0 fiTree uTree_7 3 [6, 14, 13] nilL := chE allTreex.1.1.1.2.2.1.2
theorem chTree_7_0 : Ch pc0 fiTree uTree_7 0 [] (qTree_7_0 nilL) := chS rfl allTreex.1.1.1.2.2.2.1 chTree_7_3
theorem rgTree_7 (r : R) (s : S) (tm : T) : cTree_7.run r tm s = (qTree_7_0 nilL).run r tm [] s := reg_run allTreex.1.1.1.2.2.1.1 chTree_7_0 r s tm
theorem chTree_10_3 : Ch pc0 fiTree uTree_10 3 [17, 16, 15] nilL := chE allTreex.1.1.2.1.1.1
theorem chTree_10_0 : Ch pc0 fiTree uTree_10 0 [] (qTree_10_0 nilL) := chS rfl allTreex.1.1.2.1.1.2.1 chTree_10_3
theorem rgTree_10 (r : R) (s : S) (tm : T) : cTree_10.run r tm s = (qTree_10_0 nilL).run r tm [] s := reg_run allTreex.1.1.1.2.2.2.2 chTree_10_0 r s tm
theorem chTree_14_1 : Ch pc0 fiTree uTree_14 1 [18] nilL := chE allTreex.1.1.2.1.2.1.1
theorem chTree_14_0 : Ch pc0 fiTree uTree_14 0 [] (qTree_14_0 nilL) := chS rfl allTreex.1.1.2.1.2.1.2 chTree_14_1
theorem rgTree_14 (r : R) (s : S) (tm : T) : cTree_14.run r tm s = (qTree_14_0 nilL).run r tm [] s := reg_run allTreex.1.1.2.1.1.2.2 chTree_14_0 r s tm
theorem chTree_22_6 : Ch pc0 fiTree uTree_22 6 [7, 8, 21, 20, 19] nilL := chE allTreex.1.1.2.1.2.2.2
theorem chTree_22_0 : Ch pc0 fiTree uTree_22 0 [] (qTree_22_0 nilL) := chS rfl allTreex.1.1.2.2.1.1 chTree_22_6
theorem rgTree_22 (r : R) (s : S) (tm : T) : cTree_22.run r tm s = (qTree_22_0 nilL).run r tm [] s := reg_run allTreex.1.1.2.1.2.2.1 chTree_22_0 r s tm
theorem chTree_24_2 : Ch pc0 fiTree uTree_24 2 [9, 22] nilL := chE allTreex.1.1.2.2.1.2.2
theorem chTree_24_0 : Ch pc0 fiTree uTree_24 0 [] (qTree_24_0 nilL) := chS rfl allTreex.1.1.2.2.2.1.1 chTree_24_2
theorem rgTree_24 (r : R) (s : S) (tm : T) : cTree_24.run r tm s = (qTree_24_0 nilL).run r tm [] s := reg_run allTreex.1.1.2.2.1.2.1 chTree_24_0 r s tm
theorem chTree_27_4 : Ch pc0 fiTree uTree_27 4 [26, 25, 24, 23] nilL := chE allTreex.1.1.2.2.2.2.1
theorem chTree_27_0 : Ch pc0 fiTree uTree_27 0 [] (qTree_27_0 nilL) := chS rfl allTreex.1.1.2.2.2.2.2 chTree_27_4
theorem rgTree_27 (r : R) (s : S) (tm : T) : cTree_27.run r tm s = (qTree_27_0 nilL).run r tm [] s := reg_run allTreex.1.1.2.2.2.1.2 chTree_27_0 r s tm
theorem chTree_31_1 : Ch pc0 fiTree uTree_31 1 [27] nilL := chE allTreex.1.2.1.1.1.2.1
theorem chTree_31_0 : Ch pc0 fiTree uTree_31 0 [] (qTree_31_0 nilL) := chS rfl allTreex.1.2.1.1.1.2.2 chTree_31_1
theorem rgTree_31 (r : R) (s : S) (tm : T) : cTree_31.run r tm s = (qTree_31_0 nilL).run r tm [] s := reg_run allTreex.1.2.1.1.1.1 chTree_31_0 r s tm
theorem chTree_39_3 : Ch pc0 fiTree uTree_39 3 [11, 29, 28] nilL := chE allTreex.1.2.1.1.2.2.1
theorem chTree_39_0 : Ch pc0 fiTree uTree_39 0 [] (qTree_39_0 nilL) := chS rfl allTreex.1.2.1.1.2.2.2 chTree_39_3
theorem rgTree_39 (r : R) (s : S) (tm : T) : cTree_39.run r tm s = (qTree_39_0 nilL).run r tm [] s := reg_run allTreex.1.2.1.1.2.1 chTree_39_0 r s tm
theorem chTree_42_7 : Ch pc0 fiTree uTree_42 7 [36, 35, 34, 33, 32, 31, 30] nilL := chE allTreex.1.2.1.2.1.2.1
theorem chTree_42_0 : Ch pc0 fiTree uTree_42 0 [] (qTree_42_0 nilL) := chS rfl allTreex.1.2.1.2.1.2.2 chTree_42_7
theorem rgTree_42 (r : R) (s : S) (tm : T) : cTree_42.run r tm s = (qTree_42_0 nilL).run r tm [] s := reg_run allTreex.1.2.1.2.1.1 chTree_42_0 r s tm
theorem chTree_44_9 : DCh pc0 fiTree uTree_44 9 [43, 42, 41, 40, 39, 38, 37] nilL := dchE allTreex.1.2.1.2.2.1.2
theorem chTree_44_0 : DCh pc0 fiTree uTree_44 0 [] (qTree_44_0 nilL) := dchS rfl allTreex.1.2.1.2.2.2.1 chTree_44_9
theorem rgTree_44 (r : R) (s : S) (tm : T) : cTree_44.run r tm s = (qTree_44_0 nilL).run r.det tm [] s := reg_drun allTreex.1.2.1.2.2.1.1 chTree_44_0 r s tm
theorem chTree_46_7 : Ch pc0 fiTree uTree_46 7 [9, 49, 48, 47, 46, 45, 44] nilL := chE allTreex.1.2.2.1.1.1
theorem chTree_46_0 : Ch pc0 fiTree uTree_46 0 [] (qTree_46_0 nilL) := chS rfl allTreex.1.2.2.1.1.2.1 chTree_46_7
theorem rgTree_46 (r : R) (s : S) (tm : T) : cTree_46.run r tm s = (qTree_46_0 nilL).run r tm [] s := reg_run allTreex.1.2.1.2.2.2.2 chTree_46_0 r s tm
theorem chTree_47_2 : Ch pc0 fiTree uTree_47 2 [26, 50] nilL := chE allTreex.1.2.2.1.2.1.1
theorem chTree_47_0 : Ch pc0 fiTree uTree_47 0 [] (qTree_47_0 nilL) := chS rfl allTreex.1.2.2.1.2.1.2 chTree_47_2
theorem rgTree_47 (r : R) (s : S) (tm : T) : cTree_47.run r tm s = (qTree_47_0 nilL).run r tm [] s := reg_run allTreex.1.2.2.1.1.2.2 chTree_47_0 r s tm
theorem chTree_48_5 : Ch pc0 fiTree uTree_48 5 [54, 53, 52, 51] nilL := chE allTreex.1.2.2.1.2.2.2
theorem chTree_48_0 : Ch pc0 fiTree uTree_48 0 [] (qTree_48_0 nilL) := chS rfl allTreex.1.2.2.2.1.1 chTree_48_5
theorem rgTree_48 (r : R) (s : S) (tm : T) : cTree_48.run r tm s = (qTree_48_0 nilL).run r tm [] s := reg_run allTreex.1.2.2.1.2.2.1 chTree_48_0 r s tm
theorem chTree_49_2 : Ch pc0 fiTree uTree_49 2 [17, 55] nilL := chE allTreex.1.2.2.2.1.2.2
theorem chTree_49_0 : Ch pc0 fiTree uTree_49 0 [] (qTree_49_0 nilL) := chS rfl allTreex.1.2.2.2.2.1.1 chTree_49_2
theorem rgTree_49 (r : R) (s : S) (tm : T) : cTree_49.run r tm s = (qTree_49_0 nilL).run r tm [] s := reg_run allTreex.1.2.2.2.1.2.1 chTree_49_0 r s tm
theorem chTree_51_2 : Ch pc0 fiTree uTree_51 2 [3, 56] nilL := chE allTreex.1.2.2.2.2.2.1
theorem chTree_51_0 : Ch pc0 fiTree uTree_51 0 [] (qTree_51_0 nilL) := chS rfl allTreex.1.2.2.2.2.2.2 chTree_51_2
theorem rgTree_51 (r : R) (s : S) (tm : T) : cTree_51.run r tm s = (qTree_51_0 nilL).run r tm [] s := reg_run allTreex.1.2.2.2.2.1.2 chTree_51_0 r s tm
theorem szTree_29 : sizeC uTree_29 = 47 := allTreex.2.1.1
theorem szTree_12 : sizeC uTree_12 = 86 := allTreex.2.1.2
theorem lpTree_29 : type_of% allTreex.2.2.1.1 := allTreex.2.2.1.1
theorem lpTree_12 : type_of% allTreex.2.2.1.2 := allTreex.2.2.1.2
theorem allTree : type_of% (And.intro rgTree_1 (And.intro rgTree_3 (And.intro rgTree_5 (And.intro rgTree_7 (And.intro rgTree_10 (And.intro rgTree_14 (And.intro rgTree_22 (And.intro rgTree_24 (And.intro rgTree_27 (And.intro rgTree_31 (And.intro rgTree_39 (And.intro rgTree_42 (And.intro rgTree_44 (And.intro rgTree_46 (And.intro rgTree_47 (And.intro rgTree_48 (And.intro rgTree_49 (And.intro rgTree_51 allTreex.2.2.2)))))))))))))))))) := (And.intro rgTree_1 (And.intro rgTree_3 (And.intro rgTree_5 (And.intro rgTree_7 (And.intro rgTree_10 (And.intro rgTree_14 (And.intro rgTree_22 (And.intro rgTree_24 (And.intro rgTree_27 (And.intro rgTree_31 (And.intro rgTree_39 (And.intro rgTree_42 (And.intro rgTree_44 (And.intro rgTree_46 (And.intro rgTree_47 (And.intro rgTree_48 (And.intro rgTree_49 (And.intro rgTree_51 allTreex.2.2.2))))))))))))))))))
/- abugida/abugidaref40.Result: parameters 2, slots in the frame: [(0, 0), (1, 1), (2, 2), (3, 3), (4, 4), (5, 5), (6, 6), (7, 7), (8, 10)] -/
def fiRResult : FI := ⟨16775936, 24, 4⟩
noncomputable def bodyRResult : Code := bodyOf Tryz.prog 27
noncomputable def uRResult_1 : Code := subC [0] bodyRResult
noncomputable def cRResult_1 : CoC := comp pc0 fiRResult uRResult_1
noncomputable def qRResult_1_0 : LoC → LoC := qOf pc0 fiRResult uRResult_1 0 1 []
noncomputable def uRResult_3 : Code := subC [1, 0] bodyRResult
noncomputable def cRResult_3 : CoC := comp pc0 fiRResult uRResult_3
noncomputable def qRResult_3_0 : LoC → LoC := qOf pc0 fiRResult uRResult_3 0 1 []
noncomputable def uRResult_9 : Code := subC [1, 1, 0, 0, 0, 0, 0] bodyRResult
noncomputable def cRResult_9 : CoC := comp pc0 fiRResult uRResult_9
noncomputable def qRResult_9_0 : LoC → LoC := qOf pc0 fiRResult uRResult_9 0 3 []
noncomputable def uRResult_15 : Code := subC [1, 1, 0, 0, 0, 1, 0, 0] bodyRResult
noncomputable def cRResult_15 : CoC := comp pc0 fiRResult uRResult_15
noncomputable def qRResult_15_0 : LoC → LoC := qOf pc0 fiRResult uRResult_15 0 8 []
noncomputable def uRResult_17 : Code := subC [1, 1, 0, 0, 0, 1, 0, 1, 0] bodyRResult
noncomputable def cRResult_17 : CoC := comp pc0 fiRResult uRResult_17
noncomputable def qRResult_17_0 : LoC → LoC := qOf pc0 fiRResult uRResult_17 0 4 []
noncomputable def uRResult_18 : Code := subC [1, 1, 0, 0, 0, 1, 0, 1, 1] bodyRResult
noncomputable def cRResult_18 : CoC := comp pc0 fiRResult uRResult_18
noncomputable def qRResult_18_0 : LoC → LoC := qOf pc0 fiRResult uRResult_18 0 4 []
noncomputable def uRResult_6 : Code := subC [1, 1, 0, 0] bodyRResult
noncomputable def cRResult_6 : CoC := comp pc0 fiRResult uRResult_6
noncomputable def uRResult_20 : Code := subC [1, 1, 1, 0] bodyRResult
noncomputable def cRResult_20 : CoC := comp pc0 fiRResult uRResult_20
noncomputable def qRResult_20_0 : LoC → LoC := qOf pc0 fiRResult uRResult_20 0 2 []
noncomputable def cRResult_0 : CoC := comp pc0 fiRResult bodyRResult
noncomputable def finRResult : T → S → A := finN (resC pc0 fiRResult (resOf Tryz.prog 27)).run
theorem allRResultx :
  (((((regPlain uRResult_1 = true ∧
  ((regOps uRResult_1).drop 1).isEmpty = true) ∧
  (pushes (((regOps uRResult_1).drop 0).take 1) [] = [5] ∧
  (regPlain uRResult_3 = true ∧
  ((regOps uRResult_3).drop 1).isEmpty = true))) ∧
  ((pushes (((regOps uRResult_3).drop 0).take 1) [] = [6] ∧
  regPlain uRResult_9 = true) ∧
  (((regOps uRResult_9).drop 3).isEmpty = true ∧
  (pushes (((regOps uRResult_9).drop 0).take 3) [] = [11, 10, 9] ∧
  regPlain uRResult_15 = true)))) ∧
  (((((regOps uRResult_15).drop 8).isEmpty = true ∧
  pushes (((regOps uRResult_15).drop 0).take 8) [] = [8, 7, 17, 16, 12, 15, 14, 13]) ∧
  (regPlain uRResult_17 = true ∧
  (((regOps uRResult_17).drop 4).isEmpty = true ∧
  pushes (((regOps uRResult_17).drop 0).take 4) [] = [6, 20, 19, 18]))) ∧
  ((regPlain uRResult_18 = true ∧
  (((regOps uRResult_18).drop 4).isEmpty = true ∧
  pushes (((regOps uRResult_18).drop 0).take 4) [] = [2, 23, 22, 21])) ∧
  (regPlain uRResult_20 = true ∧
  (((regOps uRResult_20).drop 2).isEmpty = true ∧
  pushes (((regOps uRResult_20).drop 0).take 2) [] = [5, 24])))))) ∧ (sizeC uRResult_6 = 32) ∧ ((∀ (r : R) (s : S) (tm : T), cRResult_6.run r tm s = seqA (fun tm s => r.code fiRResult uRResult_6 tm s) (seqA (fun tm s => blockA 1 (seqA (fun tm s => seqA (fun tm s => cRResult_18.run r tm s) (cRResult_17.run r tm s)) (cRResult_15.run r tm s))) (seqA (fun tm s => condV (gp 8 tm) (.nrm tm s) (.ext 0 tm s)) (cRResult_9.run r tm s))))) ∧ (((((∀ (r : R) (s : S) (x0 x1 : V), (fnC pc0 27).run r [x0, x1] s = outF (bindR (fun tm s => finRResult tm s) (cRResult_0.run r (sp 1 x1 (sp 0 x0 T.new)) s))) ∧
  (∀ (s : S) (tm : T), finRResult tm s = finV (gp 240 tm) (resV [(gp 4 tm)] s))) ∧
  ((∀ (r : R) (s : S) (tm : T), cRResult_0.run r tm s = seqA (fun tm s => seqA (fun tm s => seqA (fun tm s => seqA (fun tm s => .ret tm s) (cRResult_20.run r tm s)) (blockA 0 (cRResult_6.run r tm s))) (cRResult_3.run r tm s)) (cRResult_1.run r tm s)) ∧
  ((∀ (g : LoC) (r : R) (s : S) (tm : T) (le : List V), (qRResult_1_0 g).run r tm (le) s = g.run r (sp 4 (V.nil 1) tm) ((V.nil 1) :: le) s) ∧
  (∀ (g : LoC) (r : R) (s : S) (tm : T) (le : List V), (qRResult_3_0 g).run r tm (le) s = g.run r (sp 5 (V.nil 1) tm) ((V.nil 1) :: le) s)))) ∧
  (((∀ (g : LoC) (r : R) (s : S) (tm : T) (le : List V), (qRResult_9_0 g).run r tm (le) s = xLenS (gp 1 tm) fun v1 => xBin ⟨9, []⟩ false .gtr v1 (V.nat .i64 0) fun v2 => g.run r (sp 8 v2 tm) (v2 :: v1 :: (gp 1 tm) :: le) s) ∧
  (∀ (g : LoC) (r : R) (s : S) (tm : T) (le : List V), (qRResult_15_0 g).run r tm (le) s = foldF (r.call 43 [(gp 0 tm), (gp 1 tm)] s) fun v2 s => xExtract 0 v2 fun v4 => xExtract 1 v2 fun v5 => g.run r (sp 7 v5 (sp 6 v4 tm)) (v5 :: v4 :: v5 :: v4 :: v2 :: v2 :: (gp 1 tm) :: (gp 0 tm) :: le) s)) ∧
  ((∀ (g : LoC) (r : R) (s : S) (tm : T) (le : List V), (qRResult_17_0 g).run r tm (le) s = xAppend 3 1 (gp 5 tm) (gp 7 tm) s fun v2 s => g.run r (sp 5 v2 tm) (v2 :: v2 :: (gp 7 tm) :: (gp 5 tm) :: le) s) ∧
  ((∀ (g : LoC) (r : R) (s : S) (tm : T) (le : List V), (qRResult_18_0 g).run r tm (le) s = xSlice 3 1 (gp 1 tm) (some (gp 6 tm)) none none s fun v2 => g.run r (sp 1 v2 tm) (v2 :: v2 :: (gp 6 tm) :: (gp 1 tm) :: le) s) ∧
  (∀ (g : LoC) (r : R) (s : S) (tm : T) (le : List V), (qRResult_20_0 g).run r tm (le) s = g.run r (sp 4 (gp 5 tm) tm) ((gp 5 tm) :: (gp 5 tm) :: le) s)))))) := by
  and_intros <;> first | trivial | (intros; kernel_rfl)
theorem chRResult_1_1 : Ch pc0 fiRResult uRResult_1 1 [5] nilL := chE allRResultx.1.1.1.1.2
theorem chRResult_1_0 : Ch pc0 fiRResult uRResult_1 0 [] (qRResult_1_0 nilL) := chS rfl allRResultx.1.1.1.2.1 chRResult_1_1
theorem rgRResult_1 (r : R) (s : S) (tm : T) : cRResult_1.run r tm s = (qRResult_1_0 nilL).run r tm [] s := reg_run allRResultx.1.1.1.1.1 chRResult_1_0 r s tm
theorem chRResult_3_1 : Ch pc0 fiRResult uRResult_3 1 [6] nilL := chE allRResultx.1.1.1.2.2.2
theorem chRResult_3_0 : Ch pc0 fiRResult uRResult_3 0 [] (qRResult_3_0 nilL) := chS rfl allRResultx.1.1.2.1.1 chRResult_3_1
theorem rgRResult_3 (r : R) (s : S) (tm : T) : cRResult_3.run r tm s = (qRResult_3_0 nilL).run r tm [] s := reg_run allRResultx.1.1.1.2.2.1 chRResult_3_0 r s tm
theorem chRResult_9_3 : Ch pc0 fiRResult uRResult_9 3 [11, 10, 9] nilL := chE allRResultx.1.1.2.2.1
theorem chRResult_9_0 : Ch pc0 fiRResult uRResult_9 0 [] (qRResult_9_0 nilL) := chS rfl allRResultx.1.1.2.2.2.1 chRResult_9_3
theorem rgRResult_9 (r : R) (s : S) (tm : T) : cRResult_9.run r tm s = (qRResult_9_0 nilL).run r tm [] s := reg_run allRResultx.1.1.2.1.2 chRResult_9_0 r s tm
theorem chRResult_15_8 : Ch pc0 fiRResult uRResult_15 8 [8, 7, 17, 16, 12, 15, 14, 13] nilL := chE allRResultx.1.2.1.1.1
theorem chRResult_15_0 : Ch pc0 fiRResult uRResult_15 0 [] (qRResult_15_0 nilL) := chS rfl allRResultx.1.2.1.1.2 chRResult_15_8
theorem rgRResult_15 (r : R) (s : S) (tm : T) : cRResult_15.run r tm s = (qRResult_15_0 nilL).run r tm [] s := reg_run allRResultx.1.1.2.2.2.2 chRResult_15_0 r s tm
theorem chRResult_17_4 : Ch pc0 fiRResult uRResult_17 4 [6, 20, 19, 18] nilL := chE allRResultx.1.2.1.2.2.1
theorem chRResult_17_0 : Ch pc0 fiRResult uRResult_17 0 [] (qRResult_17_0 nilL) := chS rfl allRResultx.1.2.1.2.2.2 chRResult_17_4
theorem rgRResult_17 (r : R) (s : S) (tm : T) : cRResult_17.run r tm s = (qRResult_17_0 nilL).run r tm [] s := reg_run allRResultx.1.2.1.2.1 chRResult_17_0 r s tm
theorem chRResult_18_4 : Ch pc0 fiRResult uRResult_18 4 [2, 23, 22, 21] nilL := chE allRResultx.1.2.2.1.2.1
theorem chRResult_18_0 : Ch pc0 fiRResult uRResult_18 0 [] (qRResult_18_0 nilL) := chS rfl allRResultx.1.2.2.1.2.2 chRResult_18_4
theorem rgRResult_18 (r : R) (s : S) (tm : T) : cRResult_18.run r tm s = (qRResult_18_0 nilL).run r tm [] s := reg_run allRResultx.1.2.2.1.1 chRResult_18_0 r s tm
theorem chRResult_20_2 : Ch pc0 fiRResult uRResult_20 2 [5, 24] nilL := chE allRResultx.1.2.2.2.2.1
theorem chRResult_20_0 : Ch pc0 fiRResult uRResult_20 0 [] (qRResult_20_0 nilL) := chS rfl allRResultx.1.2.2.2.2.2 chRResult_20_2
theorem rgRResult_20 (r : R) (s : S) (tm : T) : cRResult_20.run r tm s = (qRResult_20_0 nilL).run r tm [] s := reg_run allRResultx.1.2.2.2.1 chRResult_20_0 r s tm
theorem szRResult_6 : sizeC uRResult_6 = 32 := allRResultx.2.1
theorem lpRResult_6 : type_of% allRResultx.2.2.1 := allRResultx.2.2.1
theorem allRResult : type_of% (And.intro rgRResult_1 (And.intro rgRResult_3 (And.intro rgRResult_9 (And.intro rgRResult_15 (And.intro rgRResult_17 (And.intro rgRResult_18 (And.intro rgRResult_20 allRResultx.2.2.2))))))) := (And.intro rgRResult_1 (And.intro rgRResult_3 (And.intro rgRResult_9 (And.intro rgRResult_15 (And.intro rgRResult_17 (And.intro rgRResult_18 (And.intro rgRResult_20 allRResultx.2.2.2)))))))
/- abugida/translit.tree$1: parameters 0, slots in the frame: [(0, 0), (1, 1)] -/
def fiTreeC : FI := ⟨252, 8, 4⟩
noncomputable def bodyTreeC : Code := bodyOf Tryz.prog 42
noncomputable def uTreeC_1 : Code := subC [0] bodyTreeC
noncomputable def cTreeC_1 : CoC := comp pc0 fiTreeC uTreeC_1
noncomputable def qTreeC_1_0 : LoC → LoC := qOf pc0 fiTreeC uTreeC_1 0 1 []
noncomputable def uTreeC_3 : Code := subC [1, 0] bodyTreeC
noncomputable def cTreeC_3 : CoC := comp pc0 fiTreeC uTreeC_3
noncomputable def qTreeC_3_0 : LoC → LoC := qOf pc0 fiTreeC uTreeC_3 0 3 []
noncomputable def uTreeC_5 : Code := subC [1, 1, 0] bodyTreeC
noncomputable def cTreeC_5 : CoC := comp pc0 fiTreeC uTreeC_5
noncomputable def qTreeC_5_0 : LoC → LoC := qOf pc0 fiTreeC uTreeC_5 0 5 []
noncomputable def cTreeC_0 : CoC := comp pc0 fiTreeC bodyTreeC
noncomputable def finTreeC : T → S → A := finN (resC pc0 fiTreeC (resOf Tryz.prog 42)).run
theorem allTreeCx :
  ((((regPlain uTreeC_1 = true ∧
  ((regOps uTreeC_1).drop 1).isEmpty = true) ∧
  (pushes (((regOps uTreeC_1).drop 0).take 1) [] = [2] ∧
  regPlain uTreeC_3 = true)) ∧
  ((((regOps uTreeC_3).drop 3).isEmpty = true ∧
  pushes (((regOps uTreeC_3).drop 0).take 3) [] = [4, 3]) ∧
  (regPlain uTreeC_5 = true ∧
  (((regOps uTreeC_5).drop 5).isEmpty = true ∧
  pushes (((regOps uTreeC_5).drop 0).take 5) [] = [2, 8, 7, 6, 5]))))) ∧ (True) ∧ (True) ∧ ((((∀ (r : R) (s : S) (x0 : V), (fnC pc0 42).run r [x0] s = outF (bindR (fun tm s => finTreeC tm s) (cTreeC_0.run r (sp 0 x0 T.new) s))) ∧
  ((∀ (s : S) (tm : T), finTreeC tm s = finV (gp 240 tm) (resV [(gp 1 tm)] s)) ∧
  (∀ (r : R) (s : S) (tm : T), cTreeC_0.run r tm s = seqA (fun tm s => seqA (fun tm s => seqA (fun tm s => .ret tm s) (cTreeC_5.run r tm s)) (cTreeC_3.run r tm s)) (cTreeC_1.run r tm s)))) ∧
  ((∀ (g : LoC) (r : R) (s : S) (tm : T) (le : List V), (qTreeC_1_0 g).run r tm (le) s = g.run r (sp 1 (V.nil 0) tm) ((V.nil 0) :: le) s) ∧
  ((∀ (g : LoC) (r : R) (s : S) (tm : T) (le : List V), (qTreeC_3_0 g).run r tm (le) s = xLoad false 1 (gp 0 tm) s fun v0 s => xBin ⟨9, []⟩ false .add v0 (V.nat .i64 1) fun v1 => xStore 1 (gp 0 tm) v1 s fun v2 s => g.run r tm (v1 :: v0 :: le) s) ∧
  (∀ (g : LoC) (r : R) (s : S) (tm : T) (le : List V), (qTreeC_5_0 g).run r tm (le) s = hnew s (.map [] 0) fun a0k s => xLoad false 1 (gp 0 tm) s fun v1 s => cellsC 1 (V.ref 0 a0k) fun x2_0 => updL x2_0 0 [(V.nil 2), (V.nat .i64 0), (V.nat .i64 0)] fun l2_0 => cellsC 1 (V.neg .i64 0) fun x2_1 => updL x2_1 1 l2_0 fun l2_1 => cellsC 1 v1 fun x2_2 => updL x2_2 2 l2_1 fun l2_2 => cellsC 3 (V.ls 0 l2_2) fun l3 => Go.Ev.newRow s 56 l3 false fun a3k _ s => g.run r (sp 1 (V.ptr a3k 0 0) tm) ((V.ptr a3k 0 0) :: (V.ptr a3k 0 0) :: (V.ls 0 l2_2) :: v1 :: (V.ref 0 a0k) :: le) s))))) := by
  and_intros <;> first | trivial | (intros; kernel_rfl)
theorem chTreeC_1_1 : Ch pc0 fiTreeC uTreeC_1 1 [2] nilL := chE allTreeCx.1.1.1.2
theorem chTreeC_1_0 : Ch pc0 fiTreeC uTreeC_1 0 [] (qTreeC_1_0 nilL) := chS rfl allTreeCx.1.1.2.1 chTreeC_1_1
theorem rgTreeC_1 (r : R) (s : S) (tm : T) : cTreeC_1.run r tm s = (qTreeC_1_0 nilL).run r tm [] s := reg_run allTreeCx.1.1.1.1 chTreeC_1_0 r s tm
theorem chTreeC_3_3 : Ch pc0 fiTreeC uTreeC_3 3 [4, 3] nilL := chE allTreeCx.1.2.1.1
theorem chTreeC_3_0 : Ch pc0 fiTreeC uTreeC_3 0 [] (qTreeC_3_0 nilL) := chS rfl allTreeCx.1.2.1.2 chTreeC_3_3
theorem rgTreeC_3 (r : R) (s : S) (tm : T) : cTreeC_3.run r tm s = (qTreeC_3_0 nilL).run r tm [] s := reg_run allTreeCx.1.1.2.2 chTreeC_3_0 r s tm
theorem chTreeC_5_5 : Ch pc0 fiTreeC uTreeC_5 5 [2, 8, 7, 6, 5] nilL := chE allTreeCx.1.2.2.2.1
theorem chTreeC_5_0 : Ch pc0 fiTreeC uTreeC_5 0 [] (qTreeC_5_0 nilL) := chS rfl allTreeCx.1.2.2.2.2 chTreeC_5_5
theorem rgTreeC_5 (r : R) (s : S) (tm : T) : cTreeC_5.run r tm s = (qTreeC_5_0 nilL).run r tm [] s := reg_run allTreeCx.1.2.2.1 chTreeC_5_0 r s tm
theorem allTreeC : type_of% (And.intro rgTreeC_1 (And.intro rgTreeC_3 (And.intro rgTreeC_5 allTreeCx.2.2.2))) := (And.intro rgTreeC_1 (And.intro rgTreeC_3 (And.intro rgTreeC_5 allTreeCx.2.2.2)))
/- abugida/abugidaref40.Step: parameters 2, slots in the frame: [(0, 0), (1, 1), (2, 2), (3, 3), (4, 4), (5, 5), (6, 6), (7, 7), (8, 8), (9, 9), (10, 15), (11, 38)] -/
def fiRStep : FI := ⟨4503324749429760, 52, 4⟩
noncomputable def bodyRStep : Code := bodyOf Tryz.prog 43
noncomputable def uRStep_1 : Code := subC [0] bodyRStep
noncomputable def cRStep_1 : CoC := comp pc0 fiRStep uRStep_1
noncomputable def qRStep_1_0 : LoC → LoC := qOf pc0 fiRStep uRStep_1 0 2 []
noncomputable def uRStep_3 : Code := subC [1, 0] bodyRStep
noncomputable def cRStep_3 : CoC := comp pc0 fiRStep uRStep_3
noncomputable def qRStep_3_0 : LoC → LoC := dqOf pc0 fiRStep uRStep_3 0 4 []
noncomputable def uRStep_5 : Code := subC [1, 1, 0] bodyRStep
noncomputable def cRStep_5 : CoC := comp pc0 fiRStep uRStep_5
noncomputable def qRStep_5_0 : LoC → LoC := qOf pc0 fiRStep uRStep_5 0 1 []
noncomputable def uRStep_8 : Code := subC [1, 1, 1, 0, 0] bodyRStep
noncomputable def cRStep_8 : CoC := comp pc0 fiRStep uRStep_8
noncomputable def qRStep_8_0 : LoC → LoC := qOf pc0 fiRStep uRStep_8 0 1 []
noncomputable def uRStep_13 : Code := subC [1, 1, 1, 0, 1, 0, 0, 0, 0] bodyRStep
noncomputable def cRStep_13 : CoC := comp pc0 fiRStep uRStep_13
noncomputable def qRStep_13_0 : LoC → LoC := qOf pc0 fiRStep uRStep_13 0 4 []
noncomputable def uRStep_20 : Code := subC [1, 1, 1, 0, 1, 0, 0, 1, 0, 0, 0] bodyRStep
noncomputable def cRStep_20 : CoC := comp pc0 fiRStep uRStep_20
noncomputable def qRStep_20_20 : LoC → LoC := qOf pc0 fiRStep uRStep_20 20 1 [38, 37, 36, 35, 34, 33, 32, 31, 30, 29, 28, 27, 26, 25, 24, 23, 22, 21, 20, 19]
noncomputable def qRStep_20_19 : LoC → LoC := qOf pc0 fiRStep uRStep_20 19 1 [37, 36, 35, 34, 33, 32, 31, 30, 29, 28, 27, 26, 25, 24, 23, 22, 21, 20, 19]
noncomputable def qRStep_20_11 : LoC → LoC := qOf pc0 fiRStep uRStep_20 11 8 [29, 28, 27, 26, 25, 24, 23, 22, 21, 20, 19]
noncomputable def qRStep_20_8 : LoC → LoC := qOf pc0 fiRStep uRStep_20 8 3 [26, 25, 24, 23, 22, 21, 20, 19]
noncomputable def qRStep_20_0 : LoC → LoC := qOf pc0 fiRStep uRStep_20 0 8 []
noncomputable def uRStep_23 : Code := subC [1, 1, 1, 0, 1, 0, 0, 1, 0, 0, 1, 0, 0] bodyRStep
noncomputable def cRStep_23 : CoC := comp pc0 fiRStep uRStep_23
noncomputable def qRStep_23_0 : LoC → LoC := dqOf pc0 fiRStep uRStep_23 0 13 []
noncomputable def uRStep_24 : Code := subC [1, 1, 1, 0, 1, 0, 0, 1, 0, 0, 1, 0, 1] bodyRStep
noncomputable def cRStep_24 : CoC := comp pc0 fiRStep uRStep_24
noncomputable def qRStep_24_0 : LoC → LoC := qOf pc0 fiRStep uRStep_24 0 1 []
noncomputable def uRStep_26 : Code := subC [1, 1, 1, 0, 1, 0, 0, 1, 1] bodyRStep
noncomputable def cRStep_26 : CoC := comp pc0 fiRStep uRStep_26
noncomputable def qRStep_26_0 : LoC → LoC := qOf pc0 fiRStep uRStep_26 0 3 []
noncomputable def uRStep_10 : Code := subC [1, 1, 1, 0, 1, 0] bodyRStep
noncomputable def cRStep_10 : CoC := comp pc0 fiRStep uRStep_10
noncomputable def uRStep_28 : Code := subC [1, 1, 1, 1, 0] bodyRStep
noncomputable def cRStep_28 : CoC := comp pc0 fiRStep uRStep_28
noncomputable def qRStep_28_0 : LoC → LoC := qOf pc0 fiRStep uRStep_28 0 4 []
noncomputable def cRStep_0 : CoC := comp pc0 fiRStep bodyRStep
noncomputable def finRStep : T → S → A := finN (resC pc0 fiRStep (resOf Tryz.prog 43)).run
theorem allRStepx :
  ((((((regPlain uRStep_1 = true ∧
  ((regOps uRStep_1).drop 2).isEmpty = true) ∧
  (pushes (((regOps uRStep_1).drop 0).take 2) [] = [6, 5] ∧
  regDraw pc0.mixed uRStep_3 = true)) ∧
  ((((drawSteps (regOps uRStep_3)).drop 4).isEmpty = true ∧
  dpushes (regOps uRStep_3) (((drawSteps (regOps uRStep_3)).drop 0).take 4) [] = [8, 7, 12, 11]) ∧
  (regPlain uRStep_5 = true ∧
  ((regOps uRStep_5).drop 1).isEmpty = true))) ∧
  (((pushes (((regOps uRStep_5).drop 0).take 1) [] = [9] ∧
  regPlain uRStep_8 = true) ∧
  (((regOps uRStep_8).drop 1).isEmpty = true ∧
  pushes (((regOps uRStep_8).drop 0).take 1) [] = [10])) ∧
  ((regPlain uRStep_13 = true ∧
  ((regOps uRStep_13).drop 4).isEmpty = true) ∧
  (pushes (((regOps uRStep_13).drop 0).take 4) [] = [16, 15, 14, 13] ∧
  (regPlain uRStep_20 = true ∧
  ((regOps uRStep_20).drop 21).isEmpty = true))))) ∧
  ((((pushes (((regOps uRStep_20).drop 20).take 1) [38, 37, 36, 35, 34, 33, 32, 31, 30, 29, 28, 27, 26, 25, 24, 23, 22, 21, 20, 19] = [39, 38, 37, 36, 35, 34, 33, 32, 31, 30, 29, 28, 27, 26, 25, 24, 23, 22, 21, 20, 19] ∧
  pushes (((regOps uRStep_20).drop 19).take 1) [37, 36, 35, 34, 33, 32, 31, 30, 29, 28, 27, 26, 25, 24, 23, 22, 21, 20, 19] = [38, 37, 36, 35, 34, 33, 32, 31, 30, 29, 28, 27, 26, 25, 24, 23, 22, 21, 20, 19]) ∧
  (pushes (((regOps uRStep_20).drop 11).take 8) [29, 28, 27, 26, 25, 24, 23, 22, 21, 20, 19] = [37, 36, 35, 34, 33, 32, 31, 30, 29, 28, 27, 26, 25, 24, 23, 22, 21, 20, 19] ∧
  pushes (((regOps uRStep_20).drop 8).take 3) [26, 25, 24, 23, 22, 21, 20, 19] = [29, 28, 27, 26, 25, 24, 23, 22, 21, 20, 19])) ∧
  ((pushes (((regOps uRStep_20).drop 0).take 8) [] = [26, 25, 24, 23, 22, 21, 20, 19] ∧
  regDraw pc0.mixed uRStep_23 = true) ∧
  (((drawSteps (regOps uRStep_23)).drop 13).isEmpty = true ∧
  dpushes (regOps uRStep_23) (((drawSteps (regOps uRStep_23)).drop 0).take 13) [] = [8, 7, 50, 49, 48, 47, 46, 45, 44, 43, 42, 41, 40]))) ∧
  (((regPlain uRStep_24 = true ∧
  ((regOps uRStep_24).drop 1).isEmpty = true) ∧
  (pushes (((regOps uRStep_24).drop 0).take 1) [] = [9] ∧
  regPlain uRStep_26 = true)) ∧
  ((((regOps uRStep_26).drop 3).isEmpty = true ∧
  pushes (((regOps uRStep_26).drop 0).take 3) [] = [10, 18, 17]) ∧
  (regPlain uRStep_28 = true ∧
  (((regOps uRStep_28).drop 4).isEmpty = true ∧
  pushes (((regOps uRStep_28).drop 0).take 4) [] = [6, 5, 52, 51]))))))) ∧ (sizeC uRStep_10 = 59) ∧ ((∀ (r : R) (s : S) (tm : T), cRStep_10.run r tm s = seqA (fun tm s => r.code fiRStep uRStep_10 tm s) (seqA (fun tm s => seqA (fun tm s => cRStep_26.run r tm s) (blockA 1 (seqA (fun tm s => condV (gp 11 tm) (seqA (fun tm s => cRStep_24.run r tm s) (cRStep_23.run r tm s)) (.nrm tm s)) (cRStep_20.run r tm s)))) (seqA (fun tm s => condV (gp 10 tm) (.nrm tm s) (.ext 0 tm s)) (cRStep_13.run r tm s))))) ∧ ((((((∀ (r : R) (s : S) (x0 x1 : V), (fnC pc0 43).run r [x0, x1] s = outF (bindR (fun tm s => finRStep tm s) (cRStep_0.run r (sp 1 x1 (sp 0 x0 T.new)) s))) ∧
  (∀ (s : S) (tm : T), finRStep tm s = finV (gp 240 tm) (resV [(gp 4 tm), (gp 5 tm)] s))) ∧
  ((∀ (r : R) (s : S) (tm : T), cRStep_0.run r tm s = seqA (fun tm s => seqA (fun tm s => seqA (fun tm s => seqA (fun tm s => seqA (fun tm s => .ret tm s) (cRStep_28.run r tm s)) (seqA (fun tm s => blockA 0 (cRStep_10.run r tm s)) (cRStep_8.run r tm s))) (cRStep_5.run r tm s)) (cRStep_3.run r tm s)) (cRStep_1.run r tm s)) ∧
  ((∀ (g : LoC) (r : R) (s : S) (tm : T) (le : List V), (qRStep_1_0 g).run r tm (le) s = g.run r (sp 5 (V.nil 1) (sp 4 (V.nat .i64 0) tm)) ((V.nil 1) :: (V.nat .i64 0) :: le) s) ∧
  (∀ (g : LoC) (r : R) (s : S) (tm : T) (le : List V), (qRStep_3_0 g).run r tm (le) s = xSlice 3 1 (gp 1 tm) none (some (V.nat .i64 1)) none s fun v1 => g.run r (sp 7 v1 (sp 6 (V.nat .i64 1) tm)) (v1 :: (V.nat .i64 1) :: v1 :: (gp 1 tm) :: le) s)))) ∧
  (((∀ (g : LoC) (r : R) (s : S) (tm : T) (le : List V), (qRStep_5_0 g).run r tm (le) s = g.run r (sp 8 (V.bool false) tm) ((V.bool false) :: le) s) ∧
  (∀ (g : LoC) (r : R) (s : S) (tm : T) (le : List V), (qRStep_8_0 g).run r tm (le) s = g.run r (sp 9 (V.nat .i64 0) tm) ((V.nat .i64 0) :: le) s)) ∧
  ((∀ (g : LoC) (r : R) (s : S) (tm : T) (le : List V), (qRStep_13_0 g).run r tm (le) s = xLenS (gp 0 tm) fun v2 => xBin ⟨9, []⟩ false .lss (gp 9 tm) v2 fun v3 => g.run r (sp 10 v3 tm) (v3 :: v2 :: (gp 0 tm) :: (gp 9 tm) :: le) s) ∧
  ((∀ (g : LoC) (r : R) (s : S) (tm : T) (le : List V), (qRStep_20_0 g).run r tm (le) s = xIdxAddrS 2 (gp 0 tm) (gp 9 tm) fun v3 => xFieldAddr 0 v3 fun v4 => xLoad false 1 v4 s fun v5 s => foldF (r.call 69 [(gp 1 tm), v5] s) fun v6 s => g.run r tm (v6 :: v6 :: v5 :: v4 :: v3 :: (gp 9 tm) :: (gp 0 tm) :: (gp 1 tm) :: le) s) ∧
  (∀ (g : LoC) (r : R) (s : S) (tm : T) (le : List V), (qRStep_20_8 g).run r tm ((.bool true) :: le) s = xUn .not (gp 8 tm) fun v9 => g.run r tm (v9 :: v9 :: (gp 8 tm) :: (.bool true) :: le) s))))) ∧
  ((((∀ (g : LoC) (r : R) (s : S) (tm : T) (le : List V), (qRStep_20_8 g).run r tm ((.bool false) :: le) s = g.run r tm (Go.Ev.undef :: Go.Ev.undef :: Go.Ev.undef :: (.bool false) :: le) s) ∧
  (∀ (g : LoC) (r : R) (s : S) (tm : T) (le : List V), (qRStep_20_11 g).run r tm ((.bool true) :: le) s = g.run r tm (Go.Ev.undef :: Go.Ev.undef :: Go.Ev.undef :: Go.Ev.undef :: Go.Ev.undef :: Go.Ev.undef :: Go.Ev.undef :: Go.Ev.undef :: (.bool true) :: le) s)) ∧
  ((∀ (g : LoC) (r : R) (s : S) (tm : T) (le : List V), (qRStep_20_11 g).run r tm ((.bool false) :: le) s = xIdxAddrS 2 (gp 0 tm) (gp 9 tm) fun v13 => xFieldAddr 0 v13 fun v14 => xLoad false 1 v14 s fun v15 s => xLenS v15 fun v16 => xBin ⟨9, []⟩ false .gtr v16 (gp 6 tm) fun v18 => g.run r tm (v18 :: (gp 6 tm) :: v16 :: v15 :: v14 :: v13 :: (gp 9 tm) :: (gp 0 tm) :: (.bool false) :: le) s) ∧
  ((∀ (g : LoC) (r : R) (s : S) (tm : T) (le : List V), (qRStep_20_11 g).run r tm (Go.Ev.undef :: le) s = g.run r tm (Go.Ev.undef :: Go.Ev.undef :: Go.Ev.undef :: Go.Ev.undef :: Go.Ev.undef :: Go.Ev.undef :: Go.Ev.undef :: Go.Ev.undef :: Go.Ev.undef :: le) s) ∧
  (∀ (g : LoC) (r : R) (s : S) (tm : T) (le : List V) (x0_ x1_ x2_ x3_ x4_ x5_ x6_ x7_ x8_ x9_ x10_ : V), (qRStep_20_19 g).run r tm (x0_ :: x1_ :: x2_ :: x3_ :: x4_ :: x5_ :: x6_ :: x7_ :: x8_ :: x9_ :: x10_ :: (.bool true) :: le) s = xPick x8_ (fun _ => g.run r tm ((V.bool true) :: x0_ :: x1_ :: x2_ :: x3_ :: x4_ :: x5_ :: x6_ :: x7_ :: x8_ :: x9_ :: x10_ :: (.bool true) :: le) s) (fun _ => g.run r tm (x0_ :: x0_ :: x1_ :: x2_ :: x3_ :: x4_ :: x5_ :: x6_ :: x7_ :: x8_ :: x9_ :: x10_ :: (.bool true) :: le) s))))) ∧
  (((∀ (g : LoC) (r : R) (s : S) (tm : T) (le : List V) (x0_ x1_ x2_ x3_ x4_ x5_ x6_ x7_ x8_ x9_ x10_ : V), (qRStep_20_19 g).run r tm (x0_ :: x1_ :: x2_ :: x3_ :: x4_ :: x5_ :: x6_ :: x7_ :: x8_ :: x9_ :: x10_ :: (.bool false) :: le) s = g.run r tm (Go.Ev.undef :: x0_ :: x1_ :: x2_ :: x3_ :: x4_ :: x5_ :: x6_ :: x7_ :: x8_ :: x9_ :: x10_ :: (.bool false) :: le) s) ∧
  ((∀ (g : LoC) (r : R) (s : S) (tm : T) (le : List V) (x0_ x1_ x2_ x3_ x4_ x5_ x6_ x7_ x8_ x9_ x10_ x11_ x12_ : V), (qRStep_20_20 g).run r tm (x0_ :: x1_ :: x2_ :: x3_ :: x4_ :: x5_ :: x6_ :: x7_ :: x8_ :: x9_ :: x10_ :: x11_ :: x12_ :: le) s = xPick x12_ (fun _ => g.run r (sp 11 x0_ tm) (x0_ :: x0_ :: x1_ :: x2_ :: x3_ :: x4_ :: x5_ :: x6_ :: x7_ :: x8_ :: x9_ :: x10_ :: x11_ :: x12_ :: le) s) (fun _ => g.run r (sp 11 (V.bool false) tm) ((V.bool false) :: x0_ :: x1_ :: x2_ :: x3_ :: x4_ :: x5_ :: x6_ :: x7_ :: x8_ :: x9_ :: x10_ :: x11_ :: x12_ :: le) s)) ∧
  (∀ (g : LoC) (r : R) (s : S) (tm : T) (le : List V), (qRStep_23_0 g).run r tm (le) s = xIdxAddrS 2 (gp 0 tm) (gp 9 tm) fun v2 => xFieldAddr 0 v2 fun v3 => xLoad false 1 v3 s fun v4 s => xLenS v4 fun v5 => xIdxAddrS 2 (gp 0 tm) (gp 9 tm) fun v8 => xFieldAddr 1 v8 fun v9 => xLoad false 1 v9 s fun v10 s => g.run r (sp 7 v10 (sp 6 v5 tm)) (v10 :: v5 :: v10 :: v9 :: v8 :: (gp 9 tm) :: (gp 0 tm) :: v5 :: v4 :: v3 :: v2 :: (gp 9 tm) :: (gp 0 tm) :: le) s))) ∧
  ((∀ (g : LoC) (r : R) (s : S) (tm : T) (le : List V), (qRStep_24_0 g).run r tm (le) s = g.run r (sp 8 (V.bool true) tm) ((V.bool true) :: le) s) ∧
  ((∀ (g : LoC) (r : R) (s : S) (tm : T) (le : List V), (qRStep_26_0 g).run r tm (le) s = xBin ⟨9, []⟩ false .add (gp 9 tm) (V.nat .i64 1) fun v1 => g.run r (sp 9 v1 tm) (v1 :: v1 :: (gp 9 tm) :: le) s) ∧
  (∀ (g : LoC) (r : R) (s : S) (tm : T) (le : List V), (qRStep_28_0 g).run r tm (le) s = g.run r (sp 5 (gp 7 tm) (sp 4 (gp 6 tm) tm)) ((gp 7 tm) :: (gp 6 tm) :: (gp 7 tm) :: (gp 6 tm) :: le) s))))))) := by
  and_intros <;> first | trivial | (intros; kernel_rfl)
theorem chRStep_1_2 : Ch pc0 fiRStep uRStep_1 2 [6, 5] nilL := chE allRStepx.1.1.1.1.1.2
theorem chRStep_1_0 : Ch pc0 fiRStep uRStep_1 0 [] (qRStep_1_0 nilL) := chS rfl allRStepx.1.1.1.1.2.1 chRStep_1_2
theorem rgRStep_1 (r : R) (s : S) (tm : T) : cRStep_1.run r tm s = (qRStep_1_0 nilL).run r tm [] s := reg_run allRStepx.1.1.1.1.1.1 chRStep_1_0 r s tm
theorem chRStep_3_4 : DCh pc0 fiRStep uRStep_3 4 [8, 7, 12, 11] nilL := dchE allRStepx.1.1.1.2.1.1
theorem chRStep_3_0 : DCh pc0 fiRStep uRStep_3 0 [] (qRStep_3_0 nilL) := dchS rfl allRStepx.1.1.1.2.1.2 chRStep_3_4
theorem rgRStep_3 (r : R) (s : S) (tm : T) : cRStep_3.run r tm s = (qRStep_3_0 nilL).run r.det tm [] s := reg_drun allRStepx.1.1.1.1.2.2 chRStep_3_0 r s tm
theorem chRStep_5_1 : Ch pc0 fiRStep uRStep_5 1 [9] nilL := chE allRStepx.1.1.1.2.2.2
theorem chRStep_5_0 : Ch pc0 fiRStep uRStep_5 0 [] (qRStep_5_0 nilL) := chS rfl allRStepx.1.1.2.1.1.1 chRStep_5_1
theorem rgRStep_5 (r : R) (s : S) (tm : T) : cRStep_5.run r tm s = (qRStep_5_0 nilL).run r tm [] s := reg_run allRStepx.1.1.1.2.2.1 chRStep_5_0 r s tm
theorem chRStep_8_1 : Ch pc0 fiRStep uRStep_8 1 [10] nilL := chE allRStepx.1.1.2.1.2.1
theorem chRStep_8_0 : Ch pc0 fiRStep uRStep_8 0 [] (qRStep_8_0 nilL) := chS rfl allRStepx.1.1.2.1.2.2 chRStep_8_1
theorem rgRStep_8 (r : R) (s : S) (tm : T) : cRStep_8.run r tm s = (qRStep_8_0 nilL).run r tm [] s := reg_run allRStepx.1.1.2.1.1.2 chRStep_8_0 r s tm
theorem chRStep_13_4 : Ch pc0 fiRStep uRStep_13 4 [16, 15, 14, 13] nilL := chE allRStepx.1.1.2.2.1.2
theorem chRStep_13_0 : Ch pc0 fiRStep uRStep_13 0 [] (qRStep_13_0 nilL) := chS rfl allRStepx.1.1.2.2.2.1 chRStep_13_4
theorem rgRStep_13 (r : R) (s : S) (tm : T) : cRStep_13.run r tm s = (qRStep_13_0 nilL).run r tm [] s := reg_run allRStepx.1.1.2.2.1.1 chRStep_13_0 r s tm
theorem chRStep_20_21 : Ch pc0 fiRStep uRStep_20 21 [39, 38, 37, 36, 35, 34, 33, 32, 31, 30, 29, 28, 27, 26, 25, 24, 23, 22, 21, 20, 19] nilL := chE allRStepx.1.1.2.2.2.2.2
theorem chRStep_20_20 : Ch pc0 fiRStep uRStep_20 20 [38, 37, 36, 35, 34, 33, 32, 31, 30, 29, 28, 27, 26, 25, 24, 23, 22, 21, 20, 19] (qRStep_20_20 nilL) := chS rfl allRStepx.1.2.1.1.1.1 chRStep_20_21
theorem chRStep_20_19 : Ch pc0 fiRStep uRStep_20 19 [37, 36, 35, 34, 33, 32, 31, 30, 29, 28, 27, 26, 25, 24, 23, 22, 21, 20, 19] (qRStep_20_19 (qRStep_20_20 nilL)) := chS rfl allRStepx.1.2.1.1.1.2 chRStep_20_20
theorem chRStep_20_11 : Ch pc0 fiRStep uRStep_20 11 [29, 28, 27, 26, 25, 24, 23, 22, 21, 20, 19] (qRStep_20_11 (qRStep_20_19 (qRStep_20_20 nilL))) := chS rfl allRStepx.1.2.1.1.2.1 chRStep_20_19
theorem chRStep_20_8 : Ch pc0 fiRStep uRStep_20 8 [26, 25, 24, 23, 22, 21, 20, 19] (qRStep_20_8 (qRStep_20_11 (qRStep_20_19 (qRStep_20_20 nilL)))) := chS rfl allRStepx.1.2.1.1.2.2 chRStep_20_11
theorem chRStep_20_0 : Ch pc0 fiRStep uRStep_20 0 [] (qRStep_20_0 (qRStep_20_8 (qRStep_20_11 (qRStep_20_19 (qRStep_20_20 nilL))))) := chS rfl allRStepx.1.2.1.2.1.1 chRStep_20_8
theorem rgRStep_20 (r : R) (s : S) (tm : T) : cRStep_20.run r tm s = (qRStep_20_0 (qRStep_20_8 (qRStep_20_11 (qRStep_20_19 (qRStep_20_20 nilL))))).run r tm [] s := reg_run allRStepx.1.1.2.2.2.2.1 chRStep_20_0 r s tm
theorem chRStep_23_13 : DCh pc0 fiRStep uRStep_23 13 [8, 7, 50, 49, 48, 47, 46, 45, 44, 43, 42, 41, 40] nilL := dchE allRStepx.1.2.1.2.2.1
theorem chRStep_23_0 : DCh pc0 fiRStep uRStep_23 0 [] (qRStep_23_0 nilL) := dchS rfl allRStepx.1.2.1.2.2.2 chRStep_23_13
theorem rgRStep_23 (r : R) (s : S) (tm : T) : cRStep_23.run r tm s = (qRStep_23_0 nilL).run r.det tm [] s := reg_drun allRStepx.1.2.1.2.1.2 chRStep_23_0 r s tm
theorem chRStep_24_1 : Ch pc0 fiRStep uRStep_24 1 [9] nilL := chE allRStepx.1.2.2.1.1.2
theorem chRStep_24_0 : Ch pc0 fiRStep uRStep_24 0 [] (qRStep_24_0 nilL) := chS rfl allRStepx.1.2.2.1.2.1 chRStep_24_1
theorem rgRStep_24 (r : R) (s : S) (tm : T) : cRStep_24.run r tm s = (qRStep_24_0 nilL).run r tm [] s := reg_run allRStepx.1.2.2.1.1.1 chRStep_24_0 r s tm
theorem chRStep_26_3 : Ch pc0 fiRStep uRStep_26 3 [10, 18, 17] nilL := chE allRStepx.1.2.2.2.1.1
theorem chRStep_26_0 : Ch pc0 fiRStep uRStep_26 0 [] (qRStep_26_0 nilL) := chS rfl allRStepx.1.2.2.2.1.2 chRStep_26_3
theorem rgRStep_26 (r : R) (s : S) (tm : T) : cRStep_26.run r tm s = (qRStep_26_0 nilL).run r tm [] s := reg_run allRStepx.1.2.2.1.2.2 chRStep_26_0 r s tm
theorem chRStep_28_4 : Ch pc0 fiRStep uRStep_28 4 [6, 5, 52, 51] nilL := chE allRStepx.1.2.2.2.2.2.1
theorem chRStep_28_0 : Ch pc0 fiRStep uRStep_28 0 [] (qRStep_28_0 nilL) := chS rfl allRStepx.1.2.2.2.2.2.2 chRStep_28_4
theorem rgRStep_28 (r : R) (s : S) (tm : T) : cRStep_28.run r tm s = (qRStep_28_0 nilL).run r tm [] s := reg_run allRStepx.1.2.2.2.2.1 chRStep_28_0 r s tm
theorem szRStep_10 : sizeC uRStep_10 = 59 := allRStepx.2.1
theorem lpRStep_10 : type_of% allRStepx.2.2.1 := allRStepx.2.2.1
theorem allRStep : type_of% (And.intro rgRStep_1 (And.intro rgRStep_3 (And.intro rgRStep_5 (And.intro rgRStep_8 (And.intro rgRStep_13 (And.intro rgRStep_20 (And.intro rgRStep_23 (And.intro rgRStep_24 (And.intro rgRStep_26 (And.intro rgRStep_28 allRStepx.2.2.2)))))))))) := (And.intro rgRStep_1 (And.intro rgRStep_3 (And.intro rgRStep_5 (And.intro rgRStep_8 (And.intro rgRStep_13 (And.intro rgRStep_20 (And.intro rgRStep_23 (And.intro rgRStep_24 (And.intro rgRStep_26 (And.intro rgRStep_28 allRStepx.2.2.2))))))))))
/- abugida/abugidaref40.begins: parameters 2, slots in the frame: [(0, 0), (1, 1), (2, 2), (3, 3), (4, 4), (5, 5), (6, 10), (7, 14), (8, 25)] -/
def fiRBegins : FI := ⟨33536960, 26, 4⟩
noncomputable def bodyRBegins : Code := bodyOf Tryz.prog 69
noncomputable def uRBegins_1 : Code := subC [0] bodyRBegins
noncomputable def cRBegins_1 : CoC := comp pc0 fiRBegins uRBegins_1
noncomputable def qRBegins_1_0 : LoC → LoC := qOf pc0 fiRBegins uRBegins_1 0 1 []
noncomputable def uRBegins_4 : Code := subC [1, 0, 0] bodyRBegins
noncomputable def cRBegins_4 : CoC := comp pc0 fiRBegins uRBegins_4
noncomputable def qRBegins_4_0 : LoC → LoC := qOf pc0 fiRBegins uRBegins_4 0 5 []
noncomputable def uRBegins_7 : Code := subC [1, 0, 1, 0, 0] bodyRBegins
noncomputable def cRBegins_7 : CoC := comp pc0 fiRBegins uRBegins_7
noncomputable def qRBegins_7_0 : LoC → LoC := qOf pc0 fiRBegins uRBegins_7 0 1 []
noncomputable def uRBegins_12 : Code := subC [1, 1, 0, 0] bodyRBegins
noncomputable def cRBegins_12 : CoC := comp pc0 fiRBegins uRBegins_12
noncomputable def qRBegins_12_0 : LoC → LoC := qOf pc0 fiRBegins uRBegins_12 0 1 []
noncomputable def uRBegins_17 : Code := subC [1, 1, 0, 1, 0, 0, 0, 0] bodyRBegins
noncomputable def cRBegins_17 : CoC := comp pc0 fiRBegins uRBegins_17
noncomputable def qRBegins_17_0 : LoC → LoC := qOf pc0 fiRBegins uRBegins_17 0 4 []
noncomputable def uRBegins_24 : Code := subC [1, 1, 0, 1, 0, 0, 1, 0, 0, 0] bodyRBegins
noncomputable def cRBegins_24 : CoC := comp pc0 fiRBegins uRBegins_24
noncomputable def qRBegins_24_0 : LoC → LoC := dqOf pc0 fiRBegins uRBegins_24 0 9 []
noncomputable def uRBegins_27 : Code := subC [1, 1, 0, 1, 0, 0, 1, 0, 0, 1, 0, 0] bodyRBegins
noncomputable def cRBegins_27 : CoC := comp pc0 fiRBegins uRBegins_27
noncomputable def qRBegins_27_0 : LoC → LoC := qOf pc0 fiRBegins uRBegins_27 0 1 []
noncomputable def uRBegins_30 : Code := subC [1, 1, 0, 1, 0, 0, 1, 1] bodyRBegins
noncomputable def cRBegins_30 : CoC := comp pc0 fiRBegins uRBegins_30
noncomputable def qRBegins_30_0 : LoC → LoC := qOf pc0 fiRBegins uRBegins_30 0 3 []
noncomputable def uRBegins_14 : Code := subC [1, 1, 0, 1, 0] bodyRBegins
noncomputable def cRBegins_14 : CoC := comp pc0 fiRBegins uRBegins_14
noncomputable def uRBegins_32 : Code := subC [1, 1, 1, 0] bodyRBegins
noncomputable def cRBegins_32 : CoC := comp pc0 fiRBegins uRBegins_32
noncomputable def qRBegins_32_0 : LoC → LoC := qOf pc0 fiRBegins uRBegins_32 0 1 []
noncomputable def cRBegins_0 : CoC := comp pc0 fiRBegins bodyRBegins
noncomputable def finRBegins : T → S → A := finN (resC pc0 fiRBegins (resOf Tryz.prog 69)).run
theorem allRBeginsx :
  (((((regPlain uRBegins_1 = true ∧
  (((regOps uRBegins_1).drop 1).isEmpty = true ∧
  pushes (((regOps uRBegins_1).drop 0).take 1) [] = [5])) ∧
  (regPlain uRBegins_4 = true ∧
  (((regOps uRBegins_4).drop 5).isEmpty = true ∧
  pushes (((regOps uRBegins_4).drop 0).take 5) [] = [11, 10, 9, 8, 7]))) ∧
  ((regPlain uRBegins_7 = true ∧
  (((regOps uRBegins_7).drop 1).isEmpty = true ∧
  pushes (((regOps uRBegins_7).drop 0).take 1) [] = [5])) ∧
  ((regPlain uRBegins_12 = true ∧
  ((regOps uRBegins_12).drop 1).isEmpty = true) ∧
  (pushes (((regOps uRBegins_12).drop 0).take 1) [] = [6] ∧
  regPlain uRBegins_17 = true)))) ∧
  (((((regOps uRBegins_17).drop 4).isEmpty = true ∧
  (pushes (((regOps uRBegins_17).drop 0).take 4) [] = [15, 14, 13, 12] ∧
  regDraw pc0.mixed uRBegins_24 = true)) ∧
  ((((drawSteps (regOps uRBegins_24)).drop 9).isEmpty = true ∧
  dpushes (regOps uRBegins_24) (((drawSteps (regOps uRBegins_24)).drop 0).take 9) [] = [26, 25, 24, 23, 22, 21, 20, 19, 18]) ∧
  (regPlain uRBegins_27 = true ∧
  ((regOps uRBegins_27).drop 1).isEmpty = true))) ∧
  ((pushes (((regOps uRBegins_27).drop 0).take 1) [] = [5] ∧
  (regPlain uRBegins_30 = true ∧
  ((regOps uRBegins_30).drop 3).isEmpty = true)) ∧
  ((pushes (((regOps uRBegins_30).drop 0).take 3) [] = [6, 17, 16] ∧
  regPlain uRBegins_32 = true) ∧
  (((regOps uRBegins_32).drop 1).isEmpty = true ∧
  pushes (((regOps uRBegins_32).drop 0).take 1) [] = [5])))))) ∧ (sizeC uRBegins_14 = 34) ∧ ((∀ (r : R) (s : S) (tm : T), cRBegins_14.run r tm s = seqA (fun tm s => r.code fiRBegins uRBegins_14 tm s) (seqA (fun tm s => seqA (fun tm s => cRBegins_30.run r tm s) (blockA 1 (seqA (fun tm s => condV (gp 8 tm) (seqA (fun tm s => .ret tm s) (cRBegins_27.run r tm s)) (.nrm tm s)) (cRBegins_24.run r tm s)))) (seqA (fun tm s => condV (gp 7 tm) (.nrm tm s) (.ext 0 tm s)) (cRBegins_17.run r tm s))))) ∧ (((((∀ (r : R) (s : S) (x0 x1 : V), (fnC pc0 69).run r [x0, x1] s = outF (bindR (fun tm s => finRBegins tm s) (cRBegins_0.run r (sp 1 x1 (sp 0 x0 T.new)) s))) ∧
  ((∀ (s : S) (tm : T), finRBegins tm s = finV (gp 240 tm) (resV [(gp 4 tm)] s)) ∧
  (∀ (r : R) (s : S) (tm : T), cRBegins_0.run r tm s = seqA (fun tm s => seqA (fun tm s => seqA (fun tm s => seqA (fun tm s => .ret tm s) (cRBegins_32.run r tm s)) (seqA (fun tm s => blockA 0 (cRBegins_14.run r tm s)) (cRBegins_12.run r tm s))) (seqA (fun tm s => condV (gp 6 tm) (seqA (fun tm s => .ret tm s) (cRBegins_7.run r tm s)) (.nrm tm s)) (cRBegins_4.run r tm s))) (cRBegins_1.run r tm s)))) ∧
  ((∀ (g : LoC) (r : R) (s : S) (tm : T) (le : List V), (qRBegins_1_0 g).run r tm (le) s = g.run r (sp 4 (V.bool false) tm) ((V.bool false) :: le) s) ∧
  ((∀ (g : LoC) (r : R) (s : S) (tm : T) (le : List V), (qRBegins_4_0 g).run r tm (le) s = xLenS (gp 1 tm) fun v1 => xLenS (gp 0 tm) fun v3 => xBin ⟨9, []⟩ false .gtr v1 v3 fun v4 => g.run r (sp 6 v4 tm) (v4 :: v3 :: (gp 0 tm) :: v1 :: (gp 1 tm) :: le) s) ∧
  (∀ (g : LoC) (r : R) (s : S) (tm : T) (le : List V), (qRBegins_7_0 g).run r tm (le) s = g.run r (sp 4 (V.bool false) tm) ((V.bool false) :: le) s)))) ∧
  (((∀ (g : LoC) (r : R) (s : S) (tm : T) (le : List V), (qRBegins_12_0 g).run r tm (le) s = g.run r (sp 5 (V.nat .i64 0) tm) ((V.nat .i64 0) :: le) s) ∧
  ((∀ (g : LoC) (r : R) (s : S) (tm : T) (le : List V), (qRBegins_17_0 g).run r tm (le) s = xLenS (gp 1 tm) fun v2 => xBin ⟨9, []⟩ false .lss (gp 5 tm) v2 fun v3 => g.run r (sp 7 v3 tm) (v3 :: v2 :: (gp 1 tm) :: (gp 5 tm) :: le) s) ∧
  (∀ (g : LoC) (r : R) (s : S) (tm : T) (le : List V), (qRBegins_24_0 g).run r tm (le) s = xIdxAddrS 1 (gp 0 tm) (gp 5 tm) fun v2 => xLoad false 1 v2 s fun v3 s => xIdxAddrS 1 (gp 1 tm) (gp 5 tm) fun v6 => xLoad false 1 v6 s fun v7 s => xBin ⟨7, []⟩ false .neq v3 v7 fun v8 => g.run r (sp 8 v8 tm) (v8 :: v7 :: v6 :: (gp 5 tm) :: (gp 1 tm) :: v3 :: v2 :: (gp 5 tm) :: (gp 0 tm) :: le) s))) ∧
  ((∀ (g : LoC) (r : R) (s : S) (tm : T) (le : List V), (qRBegins_27_0 g).run r tm (le) s = g.run r (sp 4 (V.bool false) tm) ((V.bool false) :: le) s) ∧
  ((∀ (g : LoC) (r : R) (s : S) (tm : T) (le : List V), (qRBegins_30_0 g).run r tm (le) s = xBin ⟨9, []⟩ false .add (gp 5 tm) (V.nat .i64 1) fun v1 => g.run r (sp 5 v1 tm) (v1 :: v1 :: (gp 5 tm) :: le) s) ∧
  (∀ (g : LoC) (r : R) (s : S) (tm : T) (le : List V), (qRBegins_32_0 g).run r tm (le) s = g.run r (sp 4 (V.bool true) tm) ((V.bool true) :: le) s)))))) := by
  and_intros <;> first | trivial | (intros; kernel_rfl)
theorem chRBegins_1_1 : Ch pc0 fiRBegins uRBegins_1 1 [5] nilL := chE allRBeginsx.1.1.1.1.2.1
theorem chRBegins_1_0 : Ch pc0 fiRBegins uRBegins_1 0 [] (qRBegins_1_0 nilL) := chS rfl allRBeginsx.1.1.1.1.2.2 chRBegins_1_1
theorem rgRBegins_1 (r : R) (s : S) (tm : T) : cRBegins_1.run r tm s = (qRBegins_1_0 nilL).run r tm [] s := reg_run allRBeginsx.1.1.1.1.1 chRBegins_1_0 r s tm
theorem chRBegins_4_5 : Ch pc0 fiRBegins uRBegins_4 5 [11, 10, 9, 8, 7] nilL := chE allRBeginsx.1.1.1.2.2.1
theorem chRBegins_4_0 : Ch pc0 fiRBegins uRBegins_4 0 [] (qRBegins_4_0 nilL) := chS rfl allRBeginsx.1.1.1.2.2.2 chRBegins_4_5
theorem rgRBegins_4 (r : R) (s : S) (tm : T) : cRBegins_4.run r tm s = (qRBegins_4_0 nilL).run r tm [] s := reg_run allRBeginsx.1.1.1.2.1 chRBegins_4_0 r s tm
theorem chRBegins_7_1 : Ch pc0 fiRBegins uRBegins_7 1 [5] nilL := chE allRBeginsx.1.1.2.1.2.1
theorem chRBegins_7_0 : Ch pc0 fiRBegins uRBegins_7 0 [] (qRBegins_7_0 nilL) := chS rfl allRBeginsx.1.1.2.1.2.2 chRBegins_7_1
theorem rgRBegins_7 (r : R) (s : S) (tm : T) : cRBegins_7.run r tm s = (qRBegins_7_0 nilL).run r tm [] s := reg_run allRBeginsx.1.1.2.1.1 chRBegins_7_0 r s tm
theorem chRBegins_12_1 : Ch pc0 fiRBegins uRBegins_12 1 [6] nilL := chE allRBeginsx.1.1.2.2.1.2
theorem chRBegins_12_0 : Ch pc0 fiRBegins uRBegins_12 0 [] (qRBegins_12_0 nilL) := chS rfl allRBeginsx.1.1.2.2.2.1 chRBegins_12_1
theorem rgRBegins_12 (r : R) (s : S) (tm : T) : cRBegins_12.run r tm s = (qRBegins_12_0 nilL).run r tm [] s := reg_run allRBeginsx.1.1.2.2.1.1 chRBegins_12_0 r s tm
theorem chRBegins_17_4 : Ch pc0 fiRBegins uRBegins_17 4 [15, 14, 13, 12] nilL := chE allRBeginsx.1.2.1.1.1
theorem chRBegins_17_0 : Ch pc0 fiRBegins uRBegins_17 0 [] (qRBegins_17_0 nilL) := chS rfl allRBeginsx.1.2.1.1.2.1 chRBegins_17_4
theorem rgRBegins_17 (r : R) (s : S) (tm : T) : cRBegins_17.run r tm s = (qRBegins_17_0 nilL).run r tm [] s := reg_run allRBeginsx.1.1.2.2.2.2 chRBegins_17_0 r s tm
theorem chRBegins_24_9 : DCh pc0 fiRBegins uRBegins_24 9 [26, 25, 24, 23, 22, 21, 20, 19, 18] nilL := dchE allRBeginsx.1.2.1.2.1.1
theorem chRBegins_24_0 : DCh pc0 fiRBegins uRBegins_24 0 [] (qRBegins_24_0 nilL) := dchS rfl allRBeginsx.1.2.1.2.1.2 chRBegins_24_9
theorem rgRBegins_24 (r : R) (s : S) (tm : T) : cRBegins_24.run r tm s = (qRBegins_24_0 nilL).run r.det tm [] s := reg_drun allRBeginsx.1.2.1.1.2.2 chRBegins_24_0 r s tm
theorem chRBegins_27_1 : Ch pc0 fiRBegins uRBegins_27 1 [5] nilL := chE allRBeginsx.1.2.1.2.2.2
theorem chRBegins_27_0 : Ch pc0 fiRBegins uRBegins_27 0 [] (qRBegins_27_0 nilL) := chS rfl allRBeginsx.1.2.2.1.1 chRBegins_27_1
theorem rgRBegins_27 (r : R) (s : S) (tm : T) : cRBegins_27.run r tm s = (qRBegins_27_0 nilL).run r tm [] s := reg_run allRBeginsx.1.2.1.2.2.1 chRBegins_27_0 r s tm
theorem chRBegins_30_3 : Ch pc0 fiRBegins uRBegins_30 3 [6, 17, 16] nilL := chE allRBeginsx.1.2.2.1.2.2
theorem chRBegins_30_0 : Ch pc0 fiRBegins uRBegins_30 0 [] (qRBegins_30_0 nilL) := chS rfl allRBeginsx.1.2.2.2.1.1 chRBegins_30_3
theorem rgRBegins_30 (r : R) (s : S) (tm : T) : cRBegins_30.run r tm s = (qRBegins_30_0 nilL).run r tm [] s := reg_run allRBeginsx.1.2.2.1.2.1 chRBegins_30_0 r s tm
theorem chRBegins_32_1 : Ch pc0 fiRBegins uRBegins_32 1 [5] nilL := chE allRBeginsx.1.2.2.2.2.1
theorem chRBegins_32_0 : Ch pc0 fiRBegins uRBegins_32 0 [] (qRBegins_32_0 nilL) := chS rfl allRBeginsx.1.2.2.2.2.2 chRBegins_32_1
theorem rgRBegins_32 (r : R) (s : S) (tm : T) : cRBegins_32.run r tm s = (qRBegins_32_0 nilL).run r tm [] s := reg_run allRBeginsx.1.2.2.2.1.2 chRBegins_32_0 r s tm
theorem szRBegins_14 : sizeC uRBegins_14 = 34 := allRBeginsx.2.1
theorem lpRBegins_14 : type_of% allRBeginsx.2.2.1 := allRBeginsx.2.2.1
theorem allRBegins : type_of% (And.intro rgRBegins_1 (And.intro rgRBegins_4 (And.intro rgRBegins_7 (And.intro rgRBegins_12 (And.intro rgRBegins_17 (And.intro rgRBegins_24 (And.intro rgRBegins_27 (And.intro rgRBegins_30 (And.intro rgRBegins_32 allRBeginsx.2.2.2))))))))) := (And.intro rgRBegins_1 (And.intro rgRBegins_4 (And.intro rgRBegins_7 (And.intro rgRBegins_12 (And.intro rgRBegins_17 (And.intro rgRBegins_24 (And.intro rgRBegins_27 (And.intro rgRBegins_30 (And.intro rgRBegins_32 allRBeginsx.2.2.2)))))))))

end Go.Proofs.YtmplkbipoacmmaaGreatDoor.oev
