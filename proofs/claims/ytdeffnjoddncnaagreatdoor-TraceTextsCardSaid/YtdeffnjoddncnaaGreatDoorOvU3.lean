/- What the evaluator makes of the functions that the statements reach: one equation for each run of operations, by the kernel. No statement of the seat stands here. No condition. By an AI agent. -/
import Derived.Test.YtdeffnjoddncnaaGreatDoorOvW
import Derived.Test.YtdeffnjoddncnaaGreatDoorProg
import Derived.KernelRfl
namespace Go.Proofs.YtdeffnjoddncnaaGreatDoor.oev
open Go.Ev Go.Proofs
set_option maxRecDepth 100000
/- abugida/abugidalaw43.TraceTexts: parameters 2, slots in the frame: [(0, 0), (1, 1), (2, 2), (3, 3), (4, 4), (5, 5), (6, 6), (7, 7), (8, 8), (9, 15)] -/
def fiLTexts : FI := ⟨1099511594496, 40, 6⟩
noncomputable def bodyLTexts := bodyOf Tryz.prog 3
noncomputable def cLTexts_1 := comp pc0 fiLTexts (subC [0] bodyLTexts)
noncomputable def uLTexts_4 := subC [1, 0, 0] bodyLTexts
noncomputable def cLTexts_4 := comp pc0 fiLTexts uLTexts_4
noncomputable def qLTexts_4_6 := qOf pc0 fiLTexts uLTexts_4 6 1 [15, 14, 13, 12, 11, 10]
noncomputable def qLTexts_4_3 := qOf pc0 fiLTexts uLTexts_4 3 3 [12, 11, 10]
noncomputable def qLTexts_4_0 := qOf pc0 fiLTexts uLTexts_4 0 3 []
noncomputable def cLTexts_7 := comp pc0 fiLTexts (subC [1, 0, 1, 0, 0] bodyLTexts)
noncomputable def cLTexts_11 := comp pc0 fiLTexts (subC [1, 1, 0] bodyLTexts)
noncomputable def cLTexts_13 := comp pc0 fiLTexts (subC [1, 1, 1, 0] bodyLTexts)
noncomputable def uLTexts_15 := subC [1, 1, 1, 1, 0] bodyLTexts
noncomputable def cLTexts_15 := comp pc0 fiLTexts uLTexts_15
noncomputable def qLTexts_15_10 := qOf pc0 fiLTexts uLTexts_15 10 2 [39, 38, 37, 36, 35, 34, 33, 32, 31, 30]
noncomputable def qLTexts_15_9 := qOf pc0 fiLTexts uLTexts_15 9 1 [38, 37, 36, 35, 34, 33, 32, 31, 30]
noncomputable def qLTexts_15_7 := qOf pc0 fiLTexts uLTexts_15 7 2 [36, 35, 34, 33, 32, 31, 30]
noncomputable def qLTexts_15_4 := qOf pc0 fiLTexts uLTexts_15 4 3 [33, 32, 31, 30]
noncomputable def qLTexts_15_0 := qOf pc0 fiLTexts uLTexts_15 0 4 []
noncomputable def cLTexts_0 := comp pc0 fiLTexts bodyLTexts
noncomputable def finLTexts := finN (resC pc0 fiLTexts (resOf Tryz.prog 3)).run
theorem eLTextsx :
 ((((∀ r s x0 x1, (fnC pc0 3).run r [x0, x1] s = outF (bindR (fun tm s => finLTexts tm s) (cLTexts_0.run r (sp 1 x1 (sp 0 x0 T.new)) s))) ∧
 ((∀ s tm, finLTexts tm s = finV (gp 240 tm) (resV [(gp 4 tm)] s)) ∧
 (∀ r s tm, cLTexts_0.run r tm s = seqA (fun tm s => seqA (fun tm s => seqA (fun tm s => seqA (fun tm s => seqA (fun tm s => .ret tm s) (cLTexts_15.run r tm s)) (cLTexts_13.run r tm s)) (cLTexts_11.run r tm s)) (seqA (fun tm s => condV (gp 9 tm) (seqA (fun tm s => .ret tm s) (cLTexts_7.run r tm s)) (.nrm tm s)) (cLTexts_4.run r tm s))) (cLTexts_1.run r tm s)))) ∧
 (((∀ g r s tm le, (qLTexts_4_0 g).run r tm (le) s = foldF (r.call 5 [(gp 0 tm)] s) fun v1 s => g.run r tm (v1 :: v1 :: (gp 0 tm) :: le) s) ∧
 (∀ g r s tm le, (qLTexts_4_3 g).run r tm ((.bool true) :: le) s = g.run r tm (Go.Ev.undef :: Go.Ev.undef :: Go.Ev.undef :: (.bool true) :: le) s)) ∧
 ((∀ g r s tm le, (qLTexts_4_3 g).run r tm ((.bool false) :: le) s = xLenS (gp 1 tm) fun v4 => xBin ⟨9, []⟩ false .gtr v4 (V.nat .i64 600) fun v5 => g.run r tm (v5 :: v4 :: (gp 1 tm) :: (.bool false) :: le) s) ∧
 (∀ g r s tm le x0_ x1_ x2_ x3_, (qLTexts_4_6 g).run r tm (x0_ :: x1_ :: x2_ :: x3_ :: le) s = xPick x3_ (fun _ => g.run r (sp 9 (V.bool true) tm) ((V.bool true) :: x0_ :: x1_ :: x2_ :: x3_ :: le) s) (fun _ => g.run r (sp 9 x0_ tm) (x0_ :: x0_ :: x1_ :: x2_ :: x3_ :: le) s))))) ∧
 (((∀ g r s tm le, (qLTexts_15_0 g).run r tm (le) s = xBin ⟨8, []⟩ false .eql (gp 5 tm) (gp 7 tm) fun v2 => g.run r tm (v2 :: v2 :: (gp 7 tm) :: (gp 5 tm) :: le) s) ∧
 ((∀ g r s tm le, (qLTexts_15_4 g).run r tm ((.bool true) :: le) s = xBin ⟨7, []⟩ false .eql (gp 6 tm) (gp 8 tm) fun v6 => g.run r tm (v6 :: (gp 8 tm) :: (gp 6 tm) :: (.bool true) :: le) s) ∧
 (∀ g r s tm le, (qLTexts_15_4 g).run r tm ((.bool false) :: le) s = g.run r tm (Go.Ev.undef :: Go.Ev.undef :: Go.Ev.undef :: (.bool false) :: le) s))) ∧
 (((∀ g r s tm le x0_ x1_ x2_ x3_, (qLTexts_15_7 g).run r tm (x0_ :: x1_ :: x2_ :: x3_ :: le) s = xPick x3_ (fun _ => g.run r tm (x0_ :: x0_ :: x0_ :: x1_ :: x2_ :: x3_ :: le) s) (fun _ => g.run r tm ((V.bool false) :: (V.bool false) :: x0_ :: x1_ :: x2_ :: x3_ :: le) s)) ∧
 (∀ g r s tm le, (qLTexts_15_9 g).run r tm ((.bool true) :: le) s = foldF (r.call 6 [] s) fun v9 s => g.run r tm (v9 :: (.bool true) :: le) s)) ∧
 ((∀ g r s tm le, (qLTexts_15_9 g).run r tm ((.bool false) :: le) s = g.run r tm (Go.Ev.undef :: (.bool false) :: le) s) ∧
 (∀ g r s tm le x0_ x1_, (qLTexts_15_10 g).run r tm (x0_ :: x1_ :: le) s = xPick x1_ (fun _ => g.run r (sp 4 x0_ tm) (x0_ :: x0_ :: x0_ :: x1_ :: le) s) (fun _ => g.run r (sp 4 (V.bool false) tm) ((V.bool false) :: (V.bool false) :: x0_ :: x1_ :: le) s)))))) := by
 and_intros <;> (intros; kernel_rfl)
theorem rgLTexts_1 : ∀ r s tm, cLTexts_1.run r tm s = .nrm (sp 4 (V.bool false) tm) s := reg1 1
theorem rgLTexts_4 : ∀ r s tm, cLTexts_4.run r tm s = (qLTexts_4_0 (qLTexts_4_3 (qLTexts_4_6 nilL))).run r tm [] s := reg_run (by kernel_rfl) (chS rfl (by kernel_rfl) (chS rfl (by kernel_rfl) chL))
theorem rgLTexts_7 : ∀ r s tm, cLTexts_7.run r tm s = foldF (r.call 6 [] s) fun v0 s => .nrm (sp 4 v0 tm) s := reg1 2
theorem rgLTexts_11 : ∀ r s tm, cLTexts_11.run r tm s = foldF (r.call 7 [(gp 0 tm), (gp 1 tm)] s) fun v2 s => xExtract 0 v2 fun v4 => xExtract 1 v2 fun v5 => .nrm (sp 6 v5 (sp 5 v4 tm)) s := reg1 8
theorem rgLTexts_13 : ∀ r s tm, cLTexts_13.run r tm s = foldF (r.call 8 [(gp 0 tm), (gp 1 tm)] s) fun v2 s => xExtract 0 v2 fun v4 => xExtract 1 v2 fun v5 => .nrm (sp 8 v5 (sp 7 v4 tm)) s := reg1 8
theorem rgLTexts_15 : ∀ r s tm, cLTexts_15.run r tm s = (qLTexts_15_0 (qLTexts_15_4 (qLTexts_15_7 (qLTexts_15_9 (qLTexts_15_10 nilL))))).run r tm [] s := reg_run (by kernel_rfl) (chS rfl (by kernel_rfl) (chS rfl (by kernel_rfl) (chS rfl (by kernel_rfl) (chS rfl (by kernel_rfl) chL))))
theorem allLTexts : type_of% (And.intro rgLTexts_1 <| And.intro rgLTexts_4 <| And.intro rgLTexts_7 <| And.intro rgLTexts_11 <| And.intro rgLTexts_13 <| And.intro rgLTexts_15 <| eLTextsx) := And.intro rgLTexts_1 <| And.intro rgLTexts_4 <| And.intro rgLTexts_7 <| And.intro rgLTexts_11 <| And.intro rgLTexts_13 <| And.intro rgLTexts_15 <| eLTextsx
/- abugida/abugidaref43.Text: parameters 2, slots in the frame: [(0, 0), (1, 1), (2, 2), (3, 3), (4, 4), (5, 5), (6, 6), (7, 7), (8, 8), (9, 9), (10, 10), (11, 11), (12, 12), (13, 13), (14, 14), (15, 17), (16, 21), (17, 49), (18, 50), (19, 77), (20, 110)] -/
def fiR43Text : FI := ⟨3894222643750004992257193737551872, 112, 6⟩
noncomputable def bodyR43Text := bodyOf Tryz.prog 8
noncomputable def cR43Text_1 := comp pc0 fiR43Text (subC [0] bodyR43Text)
noncomputable def cR43Text_4 := comp pc0 fiR43Text (subC [1, 0, 0] bodyR43Text)
noncomputable def cR43Text_7 := comp pc0 fiR43Text (subC [1, 0, 1, 0, 0] bodyR43Text)
noncomputable def cR43Text_11 := comp pc0 fiR43Text (subC [1, 1, 0] bodyR43Text)
noncomputable def cR43Text_14 := comp pc0 fiR43Text (subC [1, 1, 1, 0, 0] bodyR43Text)
noncomputable def cR43Text_19 := comp pc0 fiR43Text (subC [1, 1, 1, 0, 1, 0, 0, 0, 0] bodyR43Text)
noncomputable def cR43Text_26 := comp pc0 fiR43Text (subC [1, 1, 1, 0, 1, 0, 0, 1, 0, 0, 0] bodyR43Text)
noncomputable def cR43Text_28 := comp pc0 fiR43Text (subC [1, 1, 1, 0, 1, 0, 0, 1, 0, 0, 1, 0] bodyR43Text)
noncomputable def uR43Text_31 := subC [1, 1, 1, 0, 1, 0, 0, 1, 0, 0, 1, 1, 0, 0] bodyR43Text
noncomputable def cR43Text_31 := comp pc0 fiR43Text uR43Text_31
noncomputable def qR43Text_31_5 := qOf pc0 fiR43Text uR43Text_31 5 1 [49, 48, 47, 46, 45]
noncomputable def qR43Text_31_3 := qOf pc0 fiR43Text uR43Text_31 3 2 [47, 46, 45]
noncomputable def qR43Text_31_0 := qOf pc0 fiR43Text uR43Text_31 0 3 []
noncomputable def cR43Text_34 := comp pc0 fiR43Text (subC [1, 1, 1, 0, 1, 0, 0, 1, 0, 0, 1, 1, 0, 1, 0, 0] bodyR43Text)
noncomputable def cR43Text_39 := comp pc0 fiR43Text (subC [1, 1, 1, 0, 1, 0, 0, 1, 0, 0, 1, 1, 1, 0, 0] bodyR43Text)
noncomputable def cR43Text_44 := comp pc0 fiR43Text (subC [1, 1, 1, 0, 1, 0, 0, 1, 0, 0, 1, 1, 1, 1, 0] bodyR43Text)
noncomputable def cR43Text_47 := comp pc0 fiR43Text (subC [1, 1, 1, 0, 1, 0, 0, 1, 0, 0, 1, 1, 1, 1, 1, 0, 0] bodyR43Text)
noncomputable def uR43Text_52 := subC [1, 1, 1, 0, 1, 0, 0, 1, 0, 0, 1, 1, 1, 1, 1, 0, 1, 0, 0, 0, 0] bodyR43Text
noncomputable def cR43Text_52 := comp pc0 fiR43Text uR43Text_52
noncomputable def qR43Text_52_12 := qOf pc0 fiR43Text uR43Text_52 12 1 [77, 76, 75, 74, 73, 72, 71, 70, 69, 68, 67, 66]
noncomputable def qR43Text_52_9 := qOf pc0 fiR43Text uR43Text_52 9 3 [74, 73, 72, 71, 70, 69, 68, 67, 66]
noncomputable def qR43Text_52_0 := qOf pc0 fiR43Text uR43Text_52 0 9 []
noncomputable def cR43Text_59 := comp pc0 fiR43Text (subC [1, 1, 1, 0, 1, 0, 0, 1, 0, 0, 1, 1, 1, 1, 1, 0, 1, 0, 0, 1, 0, 0, 0] bodyR43Text)
noncomputable def cR43Text_60 := comp pc0 fiR43Text (subC [1, 1, 1, 0, 1, 0, 0, 1, 0, 0, 1, 1, 1, 1, 1, 0, 1, 0, 0, 1, 0, 0, 1] bodyR43Text)
noncomputable def cR43Text_61 := comp pc0 fiR43Text (subC [1, 1, 1, 0, 1, 0, 0, 1, 0, 0, 1, 1, 1, 1, 1, 0, 1, 0, 0, 1, 1] bodyR43Text)
noncomputable def uR43Text_49 := subC [1, 1, 1, 0, 1, 0, 0, 1, 0, 0, 1, 1, 1, 1, 1, 0, 1, 0] bodyR43Text
noncomputable def cR43Text_49 := comp pc0 fiR43Text uR43Text_49
noncomputable def cR43Text_63 := comp pc0 fiR43Text (subC [1, 1, 1, 0, 1, 0, 0, 1, 0, 0, 1, 1, 1, 1, 1, 1, 0] bodyR43Text)
noncomputable def cR43Text_64 := comp pc0 fiR43Text (subC [1, 1, 1, 0, 1, 0, 0, 1, 0, 0, 1, 1, 1, 1, 1, 1, 1] bodyR43Text)
noncomputable def cR43Text_65 := comp pc0 fiR43Text (subC [1, 1, 1, 0, 1, 0, 0, 1, 1] bodyR43Text)
noncomputable def uR43Text_16 := subC [1, 1, 1, 0, 1, 0] bodyR43Text
noncomputable def cR43Text_16 := comp pc0 fiR43Text uR43Text_16
noncomputable def cR43Text_68 := comp pc0 fiR43Text (subC [1, 1, 1, 1, 0, 0] bodyR43Text)
noncomputable def cR43Text_71 := comp pc0 fiR43Text (subC [1, 1, 1, 1, 0, 1, 0, 0] bodyR43Text)
noncomputable def cR43Text_75 := comp pc0 fiR43Text (subC [1, 1, 1, 1, 1, 0] bodyR43Text)
noncomputable def cR43Text_0 := comp pc0 fiR43Text bodyR43Text
noncomputable def finR43Text := finN (resC pc0 fiR43Text (resOf Tryz.prog 8)).run
theorem eR43Textx :
 ((((∀ r s x0 x1, (fnC pc0 8).run r [x0, x1] s = outF (bindR (fun tm s => finR43Text tm s) (cR43Text_0.run r (sp 1 x1 (sp 0 x0 T.new)) s))) ∧
 (∀ s tm, finR43Text tm s = finV (gp 240 tm) (resV [(gp 4 tm), (gp 5 tm)] s))) ∧
 ((∀ r s tm, cR43Text_0.run r tm s = seqA (fun tm s => seqA (fun tm s => seqA (fun tm s => seqA (fun tm s => seqA (fun tm s => seqA (fun tm s => .ret tm s) (cR43Text_75.run r tm s)) (seqA (fun tm s => condV (gp 20 tm) (seqA (fun tm s => .ret tm s) (cR43Text_71.run r tm s)) (.nrm tm s)) (cR43Text_68.run r tm s))) (seqA (fun tm s => blockA 0 (cR43Text_16.run r tm s)) (cR43Text_14.run r tm s))) (cR43Text_11.run r tm s)) (seqA (fun tm s => condV (gp 15 tm) (seqA (fun tm s => .ret tm s) (cR43Text_7.run r tm s)) (.nrm tm s)) (cR43Text_4.run r tm s))) (cR43Text_1.run r tm s)) ∧
 ((∀ g r s tm le, (qR43Text_31_0 g).run r tm (le) s = xBin ⟨7, []⟩ true .neq (gp 10 tm) (V.nat .i64 0) fun v1 => g.run r tm (v1 :: v1 :: (gp 10 tm) :: le) s) ∧
 (∀ g r s tm le, (qR43Text_31_3 g).run r tm ((.bool true) :: le) s = g.run r tm (Go.Ev.undef :: Go.Ev.undef :: (.bool true) :: le) s)))) ∧
 (((∀ g r s tm le, (qR43Text_31_3 g).run r tm ((.bool false) :: le) s = xBin ⟨7, []⟩ true .neq (gp 12 tm) (V.nat .i64 0) fun v4 => g.run r tm (v4 :: (gp 12 tm) :: (.bool false) :: le) s) ∧
 ((∀ g r s tm le x0_ x1_ x2_, (qR43Text_31_5 g).run r tm (x0_ :: x1_ :: x2_ :: le) s = xPick x2_ (fun _ => g.run r (sp 17 (V.bool true) tm) ((V.bool true) :: x0_ :: x1_ :: x2_ :: le) s) (fun _ => g.run r (sp 17 x0_ tm) (x0_ :: x0_ :: x1_ :: x2_ :: le) s)) ∧
 (∀ g r s tm le, (qR43Text_52_0 g).run r tm (le) s = xIdxAddrS 4 (gp 0 tm) (gp 8 tm) fun v3 => xFieldAddr 3 v3 fun v4 => xLoad false 1 v4 s fun v5 s => xLenS v5 fun v6 => xBin ⟨9, []⟩ false .lss (gp 13 tm) v6 fun v7 => g.run r tm (v7 :: v7 :: v6 :: v5 :: v4 :: v3 :: (gp 8 tm) :: (gp 0 tm) :: (gp 13 tm) :: le) s))) ∧
 ((∀ g r s tm le, (qR43Text_52_9 g).run r tm ((.bool true) :: le) s = xLenT (gp 6 tm) fun v10 => xBin ⟨9, []⟩ false .leq v10 (V.nat .i64 16384) fun v11 => g.run r tm (v11 :: v10 :: (gp 6 tm) :: (.bool true) :: le) s) ∧
 ((∀ g r s tm le, (qR43Text_52_9 g).run r tm ((.bool false) :: le) s = g.run r tm (Go.Ev.undef :: Go.Ev.undef :: Go.Ev.undef :: (.bool false) :: le) s) ∧
 (∀ g r s tm le x0_ x1_ x2_ x3_, (qR43Text_52_12 g).run r tm (x0_ :: x1_ :: x2_ :: x3_ :: le) s = xPick x3_ (fun _ => g.run r (sp 19 x0_ tm) (x0_ :: x0_ :: x1_ :: x2_ :: x3_ :: le) s) (fun _ => g.run r (sp 19 (V.bool false) tm) ((V.bool false) :: x0_ :: x1_ :: x2_ :: x3_ :: le) s)))))) := by
 and_intros <;> (intros; kernel_rfl)
theorem rgR43Text_1 : ∀ r s tm, cR43Text_1.run r tm s = .nrm (sp 5 (V.nat .i64 0) (sp 4 (V.str []) tm)) s := reg1 2
theorem rgR43Text_4 : ∀ r s tm, cR43Text_4.run r tm s = foldF (r.call 23 [(gp 1 tm)] s) fun v1 s => xUn .not v1 fun v2 => .nrm (sp 15 v2 tm) s := reg1 3
theorem rgR43Text_7 : ∀ r s tm, cR43Text_7.run r tm s = .nrm (sp 5 (V.nat .i64 1) (sp 4 (V.str []) tm)) s := reg1 2
theorem rgR43Text_11 : ∀ r s tm, cR43Text_11.run r tm s = .nrm (sp 7 (V.bool false) (sp 6 (V.str []) tm)) s := reg1 2
theorem rgR43Text_14 : ∀ r s tm, cR43Text_14.run r tm s = .nrm (sp 8 (V.nat .i64 0) tm) s := reg1 1
theorem rgR43Text_19 : ∀ r s tm, cR43Text_19.run r tm s = xLenS (gp 0 tm) fun v2 => xBin ⟨9, []⟩ false .lss (gp 8 tm) v2 fun v3 => .nrm (sp 16 v3 tm) s := reg1 4
theorem rgR43Text_26 : ∀ r s tm, cR43Text_26.run r tm s = xIdxAddrS 4 (gp 0 tm) (gp 8 tm) fun v3 => xFieldAddr 1 v3 fun v4 => xLoad false 1 v4 s fun v5 s => foldF (r.call 24 [(gp 1 tm), v5] s) fun v6 s => xExtract 0 v6 fun v8 => xExtract 1 v6 fun v9 => .nrm (sp 10 v9 (sp 9 v8 tm)) s := reg1 12
theorem rgR43Text_28 : ∀ r s tm, cR43Text_28.run r tm s = xIdxAddrS 4 (gp 0 tm) (gp 8 tm) fun v3 => xFieldAddr 2 v3 fun v4 => xLoad false 1 v4 s fun v5 s => foldF (r.call 24 [(gp 1 tm), v5] s) fun v6 s => xExtract 0 v6 fun v8 => xExtract 1 v6 fun v9 => .nrm (sp 12 v9 (sp 11 v8 tm)) s := reg1 12
theorem rgR43Text_31 : ∀ r s tm, cR43Text_31.run r tm s = (qR43Text_31_0 (qR43Text_31_3 (qR43Text_31_5 nilL))).run r tm [] s := reg_run (by kernel_rfl) (chS rfl (by kernel_rfl) (chS rfl (by kernel_rfl) chL))
theorem rgR43Text_34 : ∀ r s tm, cR43Text_34.run r tm s = .nrm (sp 5 (V.nat .i64 1) (sp 4 (V.str []) tm)) s := reg1 2
theorem rgR43Text_39 : ∀ r s tm, cR43Text_39.run r tm s = .nrm (sp 18 (gp 7 tm) tm) s := reg1 1
theorem rgR43Text_44 : ∀ r s tm, cR43Text_44.run r tm s = xIdxAddrS 4 (gp 0 tm) (gp 8 tm) fun v3 => xFieldAddr 0 v3 fun v4 => xLoad false 1 v4 s fun v5 s => foldF (r.call 25 [v5] s) fun v6 s => xBin ⟨9, []⟩ false .add (gp 6 tm) v6 fun v7 => xBin ⟨9, []⟩ false .add v7 (V.str [58, 32]) fun v8 => xBin ⟨9, []⟩ false .add v8 (gp 9 tm) fun v10 => xBin ⟨9, []⟩ false .add v10 (V.str [32, 45, 62, 32]) fun v11 => xBin ⟨9, []⟩ false .add v11 (gp 11 tm) fun v13 => .nrm (sp 6 v13 tm) s := reg1 15
theorem rgR43Text_47 : ∀ r s tm, cR43Text_47.run r tm s = .nrm (sp 13 (V.nat .i64 0) tm) s := reg1 1
theorem rgR43Text_52 : ∀ r s tm, cR43Text_52.run r tm s = (qR43Text_52_0 (qR43Text_52_9 (qR43Text_52_12 nilL))).run r tm [] s := reg_run (by kernel_rfl) (chS rfl (by kernel_rfl) (chS rfl (by kernel_rfl) chL))
theorem rgR43Text_59 : ∀ r s tm, cR43Text_59.run r tm s = xIdxAddrS 4 (gp 0 tm) (gp 8 tm) fun v2 => xFieldAddr 3 v2 fun v3 => xLoad false 1 v3 s fun v4 s => xIdxAddrS 3 v4 (gp 13 tm) fun v6 => xLoad true 3 v6 s fun v7 s => Go.Ev.newRow s 59 [(V.nat .i64 0), (V.nat .i64 0), (V.nat .i64 0)] false fun a8k _ s => xStore 3 (V.ptr a8k 0 0) v7 s fun _ s => .nrm (sp 14 (V.ptr a8k 0 0) tm) s := reg1 10
theorem rgR43Text_60 : ∀ r s tm, cR43Text_60.run r tm s = xBin ⟨9, []⟩ false .add (gp 6 tm) (V.str [32, 40]) fun v1 => xFieldAddr 0 (gp 14 tm) fun v2 => xLoad false 1 v2 s fun v3 s => xFieldAddr 1 (gp 14 tm) fun v4 => xLoad false 1 v4 s fun v5 s => xFieldAddr 2 (gp 14 tm) fun v6 => xLoad false 1 v6 s fun v7 s => foldF (r.det.call 25 [v3] s) fun v8 s => xLoad false 1 v4 s fun v9 s => boolA (beqV v9 v5) (xLoad false 1 v6 s fun v10 s => boolA (beqV v10 v7) (xBin ⟨9, []⟩ false .add v1 v8 fun v11 => xBin ⟨9, []⟩ false .add v11 (V.str [45]) fun v12 => foldF (r.det.call 25 [v5] s) fun v13 s => xLoad false 1 v6 s fun v14 s => boolA (beqV v14 v7) (xBin ⟨9, []⟩ false .add v12 v13 fun v15 => xBin ⟨9, []⟩ false .add v15 (V.str [32]) fun v16 => foldF (r.det.call 25 [v7] s) fun v17 s => xBin ⟨9, []⟩ false .add v16 v17 fun v18 => xBin ⟨9, []⟩ false .add v18 (V.str [41]) fun v19 => .nrm (sp 6 v19 tm) s) (.bad 194)) (.bad 194)) (.bad 194) := dreg1 21
theorem rgR43Text_61 : ∀ r s tm, cR43Text_61.run r tm s = xBin ⟨9, []⟩ false .add (gp 13 tm) (V.nat .i64 1) fun v1 => .nrm (sp 13 v1 tm) s := reg1 3
theorem rgR43Text_63 : ∀ r s tm, cR43Text_63.run r tm s = xBin ⟨9, []⟩ false .add (gp 6 tm) (V.str [10]) fun v1 => .nrm (sp 6 v1 tm) s := reg1 3
theorem rgR43Text_64 : ∀ r s tm, cR43Text_64.run r tm s = xLenT (gp 6 tm) fun v1 => xBin ⟨9, []⟩ false .gtr v1 (V.nat .i64 16384) fun v2 => .nrm (sp 7 v2 tm) s := reg1 4
theorem rgR43Text_65 : ∀ r s tm, cR43Text_65.run r tm s = xBin ⟨9, []⟩ false .add (gp 8 tm) (V.nat .i64 1) fun v1 => .nrm (sp 8 v1 tm) s := reg1 3
theorem rgR43Text_68 : ∀ r s tm, cR43Text_68.run r tm s = .nrm (sp 20 (gp 7 tm) tm) s := reg1 1
theorem rgR43Text_71 : ∀ r s tm, cR43Text_71.run r tm s = .nrm (sp 5 (V.nat .i64 2) (sp 4 (V.str []) tm)) s := reg1 2
theorem rgR43Text_75 : ∀ r s tm, cR43Text_75.run r tm s = .nrm (sp 5 (V.nat .i64 0) (sp 4 (gp 6 tm) tm)) s := reg1 3
theorem szR43Text_49 : sizeC uR43Text_49 = 57 := by kernel_rfl
theorem szR43Text_16 : sizeC uR43Text_16 = 157 := by kernel_rfl
theorem lpR43Text_49 : ∀ r s tm, cR43Text_49.run r tm s = seqA (fun tm s => r.code fiR43Text uR43Text_49 tm s) (seqA (fun tm s => seqA (fun tm s => cR43Text_61.run r tm s) (blockA 3 (seqA (fun tm s => cR43Text_60.run r tm s) (cR43Text_59.run r tm s)))) (seqA (fun tm s => condV (gp 19 tm) (.nrm tm s) (.ext 2 tm s)) (cR43Text_52.run r tm s))) := by intros; kernel_rfl
theorem lpR43Text_16 : ∀ r s tm, cR43Text_16.run r tm s = seqA (fun tm s => r.code fiR43Text uR43Text_16 tm s) (seqA (fun tm s => seqA (fun tm s => cR43Text_65.run r tm s) (blockA 1 (seqA (fun tm s => seqA (fun tm s => seqA (fun tm s => seqA (fun tm s => seqA (fun tm s => seqA (fun tm s => seqA (fun tm s => cR43Text_64.run r tm s) (cR43Text_63.run r tm s)) (seqA (fun tm s => blockA 2 (cR43Text_49.run r tm s)) (cR43Text_47.run r tm s))) (cR43Text_44.run r tm s)) (seqA (fun tm s => condV (gp 18 tm) (.ext 1 tm s) (.nrm tm s)) (cR43Text_39.run r tm s))) (seqA (fun tm s => condV (gp 17 tm) (seqA (fun tm s => .ret tm s) (cR43Text_34.run r tm s)) (.nrm tm s)) (cR43Text_31.run r tm s))) (cR43Text_28.run r tm s)) (cR43Text_26.run r tm s)))) (seqA (fun tm s => condV (gp 16 tm) (.nrm tm s) (.ext 0 tm s)) (cR43Text_19.run r tm s))) := by intros; kernel_rfl
theorem allR43Text : type_of% (And.intro rgR43Text_1 <| And.intro rgR43Text_4 <| And.intro rgR43Text_7 <| And.intro rgR43Text_11 <| And.intro rgR43Text_14 <| And.intro rgR43Text_19 <| And.intro rgR43Text_26 <| And.intro rgR43Text_28 <| And.intro rgR43Text_31 <| And.intro rgR43Text_34 <| And.intro rgR43Text_39 <| And.intro rgR43Text_44 <| And.intro rgR43Text_47 <| And.intro rgR43Text_52 <| And.intro rgR43Text_59 <| And.intro rgR43Text_60 <| And.intro rgR43Text_61 <| And.intro rgR43Text_63 <| And.intro rgR43Text_64 <| And.intro rgR43Text_65 <| And.intro rgR43Text_68 <| And.intro rgR43Text_71 <| And.intro rgR43Text_75 <| eR43Textx) := And.intro rgR43Text_1 <| And.intro rgR43Text_4 <| And.intro rgR43Text_7 <| And.intro rgR43Text_11 <| And.intro rgR43Text_14 <| And.intro rgR43Text_19 <| And.intro rgR43Text_26 <| And.intro rgR43Text_28 <| And.intro rgR43Text_31 <| And.intro rgR43Text_34 <| And.intro rgR43Text_39 <| And.intro rgR43Text_44 <| And.intro rgR43Text_47 <| And.intro rgR43Text_52 <| And.intro rgR43Text_59 <| And.intro rgR43Text_60 <| And.intro rgR43Text_61 <| And.intro rgR43Text_63 <| And.intro rgR43Text_64 <| And.intro rgR43Text_65 <| And.intro rgR43Text_68 <| And.intro rgR43Text_71 <| And.intro rgR43Text_75 <| eR43Textx
/- abugida/abugidaref05.Valid: parameters 1, slots in the frame: [(0, 0), (1, 1), (2, 2), (3, 3), (4, 6), (5, 10), (6, 28)] -/
def fiR5Valid : FI := ⟨268434352, 29, 6⟩
noncomputable def bodyR5Valid := bodyOf Tryz.prog 23
noncomputable def cR5Valid_1 := comp pc0 fiR5Valid (subC [0] bodyR5Valid)
noncomputable def cR5Valid_4 := comp pc0 fiR5Valid (subC [1, 0, 0] bodyR5Valid)
noncomputable def cR5Valid_7 := comp pc0 fiR5Valid (subC [1, 0, 1, 0, 0] bodyR5Valid)
noncomputable def cR5Valid_12 := comp pc0 fiR5Valid (subC [1, 1, 0, 0] bodyR5Valid)
noncomputable def cR5Valid_17 := comp pc0 fiR5Valid (subC [1, 1, 0, 1, 0, 0, 0, 0] bodyR5Valid)
noncomputable def uR5Valid_24 := subC [1, 1, 0, 1, 0, 0, 1, 0, 0, 0] bodyR5Valid
noncomputable def cR5Valid_24 := comp pc0 fiR5Valid uR5Valid_24
noncomputable def qR5Valid_24_15 := qOf pc0 fiR5Valid uR5Valid_24 15 1 [28, 27, 26, 25, 24, 23, 22, 21, 20, 19, 18, 17, 16, 15, 14]
noncomputable def qR5Valid_24_7 := qOf pc0 fiR5Valid uR5Valid_24 7 8 [20, 19, 18, 17, 16, 15, 14]
noncomputable def qR5Valid_24_0 := qOf pc0 fiR5Valid uR5Valid_24 0 7 []
noncomputable def cR5Valid_27 := comp pc0 fiR5Valid (subC [1, 1, 0, 1, 0, 0, 1, 0, 0, 1, 0, 0] bodyR5Valid)
noncomputable def cR5Valid_30 := comp pc0 fiR5Valid (subC [1, 1, 0, 1, 0, 0, 1, 1] bodyR5Valid)
noncomputable def uR5Valid_14 := subC [1, 1, 0, 1, 0] bodyR5Valid
noncomputable def cR5Valid_14 := comp pc0 fiR5Valid uR5Valid_14
noncomputable def cR5Valid_32 := comp pc0 fiR5Valid (subC [1, 1, 1, 0] bodyR5Valid)
noncomputable def cR5Valid_0 := comp pc0 fiR5Valid bodyR5Valid
noncomputable def finR5Valid := finN (resC pc0 fiR5Valid (resOf Tryz.prog 23)).run
theorem eR5Validx :
 (((∀ r s x0, (fnC pc0 23).run r [x0] s = outF (bindR (fun tm s => finR5Valid tm s) (cR5Valid_0.run r (sp 0 x0 T.new) s))) ∧
 ((∀ s tm, finR5Valid tm s = finV (gp 240 tm) (resV [(gp 2 tm)] s)) ∧
 (∀ r s tm, cR5Valid_0.run r tm s = seqA (fun tm s => seqA (fun tm s => seqA (fun tm s => seqA (fun tm s => .ret tm s) (cR5Valid_32.run r tm s)) (seqA (fun tm s => blockA 0 (cR5Valid_14.run r tm s)) (cR5Valid_12.run r tm s))) (seqA (fun tm s => condV (gp 4 tm) (seqA (fun tm s => .ret tm s) (cR5Valid_7.run r tm s)) (.nrm tm s)) (cR5Valid_4.run r tm s))) (cR5Valid_1.run r tm s)))) ∧
 (((∀ g r s tm le, (qR5Valid_24_0 g).run r tm (le) s = xIdxAddrS 1 (gp 0 tm) (gp 3 tm) fun v2 => xLoad false 1 v2 s fun v3 s => foldF (r.call 50 [v3] s) fun v4 s => xUn .not v4 fun v5 => g.run r tm (v5 :: v5 :: v4 :: v3 :: v2 :: (gp 3 tm) :: (gp 0 tm) :: le) s) ∧
 (∀ g r s tm le, (qR5Valid_24_7 g).run r tm ((.bool true) :: le) s = g.run r tm (Go.Ev.undef :: Go.Ev.undef :: Go.Ev.undef :: Go.Ev.undef :: Go.Ev.undef :: Go.Ev.undef :: Go.Ev.undef :: Go.Ev.undef :: (.bool true) :: le) s)) ∧
 ((∀ g r s tm le, (qR5Valid_24_7 g).run r tm ((.bool false) :: le) s = xIdxAddrS 1 (gp 0 tm) (gp 3 tm) fun v10 => xLoad false 1 v10 s fun v11 s => foldF (r.call 51 [(gp 0 tm), v11] s) fun v12 s => xBin ⟨7, []⟩ false .neq v12 (gp 3 tm) fun v14 => g.run r tm (v14 :: (gp 3 tm) :: v12 :: v11 :: v10 :: (gp 3 tm) :: (gp 0 tm) :: (gp 0 tm) :: (.bool false) :: le) s) ∧
 (∀ g r s tm le x0_ x1_ x2_ x3_ x4_ x5_ x6_ x7_ x8_, (qR5Valid_24_15 g).run r tm (x0_ :: x1_ :: x2_ :: x3_ :: x4_ :: x5_ :: x6_ :: x7_ :: x8_ :: le) s = xPick x8_ (fun _ => g.run r (sp 6 (V.bool true) tm) ((V.bool true) :: x0_ :: x1_ :: x2_ :: x3_ :: x4_ :: x5_ :: x6_ :: x7_ :: x8_ :: le) s) (fun _ => g.run r (sp 6 x0_ tm) (x0_ :: x0_ :: x1_ :: x2_ :: x3_ :: x4_ :: x5_ :: x6_ :: x7_ :: x8_ :: le) s))))) := by
 and_intros <;> (intros; kernel_rfl)
theorem rgR5Valid_1 : ∀ r s tm, cR5Valid_1.run r tm s = .nrm (sp 2 (V.bool false) tm) s := reg1 1
theorem rgR5Valid_4 : ∀ r s tm, cR5Valid_4.run r tm s = xLenS (gp 0 tm) fun v1 => xBin ⟨9, []⟩ false .gtr v1 (V.nat .i64 500) fun v2 => .nrm (sp 4 v2 tm) s := reg1 3
theorem rgR5Valid_7 : ∀ r s tm, cR5Valid_7.run r tm s = .nrm (sp 2 (V.bool false) tm) s := reg1 1
theorem rgR5Valid_12 : ∀ r s tm, cR5Valid_12.run r tm s = .nrm (sp 3 (V.nat .i64 0) tm) s := reg1 1
theorem rgR5Valid_17 : ∀ r s tm, cR5Valid_17.run r tm s = xLenS (gp 0 tm) fun v2 => xBin ⟨9, []⟩ false .lss (gp 3 tm) v2 fun v3 => .nrm (sp 5 v3 tm) s := reg1 4
theorem rgR5Valid_24 : ∀ r s tm, cR5Valid_24.run r tm s = (qR5Valid_24_0 (qR5Valid_24_7 (qR5Valid_24_15 nilL))).run r tm [] s := reg_run (by kernel_rfl) (chS rfl (by kernel_rfl) (chS rfl (by kernel_rfl) chL))
theorem rgR5Valid_27 : ∀ r s tm, cR5Valid_27.run r tm s = .nrm (sp 2 (V.bool false) tm) s := reg1 1
theorem rgR5Valid_30 : ∀ r s tm, cR5Valid_30.run r tm s = xBin ⟨9, []⟩ false .add (gp 3 tm) (V.nat .i64 1) fun v1 => .nrm (sp 3 v1 tm) s := reg1 3
theorem rgR5Valid_32 : ∀ r s tm, cR5Valid_32.run r tm s = .nrm (sp 2 (V.bool true) tm) s := reg1 1
theorem szR5Valid_14 : sizeC uR5Valid_14 = 41 := by kernel_rfl
theorem lpR5Valid_14 : ∀ r s tm, cR5Valid_14.run r tm s = seqA (fun tm s => r.code fiR5Valid uR5Valid_14 tm s) (seqA (fun tm s => seqA (fun tm s => cR5Valid_30.run r tm s) (blockA 1 (seqA (fun tm s => condV (gp 6 tm) (seqA (fun tm s => .ret tm s) (cR5Valid_27.run r tm s)) (.nrm tm s)) (cR5Valid_24.run r tm s)))) (seqA (fun tm s => condV (gp 5 tm) (.nrm tm s) (.ext 0 tm s)) (cR5Valid_17.run r tm s))) := by intros; kernel_rfl
theorem allR5Valid : type_of% (And.intro rgR5Valid_1 <| And.intro rgR5Valid_4 <| And.intro rgR5Valid_7 <| And.intro rgR5Valid_12 <| And.intro rgR5Valid_17 <| And.intro rgR5Valid_24 <| And.intro rgR5Valid_27 <| And.intro rgR5Valid_30 <| And.intro rgR5Valid_32 <| eR5Validx) := And.intro rgR5Valid_1 <| And.intro rgR5Valid_4 <| And.intro rgR5Valid_7 <| And.intro rgR5Valid_12 <| And.intro rgR5Valid_17 <| And.intro rgR5Valid_24 <| And.intro rgR5Valid_27 <| And.intro rgR5Valid_30 <| And.intro rgR5Valid_32 <| eR5Validx
/- abugida/abugidaref05.Text: parameters 2, slots in the frame: [(0, 0), (1, 1), (2, 2), (3, 3), (4, 4), (5, 5), (6, 6), (7, 7), (8, 16), (9, 20)] -/
def fiR5Text : FI := ⟨34358624000, 35, 6⟩
noncomputable def bodyR5Text := bodyOf Tryz.prog 24
noncomputable def cR5Text_1 := comp pc0 fiR5Text (subC [0] bodyR5Text)
noncomputable def uR5Text_4 := subC [1, 0, 0] bodyR5Text
noncomputable def cR5Text_4 := comp pc0 fiR5Text uR5Text_4
noncomputable def qR5Text_4_8 := qOf pc0 fiR5Text uR5Text_4 8 1 [16, 15, 14, 13, 12, 11, 10, 9]
noncomputable def qR5Text_4_4 := qOf pc0 fiR5Text uR5Text_4 4 4 [12, 11, 10, 9]
noncomputable def qR5Text_4_0 := qOf pc0 fiR5Text uR5Text_4 0 4 []
noncomputable def cR5Text_7 := comp pc0 fiR5Text (subC [1, 0, 1, 0, 0] bodyR5Text)
noncomputable def cR5Text_11 := comp pc0 fiR5Text (subC [1, 1, 0] bodyR5Text)
noncomputable def cR5Text_14 := comp pc0 fiR5Text (subC [1, 1, 1, 0, 0] bodyR5Text)
noncomputable def cR5Text_19 := comp pc0 fiR5Text (subC [1, 1, 1, 0, 1, 0, 0, 0, 0] bodyR5Text)
noncomputable def cR5Text_25 := comp pc0 fiR5Text (subC [1, 1, 1, 0, 1, 0, 0, 1, 0, 0] bodyR5Text)
noncomputable def cR5Text_26 := comp pc0 fiR5Text (subC [1, 1, 1, 0, 1, 0, 0, 1, 1] bodyR5Text)
noncomputable def uR5Text_16 := subC [1, 1, 1, 0, 1, 0] bodyR5Text
noncomputable def cR5Text_16 := comp pc0 fiR5Text uR5Text_16
noncomputable def cR5Text_28 := comp pc0 fiR5Text (subC [1, 1, 1, 1, 0] bodyR5Text)
noncomputable def cR5Text_0 := comp pc0 fiR5Text bodyR5Text
noncomputable def finR5Text := finN (resC pc0 fiR5Text (resOf Tryz.prog 24)).run
theorem eR5Textx :
 (((∀ r s x0 x1, (fnC pc0 24).run r [x0, x1] s = outF (bindR (fun tm s => finR5Text tm s) (cR5Text_0.run r (sp 1 x1 (sp 0 x0 T.new)) s))) ∧
 ((∀ s tm, finR5Text tm s = finV (gp 240 tm) (resV [(gp 4 tm), (gp 5 tm)] s)) ∧
 (∀ r s tm, cR5Text_0.run r tm s = seqA (fun tm s => seqA (fun tm s => seqA (fun tm s => seqA (fun tm s => seqA (fun tm s => .ret tm s) (cR5Text_28.run r tm s)) (seqA (fun tm s => blockA 0 (cR5Text_16.run r tm s)) (cR5Text_14.run r tm s))) (cR5Text_11.run r tm s)) (seqA (fun tm s => condV (gp 8 tm) (seqA (fun tm s => .ret tm s) (cR5Text_7.run r tm s)) (.nrm tm s)) (cR5Text_4.run r tm s))) (cR5Text_1.run r tm s)))) ∧
 (((∀ g r s tm le, (qR5Text_4_0 g).run r tm (le) s = foldF (r.call 23 [(gp 0 tm)] s) fun v1 s => xUn .not v1 fun v2 => g.run r tm (v2 :: v2 :: v1 :: (gp 0 tm) :: le) s) ∧
 (∀ g r s tm le, (qR5Text_4_4 g).run r tm ((.bool true) :: le) s = g.run r tm (Go.Ev.undef :: Go.Ev.undef :: Go.Ev.undef :: Go.Ev.undef :: (.bool true) :: le) s)) ∧
 ((∀ g r s tm le, (qR5Text_4_4 g).run r tm ((.bool false) :: le) s = foldF (r.call 52 [(gp 0 tm), (gp 1 tm)] s) fun v6 s => xUn .not v6 fun v7 => g.run r tm (v7 :: v6 :: (gp 1 tm) :: (gp 0 tm) :: (.bool false) :: le) s) ∧
 (∀ g r s tm le x0_ x1_ x2_ x3_ x4_, (qR5Text_4_8 g).run r tm (x0_ :: x1_ :: x2_ :: x3_ :: x4_ :: le) s = xPick x4_ (fun _ => g.run r (sp 8 (V.bool true) tm) ((V.bool true) :: x0_ :: x1_ :: x2_ :: x3_ :: x4_ :: le) s) (fun _ => g.run r (sp 8 x0_ tm) (x0_ :: x0_ :: x1_ :: x2_ :: x3_ :: x4_ :: le) s))))) := by
 and_intros <;> (intros; kernel_rfl)
theorem rgR5Text_1 : ∀ r s tm, cR5Text_1.run r tm s = .nrm (sp 5 (V.nat .i64 0) (sp 4 (V.str []) tm)) s := reg1 2
theorem rgR5Text_4 : ∀ r s tm, cR5Text_4.run r tm s = (qR5Text_4_0 (qR5Text_4_4 (qR5Text_4_8 nilL))).run r tm [] s := reg_run (by kernel_rfl) (chS rfl (by kernel_rfl) (chS rfl (by kernel_rfl) chL))
theorem rgR5Text_7 : ∀ r s tm, cR5Text_7.run r tm s = .nrm (sp 5 (V.nat .i64 1) (sp 4 (V.str []) tm)) s := reg1 2
theorem rgR5Text_11 : ∀ r s tm, cR5Text_11.run r tm s = .nrm (sp 6 (V.nil 1) tm) s := reg1 1
theorem rgR5Text_14 : ∀ r s tm, cR5Text_14.run r tm s = .nrm (sp 7 (V.nat .i64 0) tm) s := reg1 1
theorem rgR5Text_19 : ∀ r s tm, cR5Text_19.run r tm s = xLenS (gp 1 tm) fun v2 => xBin ⟨9, []⟩ false .lss (gp 7 tm) v2 fun v3 => .nrm (sp 9 v3 tm) s := reg1 4
theorem rgR5Text_25 : ∀ r s tm, cR5Text_25.run r tm s = xIdxAddrS 1 (gp 1 tm) (gp 7 tm) fun v4 => xLoad false 1 v4 s fun v5 s => xBin ⟨9, []⟩ false .sub v5 (V.nat .i64 1) fun v6 => xIdxAddrS 1 (gp 0 tm) v6 fun v7 => xLoad false 1 v7 s fun v8 s => xAppend 5 1 (gp 6 tm) v8 s fun v9 s => .nrm (sp 6 v9 tm) s := reg1 11
theorem rgR5Text_26 : ∀ r s tm, cR5Text_26.run r tm s = xBin ⟨9, []⟩ false .add (gp 7 tm) (V.nat .i64 1) fun v1 => .nrm (sp 7 v1 tm) s := reg1 3
theorem rgR5Text_28 : ∀ r s tm, cR5Text_28.run r tm s = xStrOf (gp 6 tm) s fun v1 => .nrm (sp 5 (V.nat .i64 0) (sp 4 v1 tm)) s := reg1 4
theorem szR5Text_16 : sizeC uR5Text_16 = 29 := by kernel_rfl
theorem lpR5Text_16 : ∀ r s tm, cR5Text_16.run r tm s = seqA (fun tm s => r.code fiR5Text uR5Text_16 tm s) (seqA (fun tm s => seqA (fun tm s => cR5Text_26.run r tm s) (blockA 1 (cR5Text_25.run r tm s))) (seqA (fun tm s => condV (gp 9 tm) (.nrm tm s) (.ext 0 tm s)) (cR5Text_19.run r tm s))) := by intros; kernel_rfl
theorem allR5Text : type_of% (And.intro rgR5Text_1 <| And.intro rgR5Text_4 <| And.intro rgR5Text_7 <| And.intro rgR5Text_11 <| And.intro rgR5Text_14 <| And.intro rgR5Text_19 <| And.intro rgR5Text_25 <| And.intro rgR5Text_26 <| And.intro rgR5Text_28 <| eR5Textx) := And.intro rgR5Text_1 <| And.intro rgR5Text_4 <| And.intro rgR5Text_7 <| And.intro rgR5Text_11 <| And.intro rgR5Text_14 <| And.intro rgR5Text_19 <| And.intro rgR5Text_25 <| And.intro rgR5Text_26 <| And.intro rgR5Text_28 <| eR5Textx
/- abugida/abugidaref43.number: parameters 1, slots in the frame: [(0, 0), (1, 1), (2, 2), (3, 3), (4, 4), (5, 6), (6, 8), (7, 28)] -/
def fiR43num : FI := ⟨1099243191968, 40, 6⟩
noncomputable def bodyR43num := bodyOf Tryz.prog 25
noncomputable def cR43num_1 := comp pc0 fiR43num (subC [0] bodyR43num)
noncomputable def cR43num_4 := comp pc0 fiR43num (subC [1, 0, 0] bodyR43num)
noncomputable def cR43num_7 := comp pc0 fiR43num (subC [1, 0, 1, 0, 0] bodyR43num)
noncomputable def cR43num_13 := comp pc0 fiR43num (subC [1, 0, 1, 0, 1, 0, 0, 0, 0, 0] bodyR43num)
noncomputable def cR43num_19 := comp pc0 fiR43num (subC [1, 0, 1, 0, 1, 0, 0, 0, 1, 0, 0] bodyR43num)
noncomputable def cR43num_20 := comp pc0 fiR43num (subC [1, 0, 1, 0, 1, 0, 0, 0, 1, 0, 1] bodyR43num)
noncomputable def uR43num_10 := subC [1, 0, 1, 0, 1, 0, 0] bodyR43num
noncomputable def cR43num_10 := comp pc0 fiR43num uR43num_10
noncomputable def cR43num_22 := comp pc0 fiR43num (subC [1, 0, 1, 0, 1, 1, 0] bodyR43num)
noncomputable def cR43num_26 := comp pc0 fiR43num (subC [1, 1, 0] bodyR43num)
noncomputable def uR43num_32 := subC [1, 1, 1, 0, 0, 0, 0, 0] bodyR43num
noncomputable def cR43num_32 := comp pc0 fiR43num uR43num_32
noncomputable def qR43num_32_5 := qOf pc0 fiR43num uR43num_32 5 1 [28, 27, 26, 25, 24]
noncomputable def qR43num_32_3 := qOf pc0 fiR43num uR43num_32 3 2 [26, 25, 24]
noncomputable def qR43num_32_0 := qOf pc0 fiR43num uR43num_32 0 3 []
noncomputable def cR43num_38 := comp pc0 fiR43num (subC [1, 1, 1, 0, 0, 0, 1, 0, 0] bodyR43num)
noncomputable def cR43num_39 := comp pc0 fiR43num (subC [1, 1, 1, 0, 0, 0, 1, 0, 1] bodyR43num)
noncomputable def uR43num_29 := subC [1, 1, 1, 0, 0] bodyR43num
noncomputable def cR43num_29 := comp pc0 fiR43num uR43num_29
noncomputable def cR43num_41 := comp pc0 fiR43num (subC [1, 1, 1, 1, 0] bodyR43num)
noncomputable def cR43num_0 := comp pc0 fiR43num bodyR43num
noncomputable def finR43num := finN (resC pc0 fiR43num (resOf Tryz.prog 25)).run
theorem eR43numx :
 (((∀ r s x0, (fnC pc0 25).run r [x0] s = outF (bindR (fun tm s => finR43num tm s) (cR43num_0.run r (sp 0 x0 T.new) s))) ∧
 ((∀ s tm, finR43num tm s = finV (gp 240 tm) (resV [(gp 2 tm)] s)) ∧
 (∀ r s tm, cR43num_0.run r tm s = seqA (fun tm s => seqA (fun tm s => seqA (fun tm s => seqA (fun tm s => seqA (fun tm s => .ret tm s) (cR43num_41.run r tm s)) (blockA 2 (cR43num_29.run r tm s))) (cR43num_26.run r tm s)) (seqA (fun tm s => condV (gp 5 tm) (seqA (fun tm s => seqA (fun tm s => seqA (fun tm s => .ret tm s) (cR43num_22.run r tm s)) (blockA 0 (cR43num_10.run r tm s))) (cR43num_7.run r tm s)) (.nrm tm s)) (cR43num_4.run r tm s))) (cR43num_1.run r tm s)))) ∧
 (((∀ g r s tm le, (qR43num_32_0 g).run r tm (le) s = xBin ⟨9, []⟩ false .gtr (gp 0 tm) (V.nat .i64 0) fun v1 => g.run r tm (v1 :: v1 :: (gp 0 tm) :: le) s) ∧
 (∀ g r s tm le, (qR43num_32_3 g).run r tm ((.bool true) :: le) s = g.run r tm (Go.Ev.undef :: Go.Ev.undef :: (.bool true) :: le) s)) ∧
 ((∀ g r s tm le, (qR43num_32_3 g).run r tm ((.bool false) :: le) s = xBin ⟨8, []⟩ true .eql (gp 4 tm) (V.str []) fun v4 => g.run r tm (v4 :: (gp 4 tm) :: (.bool false) :: le) s) ∧
 (∀ g r s tm le x0_ x1_ x2_, (qR43num_32_5 g).run r tm (x0_ :: x1_ :: x2_ :: le) s = xPick x2_ (fun _ => g.run r (sp 7 (V.bool true) tm) ((V.bool true) :: x0_ :: x1_ :: x2_ :: le) s) (fun _ => g.run r (sp 7 x0_ tm) (x0_ :: x0_ :: x1_ :: x2_ :: le) s))))) := by
 and_intros <;> (intros; kernel_rfl)
theorem rgR43num_1 : ∀ r s tm, cR43num_1.run r tm s = .nrm (sp 2 (V.str []) tm) s := reg1 1
theorem rgR43num_4 : ∀ r s tm, cR43num_4.run r tm s = xBin ⟨9, []⟩ false .lss (gp 0 tm) (V.nat .i64 0) fun v1 => .nrm (sp 5 v1 tm) s := reg1 2
theorem rgR43num_7 : ∀ r s tm, cR43num_7.run r tm s = .nrm (sp 3 (V.str []) tm) s := reg1 1
theorem rgR43num_13 : ∀ r s tm, cR43num_13.run r tm s = xBin ⟨9, []⟩ false .lss (gp 0 tm) (V.nat .i64 0) fun v1 => .nrm (sp 6 v1 tm) s := reg1 2
theorem rgR43num_19 : ∀ r s tm, cR43num_19.run r tm s = xBin ⟨9, []⟩ false .rem (gp 0 tm) (V.nat .i64 10) fun v1 => xUn .neg v1 fun v2 => xBin ⟨9, []⟩ false .rem (gp 0 tm) (V.nat .i64 10) fun v4 => xUn .neg v4 fun v5 => xBin ⟨9, []⟩ false .add v5 (V.nat .i64 1) fun v6 => xSliceT (V.str [48, 49, 50, 51, 52, 53, 54, 55, 56, 57]) (some v2) (some v6) fun v7 => xBin ⟨9, []⟩ false .add v7 (gp 3 tm) fun v9 => .nrm (sp 3 v9 tm) s := reg1 11
theorem rgR43num_20 : ∀ r s tm, cR43num_20.run r tm s = xBin ⟨9, []⟩ false .quo (gp 0 tm) (V.nat .i64 10) fun v1 => .nrm (sp 0 v1 tm) s := reg1 3
theorem rgR43num_22 : ∀ r s tm, cR43num_22.run r tm s = xBin ⟨9, []⟩ false .add (V.str [45]) (gp 3 tm) fun v1 => .nrm (sp 2 v1 tm) s := reg1 3
theorem rgR43num_26 : ∀ r s tm, cR43num_26.run r tm s = .nrm (sp 4 (V.str []) tm) s := reg1 1
theorem rgR43num_32 : ∀ r s tm, cR43num_32.run r tm s = (qR43num_32_0 (qR43num_32_3 (qR43num_32_5 nilL))).run r tm [] s := reg_run (by kernel_rfl) (chS rfl (by kernel_rfl) (chS rfl (by kernel_rfl) chL))
theorem rgR43num_38 : ∀ r s tm, cR43num_38.run r tm s = xBin ⟨9, []⟩ false .rem (gp 0 tm) (V.nat .i64 10) fun v1 => xBin ⟨9, []⟩ false .rem (gp 0 tm) (V.nat .i64 10) fun v3 => xBin ⟨9, []⟩ false .add v3 (V.nat .i64 1) fun v4 => xSliceT (V.str [48, 49, 50, 51, 52, 53, 54, 55, 56, 57]) (some v1) (some v4) fun v5 => xBin ⟨9, []⟩ false .add v5 (gp 4 tm) fun v7 => .nrm (sp 4 v7 tm) s := reg1 9
theorem rgR43num_39 : ∀ r s tm, cR43num_39.run r tm s = xBin ⟨9, []⟩ false .quo (gp 0 tm) (V.nat .i64 10) fun v1 => .nrm (sp 0 v1 tm) s := reg1 3
theorem rgR43num_41 : ∀ r s tm, cR43num_41.run r tm s = .nrm (sp 2 (gp 4 tm) tm) s := reg1 2
theorem szR43num_10 : sizeC uR43num_10 = 27 := by kernel_rfl
theorem szR43num_29 : sizeC uR43num_29 = 29 := by kernel_rfl
theorem lpR43num_10 : ∀ r s tm, cR43num_10.run r tm s = seqA (fun tm s => r.code fiR43num uR43num_10 tm s) (seqA (fun tm s => blockA 1 (seqA (fun tm s => cR43num_20.run r tm s) (cR43num_19.run r tm s))) (seqA (fun tm s => condV (gp 6 tm) (.nrm tm s) (.ext 0 tm s)) (cR43num_13.run r tm s))) := by intros; kernel_rfl
theorem lpR43num_29 : ∀ r s tm, cR43num_29.run r tm s = seqA (fun tm s => r.code fiR43num uR43num_29 tm s) (seqA (fun tm s => blockA 3 (seqA (fun tm s => cR43num_39.run r tm s) (cR43num_38.run r tm s))) (seqA (fun tm s => condV (gp 7 tm) (.nrm tm s) (.ext 2 tm s)) (cR43num_32.run r tm s))) := by intros; kernel_rfl
theorem allR43num : type_of% (And.intro rgR43num_1 <| And.intro rgR43num_4 <| And.intro rgR43num_7 <| And.intro rgR43num_13 <| And.intro rgR43num_19 <| And.intro rgR43num_20 <| And.intro rgR43num_22 <| And.intro rgR43num_26 <| And.intro rgR43num_32 <| And.intro rgR43num_38 <| And.intro rgR43num_39 <| And.intro rgR43num_41 <| eR43numx) := And.intro rgR43num_1 <| And.intro rgR43num_4 <| And.intro rgR43num_7 <| And.intro rgR43num_13 <| And.intro rgR43num_19 <| And.intro rgR43num_20 <| And.intro rgR43num_22 <| And.intro rgR43num_26 <| And.intro rgR43num_32 <| And.intro rgR43num_38 <| And.intro rgR43num_39 <| And.intro rgR43num_41 <| eR43numx
/- abugida/abugidaref05.Named: parameters 1, slots in the frame: [(0, 0), (1, 1), (2, 2), (3, 5)] -/
def fiR5Named : FI := ⟨16777176, 24, 6⟩
noncomputable def bodyR5Named := bodyOf Tryz.prog 50
noncomputable def cR5Named_1 := comp pc0 fiR5Named (subC [0] bodyR5Named)
noncomputable def cR5Named_3 := comp pc0 fiR5Named (subC [1, 0] bodyR5Named)
noncomputable def uR5Named_5 := subC [1, 1, 0] bodyR5Named
noncomputable def cR5Named_5 := comp pc0 fiR5Named uR5Named_5
noncomputable def qR5Named_5_11 := qOf pc0 fiR5Named uR5Named_5 11 2 [23, 22, 21, 20, 19, 18, 17, 16, 15, 14, 13]
noncomputable def qR5Named_5_9 := qOf pc0 fiR5Named uR5Named_5 9 2 [21, 20, 19, 18, 17, 16, 15, 14, 13]
noncomputable def qR5Named_5_7 := qOf pc0 fiR5Named uR5Named_5 7 2 [19, 18, 17, 16, 15, 14, 13]
noncomputable def qR5Named_5_4 := qOf pc0 fiR5Named uR5Named_5 4 3 [16, 15, 14, 13]
noncomputable def qR5Named_5_0 := qOf pc0 fiR5Named uR5Named_5 0 4 []
noncomputable def cR5Named_0 := comp pc0 fiR5Named bodyR5Named
noncomputable def finR5Named := finN (resC pc0 fiR5Named (resOf Tryz.prog 50)).run
theorem eR5Namedx :
 ((((∀ r s x0, (fnC pc0 50).run r [x0] s = outF (bindR (fun tm s => finR5Named tm s) (cR5Named_0.run r (sp 0 x0 T.new) s))) ∧
 (∀ s tm, finR5Named tm s = finV (gp 240 tm) (resV [(gp 2 tm)] s))) ∧
 ((∀ r s tm, cR5Named_0.run r tm s = seqA (fun tm s => seqA (fun tm s => seqA (fun tm s => .ret tm s) (cR5Named_5.run r tm s)) (cR5Named_3.run r tm s)) (cR5Named_1.run r tm s)) ∧
 ((∀ g r s tm le, (qR5Named_5_0 g).run r tm (le) s = xLenT (gp 0 tm) fun v1 => xBin ⟨9, []⟩ false .geq v1 (V.nat .i64 1) fun v2 => g.run r tm (v2 :: v2 :: v1 :: (gp 0 tm) :: le) s) ∧
 (∀ g r s tm le, (qR5Named_5_4 g).run r tm ((.bool true) :: le) s = xLenT (gp 0 tm) fun v5 => xBin ⟨9, []⟩ false .leq v5 (V.nat .i64 40) fun v6 => g.run r tm (v6 :: v5 :: (gp 0 tm) :: (.bool true) :: le) s)))) ∧
 (((∀ g r s tm le, (qR5Named_5_4 g).run r tm ((.bool false) :: le) s = g.run r tm (Go.Ev.undef :: Go.Ev.undef :: Go.Ev.undef :: (.bool false) :: le) s) ∧
 (∀ g r s tm le x0_ x1_ x2_ x3_, (qR5Named_5_7 g).run r tm (x0_ :: x1_ :: x2_ :: x3_ :: le) s = xPick x3_ (fun _ => g.run r tm (x0_ :: x0_ :: x0_ :: x1_ :: x2_ :: x3_ :: le) s) (fun _ => g.run r tm ((V.bool false) :: (V.bool false) :: x0_ :: x1_ :: x2_ :: x3_ :: le) s))) ∧
 ((∀ g r s tm le, (qR5Named_5_9 g).run r tm ((.bool true) :: le) s = xBin ⟨7, []⟩ true .eql (gp 3 tm) (V.nat .i64 0) fun v10 => g.run r tm (v10 :: (gp 3 tm) :: (.bool true) :: le) s) ∧
 ((∀ g r s tm le, (qR5Named_5_9 g).run r tm ((.bool false) :: le) s = g.run r tm (Go.Ev.undef :: Go.Ev.undef :: (.bool false) :: le) s) ∧
 (∀ g r s tm le x0_ x1_ x2_, (qR5Named_5_11 g).run r tm (x0_ :: x1_ :: x2_ :: le) s = xPick x2_ (fun _ => g.run r (sp 2 x0_ tm) (x0_ :: x0_ :: x0_ :: x1_ :: x2_ :: le) s) (fun _ => g.run r (sp 2 (V.bool false) tm) ((V.bool false) :: (V.bool false) :: x0_ :: x1_ :: x2_ :: le) s)))))) := by
 and_intros <;> (intros; kernel_rfl)
theorem rgR5Named_1 : ∀ r s tm, cR5Named_1.run r tm s = .nrm (sp 2 (V.bool false) tm) s := reg1 1
theorem rgR5Named_3 : ∀ r s tm, cR5Named_3.run r tm s = foldF (r.call 65 [(gp 0 tm)] s) fun v1 s => xExtract 0 v1 fun _ => xExtract 1 v1 fun _ => xExtract 2 v1 fun v5 => .nrm (sp 3 v5 tm) s := reg1 9
theorem rgR5Named_5 : ∀ r s tm, cR5Named_5.run r tm s = (qR5Named_5_0 (qR5Named_5_4 (qR5Named_5_7 (qR5Named_5_9 (qR5Named_5_11 nilL))))).run r tm [] s := reg_run (by kernel_rfl) (chS rfl (by kernel_rfl) (chS rfl (by kernel_rfl) (chS rfl (by kernel_rfl) (chS rfl (by kernel_rfl) chL))))
theorem allR5Named : type_of% (And.intro rgR5Named_1 <| And.intro rgR5Named_3 <| And.intro rgR5Named_5 <| eR5Namedx) := And.intro rgR5Named_1 <| And.intro rgR5Named_3 <| And.intro rgR5Named_5 <| eR5Namedx
/- abugida/abugidaref05.position: parameters 2, slots in the frame: [(0, 0), (1, 1), (2, 2), (3, 3), (4, 4), (5, 5), (6, 9), (7, 17)] -/
def fiR5Pos : FI := ⟨392640, 19, 6⟩
noncomputable def bodyR5Pos := bodyOf Tryz.prog 51
noncomputable def cR5Pos_1 := comp pc0 fiR5Pos (subC [0] bodyR5Pos)
noncomputable def cR5Pos_4 := comp pc0 fiR5Pos (subC [1, 0, 0] bodyR5Pos)
noncomputable def cR5Pos_9 := comp pc0 fiR5Pos (subC [1, 0, 1, 0, 0, 0, 0] bodyR5Pos)
noncomputable def cR5Pos_16 := comp pc0 fiR5Pos (subC [1, 0, 1, 0, 0, 1, 0, 0, 0] bodyR5Pos)
noncomputable def cR5Pos_19 := comp pc0 fiR5Pos (subC [1, 0, 1, 0, 0, 1, 0, 0, 1, 0, 0] bodyR5Pos)
noncomputable def cR5Pos_22 := comp pc0 fiR5Pos (subC [1, 0, 1, 0, 0, 1, 1] bodyR5Pos)
noncomputable def uR5Pos_6 := subC [1, 0, 1, 0] bodyR5Pos
noncomputable def cR5Pos_6 := comp pc0 fiR5Pos uR5Pos_6
noncomputable def cR5Pos_24 := comp pc0 fiR5Pos (subC [1, 1, 0] bodyR5Pos)
noncomputable def cR5Pos_0 := comp pc0 fiR5Pos bodyR5Pos
noncomputable def finR5Pos := finN (resC pc0 fiR5Pos (resOf Tryz.prog 51)).run
theorem eR5Posx :
 ((∀ r s x0 x1, (fnC pc0 51).run r [x0, x1] s = outF (bindR (fun tm s => finR5Pos tm s) (cR5Pos_0.run r (sp 1 x1 (sp 0 x0 T.new)) s))) ∧
 ((∀ s tm, finR5Pos tm s = finV (gp 240 tm) (resV [(gp 4 tm)] s)) ∧
 (∀ r s tm, cR5Pos_0.run r tm s = seqA (fun tm s => seqA (fun tm s => seqA (fun tm s => .ret tm s) (cR5Pos_24.run r tm s)) (seqA (fun tm s => blockA 0 (cR5Pos_6.run r tm s)) (cR5Pos_4.run r tm s))) (cR5Pos_1.run r tm s)))) := by
 and_intros <;> (intros; kernel_rfl)
theorem rgR5Pos_1 : ∀ r s tm, cR5Pos_1.run r tm s = .nrm (sp 4 (V.nat .i64 0) tm) s := reg1 1
theorem rgR5Pos_4 : ∀ r s tm, cR5Pos_4.run r tm s = .nrm (sp 5 (V.nat .i64 0) tm) s := reg1 1
theorem rgR5Pos_9 : ∀ r s tm, cR5Pos_9.run r tm s = xLenS (gp 0 tm) fun v2 => xBin ⟨9, []⟩ false .lss (gp 5 tm) v2 fun v3 => .nrm (sp 6 v3 tm) s := reg1 4
theorem rgR5Pos_16 : ∀ r s tm, cR5Pos_16.run r tm s = xIdxAddrS 1 (gp 0 tm) (gp 5 tm) fun v2 => xLoad false 1 v2 s fun v3 s => xBin ⟨8, []⟩ false .eql v3 (gp 1 tm) fun v5 => .nrm (sp 7 v5 tm) s := reg1 6
theorem rgR5Pos_19 : ∀ r s tm, cR5Pos_19.run r tm s = .nrm (sp 4 (gp 5 tm) tm) s := reg1 2
theorem rgR5Pos_22 : ∀ r s tm, cR5Pos_22.run r tm s = xBin ⟨9, []⟩ false .add (gp 5 tm) (V.nat .i64 1) fun v1 => .nrm (sp 5 v1 tm) s := reg1 3
theorem rgR5Pos_24 : ∀ r s tm, cR5Pos_24.run r tm s = .nrm (sp 4 (V.neg .i64 0) tm) s := reg1 1
theorem szR5Pos_6 : sizeC uR5Pos_6 = 32 := by kernel_rfl
theorem lpR5Pos_6 : ∀ r s tm, cR5Pos_6.run r tm s = seqA (fun tm s => r.code fiR5Pos uR5Pos_6 tm s) (seqA (fun tm s => seqA (fun tm s => cR5Pos_22.run r tm s) (blockA 1 (seqA (fun tm s => condV (gp 7 tm) (seqA (fun tm s => .ret tm s) (cR5Pos_19.run r tm s)) (.nrm tm s)) (cR5Pos_16.run r tm s)))) (seqA (fun tm s => condV (gp 6 tm) (.nrm tm s) (.ext 0 tm s)) (cR5Pos_9.run r tm s))) := by intros; kernel_rfl
theorem allR5Pos : type_of% (And.intro rgR5Pos_1 <| And.intro rgR5Pos_4 <| And.intro rgR5Pos_9 <| And.intro rgR5Pos_16 <| And.intro rgR5Pos_19 <| And.intro rgR5Pos_22 <| And.intro rgR5Pos_24 <| eR5Posx) := And.intro rgR5Pos_1 <| And.intro rgR5Pos_4 <| And.intro rgR5Pos_9 <| And.intro rgR5Pos_16 <| And.intro rgR5Pos_19 <| And.intro rgR5Pos_22 <| And.intro rgR5Pos_24 <| eR5Posx
/- abugida/abugidaref05.Word: parameters 2, slots in the frame: [(0, 0), (1, 1), (2, 2), (3, 3), (4, 4), (5, 5), (6, 8), (7, 12), (8, 28)] -/
def fiR5Word : FI := ⟨268431040, 29, 6⟩
noncomputable def bodyR5Word := bodyOf Tryz.prog 52
noncomputable def cR5Word_1 := comp pc0 fiR5Word (subC [0] bodyR5Word)
noncomputable def cR5Word_4 := comp pc0 fiR5Word (subC [1, 0, 0] bodyR5Word)
noncomputable def cR5Word_7 := comp pc0 fiR5Word (subC [1, 0, 1, 0, 0] bodyR5Word)
noncomputable def cR5Word_12 := comp pc0 fiR5Word (subC [1, 1, 0, 0] bodyR5Word)
noncomputable def cR5Word_17 := comp pc0 fiR5Word (subC [1, 1, 0, 1, 0, 0, 0, 0] bodyR5Word)
noncomputable def uR5Word_24 := subC [1, 1, 0, 1, 0, 0, 1, 0, 0, 0] bodyR5Word
noncomputable def cR5Word_24 := comp pc0 fiR5Word uR5Word_24
noncomputable def qR5Word_24_13 := qOf pc0 fiR5Word uR5Word_24 13 1 [28, 27, 26, 25, 24, 23, 22, 21, 20, 19, 18, 17, 16]
noncomputable def qR5Word_24_6 := qOf pc0 fiR5Word uR5Word_24 6 7 [21, 20, 19, 18, 17, 16]
noncomputable def qR5Word_24_0 := qOf pc0 fiR5Word uR5Word_24 0 6 []
noncomputable def cR5Word_27 := comp pc0 fiR5Word (subC [1, 1, 0, 1, 0, 0, 1, 0, 0, 1, 0, 0] bodyR5Word)
noncomputable def cR5Word_30 := comp pc0 fiR5Word (subC [1, 1, 0, 1, 0, 0, 1, 1] bodyR5Word)
noncomputable def uR5Word_14 := subC [1, 1, 0, 1, 0] bodyR5Word
noncomputable def cR5Word_14 := comp pc0 fiR5Word uR5Word_14
noncomputable def cR5Word_32 := comp pc0 fiR5Word (subC [1, 1, 1, 0] bodyR5Word)
noncomputable def cR5Word_0 := comp pc0 fiR5Word bodyR5Word
noncomputable def finR5Word := finN (resC pc0 fiR5Word (resOf Tryz.prog 52)).run
theorem eR5Wordx :
 (((∀ r s x0 x1, (fnC pc0 52).run r [x0, x1] s = outF (bindR (fun tm s => finR5Word tm s) (cR5Word_0.run r (sp 1 x1 (sp 0 x0 T.new)) s))) ∧
 ((∀ s tm, finR5Word tm s = finV (gp 240 tm) (resV [(gp 4 tm)] s)) ∧
 (∀ r s tm, cR5Word_0.run r tm s = seqA (fun tm s => seqA (fun tm s => seqA (fun tm s => seqA (fun tm s => .ret tm s) (cR5Word_32.run r tm s)) (seqA (fun tm s => blockA 0 (cR5Word_14.run r tm s)) (cR5Word_12.run r tm s))) (seqA (fun tm s => condV (gp 6 tm) (seqA (fun tm s => .ret tm s) (cR5Word_7.run r tm s)) (.nrm tm s)) (cR5Word_4.run r tm s))) (cR5Word_1.run r tm s)))) ∧
 (((∀ g r s tm le, (qR5Word_24_0 g).run r tm (le) s = xIdxAddrS 1 (gp 1 tm) (gp 5 tm) fun v2 => xLoad false 1 v2 s fun v3 s => xBin ⟨9, []⟩ false .lss v3 (V.nat .i64 1) fun v4 => g.run r tm (v4 :: v4 :: v3 :: v2 :: (gp 5 tm) :: (gp 1 tm) :: le) s) ∧
 (∀ g r s tm le, (qR5Word_24_6 g).run r tm ((.bool true) :: le) s = g.run r tm (Go.Ev.undef :: Go.Ev.undef :: Go.Ev.undef :: Go.Ev.undef :: Go.Ev.undef :: Go.Ev.undef :: Go.Ev.undef :: (.bool true) :: le) s)) ∧
 ((∀ g r s tm le, (qR5Word_24_6 g).run r tm ((.bool false) :: le) s = xIdxAddrS 1 (gp 1 tm) (gp 5 tm) fun v8 => xLoad false 1 v8 s fun v9 s => xLenS (gp 0 tm) fun v11 => xBin ⟨9, []⟩ false .gtr v9 v11 fun v12 => g.run r tm (v12 :: v11 :: (gp 0 tm) :: v9 :: v8 :: (gp 5 tm) :: (gp 1 tm) :: (.bool false) :: le) s) ∧
 (∀ g r s tm le x0_ x1_ x2_ x3_ x4_ x5_ x6_ x7_, (qR5Word_24_13 g).run r tm (x0_ :: x1_ :: x2_ :: x3_ :: x4_ :: x5_ :: x6_ :: x7_ :: le) s = xPick x7_ (fun _ => g.run r (sp 8 (V.bool true) tm) ((V.bool true) :: x0_ :: x1_ :: x2_ :: x3_ :: x4_ :: x5_ :: x6_ :: x7_ :: le) s) (fun _ => g.run r (sp 8 x0_ tm) (x0_ :: x0_ :: x1_ :: x2_ :: x3_ :: x4_ :: x5_ :: x6_ :: x7_ :: le) s))))) := by
 and_intros <;> (intros; kernel_rfl)
theorem rgR5Word_1 : ∀ r s tm, cR5Word_1.run r tm s = .nrm (sp 4 (V.bool false) tm) s := reg1 1
theorem rgR5Word_4 : ∀ r s tm, cR5Word_4.run r tm s = xLenS (gp 1 tm) fun v1 => xBin ⟨9, []⟩ false .gtr v1 (V.nat .i64 200) fun v2 => .nrm (sp 6 v2 tm) s := reg1 3
theorem rgR5Word_7 : ∀ r s tm, cR5Word_7.run r tm s = .nrm (sp 4 (V.bool false) tm) s := reg1 1
theorem rgR5Word_12 : ∀ r s tm, cR5Word_12.run r tm s = .nrm (sp 5 (V.nat .i64 0) tm) s := reg1 1
theorem rgR5Word_17 : ∀ r s tm, cR5Word_17.run r tm s = xLenS (gp 1 tm) fun v2 => xBin ⟨9, []⟩ false .lss (gp 5 tm) v2 fun v3 => .nrm (sp 7 v3 tm) s := reg1 4
theorem rgR5Word_24 : ∀ r s tm, cR5Word_24.run r tm s = (qR5Word_24_0 (qR5Word_24_6 (qR5Word_24_13 nilL))).run r tm [] s := reg_run (by kernel_rfl) (chS rfl (by kernel_rfl) (chS rfl (by kernel_rfl) chL))
theorem rgR5Word_27 : ∀ r s tm, cR5Word_27.run r tm s = .nrm (sp 4 (V.bool false) tm) s := reg1 1
theorem rgR5Word_30 : ∀ r s tm, cR5Word_30.run r tm s = xBin ⟨9, []⟩ false .add (gp 5 tm) (V.nat .i64 1) fun v1 => .nrm (sp 5 v1 tm) s := reg1 3
theorem rgR5Word_32 : ∀ r s tm, cR5Word_32.run r tm s = .nrm (sp 4 (V.bool true) tm) s := reg1 1
theorem szR5Word_14 : sizeC uR5Word_14 = 39 := by kernel_rfl
theorem lpR5Word_14 : ∀ r s tm, cR5Word_14.run r tm s = seqA (fun tm s => r.code fiR5Word uR5Word_14 tm s) (seqA (fun tm s => seqA (fun tm s => cR5Word_30.run r tm s) (blockA 1 (seqA (fun tm s => condV (gp 8 tm) (seqA (fun tm s => .ret tm s) (cR5Word_27.run r tm s)) (.nrm tm s)) (cR5Word_24.run r tm s)))) (seqA (fun tm s => condV (gp 7 tm) (.nrm tm s) (.ext 0 tm s)) (cR5Word_17.run r tm s))) := by intros; kernel_rfl
theorem allR5Word : type_of% (And.intro rgR5Word_1 <| And.intro rgR5Word_4 <| And.intro rgR5Word_7 <| And.intro rgR5Word_12 <| And.intro rgR5Word_17 <| And.intro rgR5Word_24 <| And.intro rgR5Word_27 <| And.intro rgR5Word_30 <| And.intro rgR5Word_32 <| eR5Wordx) := And.intro rgR5Word_1 <| And.intro rgR5Word_4 <| And.intro rgR5Word_7 <| And.intro rgR5Word_12 <| And.intro rgR5Word_17 <| And.intro rgR5Word_24 <| And.intro rgR5Word_27 <| And.intro rgR5Word_30 <| And.intro rgR5Word_32 <| eR5Wordx
/- abugida/abugidaref01.Split: parameters 1, slots in the frame: [(0, 0), (1, 1), (2, 2), (3, 3), (4, 4), (5, 5), (6, 6), (7, 7), (8, 10), (9, 16), (10, 24)] -/
def fiR1Split : FI := ⟨17163025152, 34, 6⟩
noncomputable def bodyR1Split := bodyOf Tryz.prog 65
noncomputable def cR1Split_1 := comp pc0 fiR1Split (subC [0] bodyR1Split)
noncomputable def cR1Split_4 := comp pc0 fiR1Split (subC [1, 0, 0] bodyR1Split)
noncomputable def cR1Split_7 := comp pc0 fiR1Split (subC [1, 0, 1, 0, 0] bodyR1Split)
noncomputable def cR1Split_11 := comp pc0 fiR1Split (subC [1, 1, 0] bodyR1Split)
noncomputable def cR1Split_13 := comp pc0 fiR1Split (subC [1, 1, 1, 0] bodyR1Split)
noncomputable def cR1Split_16 := comp pc0 fiR1Split (subC [1, 1, 1, 1, 0, 0] bodyR1Split)
noncomputable def cR1Split_21 := comp pc0 fiR1Split (subC [1, 1, 1, 1, 0, 1, 0, 0, 0, 0] bodyR1Split)
noncomputable def cR1Split_29 := comp pc0 fiR1Split (subC [1, 1, 1, 1, 0, 1, 0, 0, 1, 0, 0, 0, 0] bodyR1Split)
noncomputable def cR1Split_32 := comp pc0 fiR1Split (subC [1, 1, 1, 1, 0, 1, 0, 0, 1, 0, 0, 0, 1, 0, 0] bodyR1Split)
noncomputable def cR1Split_35 := comp pc0 fiR1Split (subC [1, 1, 1, 1, 0, 1, 0, 0, 1, 0, 0, 1] bodyR1Split)
noncomputable def cR1Split_36 := comp pc0 fiR1Split (subC [1, 1, 1, 1, 0, 1, 0, 0, 1, 1] bodyR1Split)
noncomputable def uR1Split_18 := subC [1, 1, 1, 1, 0, 1, 0] bodyR1Split
noncomputable def cR1Split_18 := comp pc0 fiR1Split uR1Split_18
noncomputable def cR1Split_38 := comp pc0 fiR1Split (subC [1, 1, 1, 1, 1, 0] bodyR1Split)
noncomputable def cR1Split_0 := comp pc0 fiR1Split bodyR1Split
noncomputable def finR1Split := finN (resC pc0 fiR1Split (resOf Tryz.prog 65)).run
theorem eR1Splitx :
 ((∀ r s x0, (fnC pc0 65).run r [x0] s = outF (bindR (fun tm s => finR1Split tm s) (cR1Split_0.run r (sp 0 x0 T.new) s))) ∧
 ((∀ s tm, finR1Split tm s = finV (gp 240 tm) (resV [(gp 2 tm), (gp 3 tm), (gp 4 tm)] s)) ∧
 (∀ r s tm, cR1Split_0.run r tm s = seqA (fun tm s => seqA (fun tm s => seqA (fun tm s => seqA (fun tm s => seqA (fun tm s => seqA (fun tm s => .ret tm s) (cR1Split_38.run r tm s)) (seqA (fun tm s => blockA 0 (cR1Split_18.run r tm s)) (cR1Split_16.run r tm s))) (cR1Split_13.run r tm s)) (cR1Split_11.run r tm s)) (seqA (fun tm s => condV (gp 8 tm) (seqA (fun tm s => .ret tm s) (cR1Split_7.run r tm s)) (.nrm tm s)) (cR1Split_4.run r tm s))) (cR1Split_1.run r tm s)))) := by
 and_intros <;> (intros; kernel_rfl)
theorem rgR1Split_1 : ∀ r s tm, cR1Split_1.run r tm s = .nrm (sp 4 (V.nat .i64 0) (sp 3 (V.nat .i64 0) (sp 2 (V.nil 1) tm))) s := reg1 3
theorem rgR1Split_4 : ∀ r s tm, cR1Split_4.run r tm s = xLenT (gp 0 tm) fun v1 => xBin ⟨9, []⟩ false .gtr v1 (V.nat .i64 16384) fun v2 => .nrm (sp 8 v2 tm) s := reg1 3
theorem rgR1Split_7 : ∀ r s tm, cR1Split_7.run r tm s = .nrm (sp 4 (V.nat .i64 2) (sp 3 (V.nat .i64 0) (sp 2 (V.nil 1) tm))) s := reg1 3
theorem rgR1Split_11 : ∀ r s tm, cR1Split_11.run r tm s = foldF (r.call 87 [(gp 0 tm)] s) fun v1 s => .nrm (sp 5 v1 tm) s := reg1 3
theorem rgR1Split_13 : ∀ r s tm, cR1Split_13.run r tm s = .nrm (sp 6 (V.nat .i64 0) tm) s := reg1 1
theorem rgR1Split_16 : ∀ r s tm, cR1Split_16.run r tm s = .nrm (sp 7 (V.nat .i64 0) tm) s := reg1 1
theorem rgR1Split_21 : ∀ r s tm, cR1Split_21.run r tm s = xLenS (gp 5 tm) fun v2 => xBin ⟨9, []⟩ false .lss (gp 7 tm) v2 fun v3 => .nrm (sp 9 v3 tm) s := reg1 4
theorem rgR1Split_29 : ∀ r s tm, cR1Split_29.run r tm s = xIdxAddrS 1 (gp 5 tm) (gp 7 tm) fun v2 => xLoad false 1 v2 s fun v3 s => foldF (r.call 88 [v3] s) fun v4 s => xUn .not v4 fun v5 => .nrm (sp 10 v5 tm) s := reg1 6
theorem rgR1Split_32 : ∀ r s tm, cR1Split_32.run r tm s = .nrm (sp 4 (V.nat .i64 3) (sp 3 (gp 6 tm) (sp 2 (V.nil 1) tm))) s := reg1 4
theorem rgR1Split_35 : ∀ r s tm, cR1Split_35.run r tm s = xIdxAddrS 1 (gp 5 tm) (gp 7 tm) fun v3 => xLoad false 1 v3 s fun v4 s => xLenT v4 fun v5 => xBin ⟨9, []⟩ false .add (gp 6 tm) v5 fun v6 => .nrm (sp 6 v6 tm) s := reg1 8
theorem rgR1Split_36 : ∀ r s tm, cR1Split_36.run r tm s = xBin ⟨9, []⟩ false .add (gp 7 tm) (V.nat .i64 1) fun v1 => .nrm (sp 7 v1 tm) s := reg1 3
theorem rgR1Split_38 : ∀ r s tm, cR1Split_38.run r tm s = .nrm (sp 4 (V.nat .i64 0) (sp 3 (V.nat .i64 0) (sp 2 (gp 5 tm) tm))) s := reg1 4
theorem szR1Split_18 : sizeC uR1Split_18 = 44 := by kernel_rfl
theorem lpR1Split_18 : ∀ r s tm, cR1Split_18.run r tm s = seqA (fun tm s => r.code fiR1Split uR1Split_18 tm s) (seqA (fun tm s => seqA (fun tm s => cR1Split_36.run r tm s) (blockA 1 (seqA (fun tm s => cR1Split_35.run r tm s) (seqA (fun tm s => condV (gp 10 tm) (seqA (fun tm s => .ret tm s) (cR1Split_32.run r tm s)) (.nrm tm s)) (cR1Split_29.run r tm s))))) (seqA (fun tm s => condV (gp 9 tm) (.nrm tm s) (.ext 0 tm s)) (cR1Split_21.run r tm s))) := by intros; kernel_rfl
theorem allR1Split : type_of% (And.intro rgR1Split_1 <| And.intro rgR1Split_4 <| And.intro rgR1Split_7 <| And.intro rgR1Split_11 <| And.intro rgR1Split_13 <| And.intro rgR1Split_16 <| And.intro rgR1Split_21 <| And.intro rgR1Split_29 <| And.intro rgR1Split_32 <| And.intro rgR1Split_35 <| And.intro rgR1Split_36 <| And.intro rgR1Split_38 <| eR1Splitx) := And.intro rgR1Split_1 <| And.intro rgR1Split_4 <| And.intro rgR1Split_7 <| And.intro rgR1Split_11 <| And.intro rgR1Split_13 <| And.intro rgR1Split_16 <| And.intro rgR1Split_21 <| And.intro rgR1Split_29 <| And.intro rgR1Split_32 <| And.intro rgR1Split_35 <| And.intro rgR1Split_36 <| And.intro rgR1Split_38 <| eR1Splitx
/- abugida/abugidaref01.Pieces: parameters 1, slots in the frame: [(0, 0), (1, 1), (2, 2), (3, 3), (4, 4), (5, 6), (6, 10)] -/
def fiR1Pieces : FI := ⟨4294966176, 32, 6⟩
noncomputable def bodyR1Pieces := bodyOf Tryz.prog 87
noncomputable def cR1Pieces_1 := comp pc0 fiR1Pieces (subC [0] bodyR1Pieces)
noncomputable def cR1Pieces_3 := comp pc0 fiR1Pieces (subC [1, 0] bodyR1Pieces)
noncomputable def cR1Pieces_6 := comp pc0 fiR1Pieces (subC [1, 1, 0, 0] bodyR1Pieces)
noncomputable def cR1Pieces_11 := comp pc0 fiR1Pieces (subC [1, 1, 0, 1, 0, 0, 0, 0] bodyR1Pieces)
noncomputable def cR1Pieces_17 := comp pc0 fiR1Pieces (subC [1, 1, 0, 1, 0, 0, 1, 0, 0] bodyR1Pieces)
noncomputable def cR1Pieces_19 := comp pc0 fiR1Pieces (subC [1, 1, 0, 1, 0, 0, 1, 0, 1, 0] bodyR1Pieces)
noncomputable def cR1Pieces_21 := comp pc0 fiR1Pieces (subC [1, 1, 0, 1, 0, 0, 1, 0, 1, 1, 0] bodyR1Pieces)
noncomputable def cR1Pieces_22 := comp pc0 fiR1Pieces (subC [1, 1, 0, 1, 0, 0, 1, 0, 1, 1, 1] bodyR1Pieces)
noncomputable def uR1Pieces_8 := subC [1, 1, 0, 1, 0] bodyR1Pieces
noncomputable def cR1Pieces_8 := comp pc0 fiR1Pieces uR1Pieces_8
noncomputable def cR1Pieces_24 := comp pc0 fiR1Pieces (subC [1, 1, 1, 0] bodyR1Pieces)
noncomputable def cR1Pieces_0 := comp pc0 fiR1Pieces bodyR1Pieces
noncomputable def finR1Pieces := finN (resC pc0 fiR1Pieces (resOf Tryz.prog 87)).run
theorem eR1Piecesx :
 ((∀ r s x0, (fnC pc0 87).run r [x0] s = outF (bindR (fun tm s => finR1Pieces tm s) (cR1Pieces_0.run r (sp 0 x0 T.new) s))) ∧
 ((∀ s tm, finR1Pieces tm s = finV (gp 240 tm) (resV [(gp 2 tm)] s)) ∧
 (∀ r s tm, cR1Pieces_0.run r tm s = seqA (fun tm s => seqA (fun tm s => seqA (fun tm s => seqA (fun tm s => .ret tm s) (cR1Pieces_24.run r tm s)) (seqA (fun tm s => blockA 0 (cR1Pieces_8.run r tm s)) (cR1Pieces_6.run r tm s))) (cR1Pieces_3.run r tm s)) (cR1Pieces_1.run r tm s)))) := by
 and_intros <;> (intros; kernel_rfl)
theorem rgR1Pieces_1 : ∀ r s tm, cR1Pieces_1.run r tm s = .nrm (sp 2 (V.nil 1) tm) s := reg1 1
theorem rgR1Pieces_3 : ∀ r s tm, cR1Pieces_3.run r tm s = .nrm (sp 3 (V.nil 1) tm) s := reg1 1
theorem rgR1Pieces_6 : ∀ r s tm, cR1Pieces_6.run r tm s = .nrm (sp 4 (V.nat .i64 0) tm) s := reg1 1
theorem rgR1Pieces_11 : ∀ r s tm, cR1Pieces_11.run r tm s = xLenT (gp 0 tm) fun v2 => xBin ⟨9, []⟩ false .lss (gp 4 tm) v2 fun v3 => .nrm (sp 6 v3 tm) s := reg1 4
theorem rgR1Pieces_17 : ∀ r s tm, cR1Pieces_17.run r tm s = foldF (r.call 125 [(gp 0 tm), (gp 4 tm)] s) fun v2 s => xExtract 0 v2 fun _ => xExtract 1 v2 fun v5 => .nrm (sp 5 v5 tm) s := reg1 8
theorem rgR1Pieces_19 : ∀ r s tm, cR1Pieces_19.run r tm s = foldMin false [(V.nat .i64 1)] (gp 5 tm) fun v1 => .nrm (sp 5 v1 tm) s := reg1 3
theorem rgR1Pieces_21 : ∀ r s tm, cR1Pieces_21.run r tm s = xBin ⟨9, []⟩ false .add (gp 4 tm) (gp 5 tm) fun v5 => xSliceT (gp 0 tm) (some (gp 4 tm)) (some v5) fun v6 => repL [(V.str [])] 1 fun l7z => cellsC 1 v6 fun x7_0 => updL x7_0 0 l7z fun l7_0 => Go.Ev.newRow s 9 l7_0 false fun a7k _ s => xAppend 9 1 (gp 3 tm) (V.sl a7k 0 0 1 1) s fun v8 s => .nrm (sp 3 v8 tm) s := reg1 10
theorem rgR1Pieces_22 : ∀ r s tm, cR1Pieces_22.run r tm s = xBin ⟨9, []⟩ false .add (gp 4 tm) (gp 5 tm) fun v2 => .nrm (sp 4 v2 tm) s := reg1 4
theorem rgR1Pieces_24 : ∀ r s tm, cR1Pieces_24.run r tm s = .nrm (sp 2 (gp 3 tm) tm) s := reg1 2
theorem szR1Pieces_8 : sizeC uR1Pieces_8 = 44 := by kernel_rfl
theorem lpR1Pieces_8 : ∀ r s tm, cR1Pieces_8.run r tm s = seqA (fun tm s => r.code fiR1Pieces uR1Pieces_8 tm s) (seqA (fun tm s => blockA 1 (seqA (fun tm s => seqA (fun tm s => seqA (fun tm s => cR1Pieces_22.run r tm s) (cR1Pieces_21.run r tm s)) (cR1Pieces_19.run r tm s)) (cR1Pieces_17.run r tm s))) (seqA (fun tm s => condV (gp 6 tm) (.nrm tm s) (.ext 0 tm s)) (cR1Pieces_11.run r tm s))) := by intros; kernel_rfl
theorem allR1Pieces : type_of% (And.intro rgR1Pieces_1 <| And.intro rgR1Pieces_3 <| And.intro rgR1Pieces_6 <| And.intro rgR1Pieces_11 <| And.intro rgR1Pieces_17 <| And.intro rgR1Pieces_19 <| And.intro rgR1Pieces_21 <| And.intro rgR1Pieces_22 <| And.intro rgR1Pieces_24 <| eR1Piecesx) := And.intro rgR1Pieces_1 <| And.intro rgR1Pieces_3 <| And.intro rgR1Pieces_6 <| And.intro rgR1Pieces_11 <| And.intro rgR1Pieces_17 <| And.intro rgR1Pieces_19 <| And.intro rgR1Pieces_21 <| And.intro rgR1Pieces_22 <| And.intro rgR1Pieces_24 <| eR1Piecesx
/- abugida/abugidaref01.Valid: parameters 1, slots in the frame: [(0, 0), (1, 1), (2, 2), (3, 4)] -/
def fiR1Valid : FI := ⟨262120, 18, 6⟩
noncomputable def bodyR1Valid := bodyOf Tryz.prog 88
noncomputable def cR1Valid_1 := comp pc0 fiR1Valid (subC [0] bodyR1Valid)
noncomputable def cR1Valid_3 := comp pc0 fiR1Valid (subC [1, 0] bodyR1Valid)
noncomputable def uR1Valid_5 := subC [1, 1, 0] bodyR1Valid
noncomputable def cR1Valid_5 := comp pc0 fiR1Valid uR1Valid_5
noncomputable def qR1Valid_5_7 := qOf pc0 fiR1Valid uR1Valid_5 7 2 [17, 16, 15, 14, 13, 12, 11]
noncomputable def qR1Valid_5_3 := qOf pc0 fiR1Valid uR1Valid_5 3 4 [13, 12, 11]
noncomputable def qR1Valid_5_0 := qOf pc0 fiR1Valid uR1Valid_5 0 3 []
noncomputable def cR1Valid_0 := comp pc0 fiR1Valid bodyR1Valid
noncomputable def finR1Valid := finN (resC pc0 fiR1Valid (resOf Tryz.prog 88)).run
theorem eR1Validx :
 (((∀ r s x0, (fnC pc0 88).run r [x0] s = outF (bindR (fun tm s => finR1Valid tm s) (cR1Valid_0.run r (sp 0 x0 T.new) s))) ∧
 ((∀ s tm, finR1Valid tm s = finV (gp 240 tm) (resV [(gp 2 tm)] s)) ∧
 (∀ r s tm, cR1Valid_0.run r tm s = seqA (fun tm s => seqA (fun tm s => seqA (fun tm s => .ret tm s) (cR1Valid_5.run r tm s)) (cR1Valid_3.run r tm s)) (cR1Valid_1.run r tm s)))) ∧
 (((∀ g r s tm le, (qR1Valid_5_0 g).run r tm (le) s = xBin ⟨9, []⟩ false .gtr (gp 3 tm) (V.nat .i64 0) fun v1 => g.run r tm (v1 :: v1 :: (gp 3 tm) :: le) s) ∧
 (∀ g r s tm le, (qR1Valid_5_3 g).run r tm ((.bool true) :: le) s = xLenT (gp 0 tm) fun v5 => xBin ⟨7, []⟩ false .eql (gp 3 tm) v5 fun v6 => g.run r tm (v6 :: v5 :: (gp 0 tm) :: (gp 3 tm) :: (.bool true) :: le) s)) ∧
 ((∀ g r s tm le, (qR1Valid_5_3 g).run r tm ((.bool false) :: le) s = g.run r tm (Go.Ev.undef :: Go.Ev.undef :: Go.Ev.undef :: Go.Ev.undef :: (.bool false) :: le) s) ∧
 (∀ g r s tm le x0_ x1_ x2_ x3_ x4_, (qR1Valid_5_7 g).run r tm (x0_ :: x1_ :: x2_ :: x3_ :: x4_ :: le) s = xPick x4_ (fun _ => g.run r (sp 2 x0_ tm) (x0_ :: x0_ :: x0_ :: x1_ :: x2_ :: x3_ :: x4_ :: le) s) (fun _ => g.run r (sp 2 (V.bool false) tm) ((V.bool false) :: (V.bool false) :: x0_ :: x1_ :: x2_ :: x3_ :: x4_ :: le) s))))) := by
 and_intros <;> (intros; kernel_rfl)
theorem rgR1Valid_1 : ∀ r s tm, cR1Valid_1.run r tm s = .nrm (sp 2 (V.bool false) tm) s := reg1 1
theorem rgR1Valid_3 : ∀ r s tm, cR1Valid_3.run r tm s = foldF (r.call 125 [(gp 0 tm), (V.nat .i64 0)] s) fun v1 s => xExtract 0 v1 fun _ => xExtract 1 v1 fun v4 => .nrm (sp 3 v4 tm) s := reg1 7
theorem rgR1Valid_5 : ∀ r s tm, cR1Valid_5.run r tm s = (qR1Valid_5_0 (qR1Valid_5_3 (qR1Valid_5_7 nilL))).run r tm [] s := reg_run (by kernel_rfl) (chS rfl (by kernel_rfl) (chS rfl (by kernel_rfl) chL))
theorem allR1Valid : type_of% (And.intro rgR1Valid_1 <| And.intro rgR1Valid_3 <| And.intro rgR1Valid_5 <| eR1Validx) := And.intro rgR1Valid_1 <| And.intro rgR1Valid_3 <| And.intro rgR1Valid_5 <| eR1Validx
/- abugida/abugidaref01.Point: parameters 2, slots in the frame: [(0, 0), (1, 1), (2, 2), (3, 3), (4, 4), (5, 5), (6, 6), (7, 7), (8, 8), (9, 9), (10, 16), (11, 18), (12, 31), (13, 42), (14, 61), (15, 87), (16, 112), (17, 141)] -/
def fiR1Point : FI := ⟨8362779444256686664798559507192695465114624, 143, 6⟩
noncomputable def bodyR1Point := bodyOf Tryz.prog 125
noncomputable def cR1Point_1 := comp pc0 fiR1Point (subC [0] bodyR1Point)
noncomputable def cR1Point_3 := comp pc0 fiR1Point (subC [1, 0] bodyR1Point)
noncomputable def cR1Point_6 := comp pc0 fiR1Point (subC [1, 1, 0, 0] bodyR1Point)
noncomputable def cR1Point_9 := comp pc0 fiR1Point (subC [1, 1, 0, 1, 0, 0] bodyR1Point)
noncomputable def cR1Point_14 := comp pc0 fiR1Point (subC [1, 1, 1, 0, 0] bodyR1Point)
noncomputable def cR1Point_17 := comp pc0 fiR1Point (subC [1, 1, 1, 0, 1, 0, 0] bodyR1Point)
noncomputable def uR1Point_22 := subC [1, 1, 1, 1, 0, 0] bodyR1Point
noncomputable def cR1Point_22 := comp pc0 fiR1Point uR1Point_22
noncomputable def qR1Point_22_11 := qOf pc0 fiR1Point uR1Point_22 11 1 [31, 30, 29, 28, 27, 26, 25, 24, 23, 22, 21]
noncomputable def qR1Point_22_7 := qOf pc0 fiR1Point uR1Point_22 7 4 [27, 26, 25, 24, 23, 22, 21]
noncomputable def qR1Point_22_5 := qOf pc0 fiR1Point uR1Point_22 5 2 [25, 24, 23, 22, 21]
noncomputable def qR1Point_22_3 := qOf pc0 fiR1Point uR1Point_22 3 2 [23, 22, 21]
noncomputable def qR1Point_22_0 := qOf pc0 fiR1Point uR1Point_22 0 3 []
noncomputable def cR1Point_25 := comp pc0 fiR1Point (subC [1, 1, 1, 1, 0, 1, 0, 0] bodyR1Point)
noncomputable def cR1Point_27 := comp pc0 fiR1Point (subC [1, 1, 1, 1, 0, 1, 0, 1, 0] bodyR1Point)
noncomputable def cR1Point_30 := comp pc0 fiR1Point (subC [1, 1, 1, 1, 0, 1, 0, 1, 1, 0, 0] bodyR1Point)
noncomputable def uR1Point_36 := subC [1, 1, 1, 1, 1, 0, 0] bodyR1Point
noncomputable def cR1Point_36 := comp pc0 fiR1Point uR1Point_36
noncomputable def qR1Point_36_17 := qOf pc0 fiR1Point uR1Point_36 17 1 [61, 60, 59, 58, 57, 56, 55, 54, 53, 52, 51, 50, 49, 48, 47, 46, 45]
noncomputable def qR1Point_36_13 := qOf pc0 fiR1Point uR1Point_36 13 4 [57, 56, 55, 54, 53, 52, 51, 50, 49, 48, 47, 46, 45]
noncomputable def qR1Point_36_11 := qOf pc0 fiR1Point uR1Point_36 11 2 [55, 54, 53, 52, 51, 50, 49, 48, 47, 46, 45]
noncomputable def qR1Point_36_7 := qOf pc0 fiR1Point uR1Point_36 7 4 [51, 50, 49, 48, 47, 46, 45]
noncomputable def qR1Point_36_5 := qOf pc0 fiR1Point uR1Point_36 5 2 [49, 48, 47, 46, 45]
noncomputable def qR1Point_36_3 := qOf pc0 fiR1Point uR1Point_36 3 2 [47, 46, 45]
noncomputable def qR1Point_36_0 := qOf pc0 fiR1Point uR1Point_36 0 3 []
noncomputable def cR1Point_39 := comp pc0 fiR1Point (subC [1, 1, 1, 1, 1, 0, 1, 0, 0] bodyR1Point)
noncomputable def uR1Point_41 := subC [1, 1, 1, 1, 1, 0, 1, 0, 1, 0] bodyR1Point
noncomputable def cR1Point_41 := comp pc0 fiR1Point uR1Point_41
noncomputable def qR1Point_41_9 := qOf pc0 fiR1Point uR1Point_41 9 1 [87, 86, 85, 84, 83, 82, 81, 80, 79]
noncomputable def qR1Point_41_8 := qOf pc0 fiR1Point uR1Point_41 8 1 [86, 85, 84, 83, 82, 81, 80, 79]
noncomputable def qR1Point_41_6 := qOf pc0 fiR1Point uR1Point_41 6 2 [84, 83, 82, 81, 80, 79]
noncomputable def qR1Point_41_3 := qOf pc0 fiR1Point uR1Point_41 3 3 [81, 80, 79]
noncomputable def qR1Point_41_0 := qOf pc0 fiR1Point uR1Point_41 0 3 []
noncomputable def cR1Point_44 := comp pc0 fiR1Point (subC [1, 1, 1, 1, 1, 0, 1, 0, 1, 1, 0, 0] bodyR1Point)
noncomputable def uR1Point_50 := subC [1, 1, 1, 1, 1, 1, 0, 0] bodyR1Point
noncomputable def cR1Point_50 := comp pc0 fiR1Point uR1Point_50
noncomputable def qR1Point_50_23 := qOf pc0 fiR1Point uR1Point_50 23 1 [112, 111, 110, 109, 108, 107, 106, 105, 104, 103, 102, 101, 100, 99, 98, 97, 96, 95, 94, 93, 92, 91, 90]
noncomputable def qR1Point_50_19 := qOf pc0 fiR1Point uR1Point_50 19 4 [108, 107, 106, 105, 104, 103, 102, 101, 100, 99, 98, 97, 96, 95, 94, 93, 92, 91, 90]
noncomputable def qR1Point_50_17 := qOf pc0 fiR1Point uR1Point_50 17 2 [106, 105, 104, 103, 102, 101, 100, 99, 98, 97, 96, 95, 94, 93, 92, 91, 90]
noncomputable def qR1Point_50_13 := qOf pc0 fiR1Point uR1Point_50 13 4 [102, 101, 100, 99, 98, 97, 96, 95, 94, 93, 92, 91, 90]
noncomputable def qR1Point_50_11 := qOf pc0 fiR1Point uR1Point_50 11 2 [100, 99, 98, 97, 96, 95, 94, 93, 92, 91, 90]
noncomputable def qR1Point_50_7 := qOf pc0 fiR1Point uR1Point_50 7 4 [96, 95, 94, 93, 92, 91, 90]
noncomputable def qR1Point_50_5 := qOf pc0 fiR1Point uR1Point_50 5 2 [94, 93, 92, 91, 90]
noncomputable def qR1Point_50_3 := qOf pc0 fiR1Point uR1Point_50 3 2 [92, 91, 90]
noncomputable def qR1Point_50_0 := qOf pc0 fiR1Point uR1Point_50 0 3 []
noncomputable def cR1Point_53 := comp pc0 fiR1Point (subC [1, 1, 1, 1, 1, 1, 0, 1, 0, 0] bodyR1Point)
noncomputable def uR1Point_55 := subC [1, 1, 1, 1, 1, 1, 0, 1, 0, 1, 0] bodyR1Point
noncomputable def cR1Point_55 := comp pc0 fiR1Point uR1Point_55
noncomputable def qR1Point_55_5 := qOf pc0 fiR1Point uR1Point_55 5 1 [141, 140, 139, 138, 137]
noncomputable def qR1Point_55_3 := qOf pc0 fiR1Point uR1Point_55 3 2 [139, 138, 137]
noncomputable def qR1Point_55_0 := qOf pc0 fiR1Point uR1Point_55 0 3 []
noncomputable def cR1Point_58 := comp pc0 fiR1Point (subC [1, 1, 1, 1, 1, 1, 0, 1, 0, 1, 1, 0, 0] bodyR1Point)
noncomputable def cR1Point_63 := comp pc0 fiR1Point (subC [1, 1, 1, 1, 1, 1, 1, 0] bodyR1Point)
noncomputable def cR1Point_0 := comp pc0 fiR1Point bodyR1Point
noncomputable def finR1Point := finN (resC pc0 fiR1Point (resOf Tryz.prog 125)).run
theorem eR1Pointx :
 ((((((∀ r s x0 x1, (fnC pc0 125).run r [x0, x1] s = outF (bindR (fun tm s => finR1Point tm s) (cR1Point_0.run r (sp 1 x1 (sp 0 x0 T.new)) s))) ∧
 (∀ s tm, finR1Point tm s = finV (gp 240 tm) (resV [(gp 4 tm), (gp 5 tm)] s))) ∧
 ((∀ r s tm, cR1Point_0.run r tm s = seqA (fun tm s => seqA (fun tm s => seqA (fun tm s => seqA (fun tm s => seqA (fun tm s => seqA (fun tm s => seqA (fun tm s => seqA (fun tm s => .ret tm s) (cR1Point_63.run r tm s)) (seqA (fun tm s => condV (gp 16 tm) (seqA (fun tm s => seqA (fun tm s => condV (gp 17 tm) (seqA (fun tm s => .ret tm s) (cR1Point_58.run r tm s)) (.nrm tm s)) (cR1Point_55.run r tm s)) (cR1Point_53.run r tm s)) (.nrm tm s)) (cR1Point_50.run r tm s))) (seqA (fun tm s => condV (gp 14 tm) (seqA (fun tm s => seqA (fun tm s => condV (gp 15 tm) (seqA (fun tm s => .ret tm s) (cR1Point_44.run r tm s)) (.nrm tm s)) (cR1Point_41.run r tm s)) (cR1Point_39.run r tm s)) (.nrm tm s)) (cR1Point_36.run r tm s))) (seqA (fun tm s => condV (gp 12 tm) (seqA (fun tm s => seqA (fun tm s => condV (gp 13 tm) (seqA (fun tm s => .ret tm s) (cR1Point_30.run r tm s)) (.nrm tm s)) (cR1Point_27.run r tm s)) (cR1Point_25.run r tm s)) (.nrm tm s)) (cR1Point_22.run r tm s))) (seqA (fun tm s => condV (gp 11 tm) (seqA (fun tm s => .ret tm s) (cR1Point_17.run r tm s)) (.nrm tm s)) (cR1Point_14.run r tm s))) (seqA (fun tm s => condV (gp 10 tm) (seqA (fun tm s => .ret tm s) (cR1Point_9.run r tm s)) (.nrm tm s)) (cR1Point_6.run r tm s))) (cR1Point_3.run r tm s)) (cR1Point_1.run r tm s)) ∧
 ((∀ g r s tm le, (qR1Point_22_0 g).run r tm (le) s = xBin ⟨9, []⟩ false .geq (gp 6 tm) (V.nat .i64 192) fun v1 => g.run r tm (v1 :: v1 :: (gp 6 tm) :: le) s) ∧
 (∀ g r s tm le, (qR1Point_22_3 g).run r tm ((.bool true) :: le) s = xBin ⟨9, []⟩ false .lss (gp 6 tm) (V.nat .i64 224) fun v4 => g.run r tm (v4 :: (gp 6 tm) :: (.bool true) :: le) s)))) ∧
 (((∀ g r s tm le, (qR1Point_22_3 g).run r tm ((.bool false) :: le) s = g.run r tm (Go.Ev.undef :: Go.Ev.undef :: (.bool false) :: le) s) ∧
 ((∀ g r s tm le x0_ x1_ x2_, (qR1Point_22_5 g).run r tm (x0_ :: x1_ :: x2_ :: le) s = xPick x2_ (fun _ => g.run r tm (x0_ :: x0_ :: x0_ :: x1_ :: x2_ :: le) s) (fun _ => g.run r tm ((V.bool false) :: (V.bool false) :: x0_ :: x1_ :: x2_ :: le) s)) ∧
 (∀ g r s tm le, (qR1Point_22_7 g).run r tm ((.bool true) :: le) s = xBin ⟨9, []⟩ false .add (gp 1 tm) (V.nat .i64 1) fun v9 => foldF (r.call 148 [(gp 0 tm), v9] s) fun v10 s => g.run r tm (v10 :: v9 :: (gp 1 tm) :: (gp 0 tm) :: (.bool true) :: le) s))) ∧
 ((∀ g r s tm le, (qR1Point_22_7 g).run r tm ((.bool false) :: le) s = g.run r tm (Go.Ev.undef :: Go.Ev.undef :: Go.Ev.undef :: Go.Ev.undef :: (.bool false) :: le) s) ∧
 ((∀ g r s tm le x0_ x1_ x2_ x3_ x4_, (qR1Point_22_11 g).run r tm (x0_ :: x1_ :: x2_ :: x3_ :: x4_ :: le) s = xPick x4_ (fun _ => g.run r (sp 12 x0_ tm) (x0_ :: x0_ :: x1_ :: x2_ :: x3_ :: x4_ :: le) s) (fun _ => g.run r (sp 12 (V.bool false) tm) ((V.bool false) :: x0_ :: x1_ :: x2_ :: x3_ :: x4_ :: le) s)) ∧
 (∀ g r s tm le, (qR1Point_36_0 g).run r tm (le) s = xBin ⟨9, []⟩ false .geq (gp 6 tm) (V.nat .i64 224) fun v1 => g.run r tm (v1 :: v1 :: (gp 6 tm) :: le) s))))) ∧
 ((((∀ g r s tm le, (qR1Point_36_3 g).run r tm ((.bool true) :: le) s = xBin ⟨9, []⟩ false .lss (gp 6 tm) (V.nat .i64 240) fun v4 => g.run r tm (v4 :: (gp 6 tm) :: (.bool true) :: le) s) ∧
 ((∀ g r s tm le, (qR1Point_36_3 g).run r tm ((.bool false) :: le) s = g.run r tm (Go.Ev.undef :: Go.Ev.undef :: (.bool false) :: le) s) ∧
 (∀ g r s tm le x0_ x1_ x2_, (qR1Point_36_5 g).run r tm (x0_ :: x1_ :: x2_ :: le) s = xPick x2_ (fun _ => g.run r tm (x0_ :: x0_ :: x0_ :: x1_ :: x2_ :: le) s) (fun _ => g.run r tm ((V.bool false) :: (V.bool false) :: x0_ :: x1_ :: x2_ :: le) s)))) ∧
 ((∀ g r s tm le, (qR1Point_36_7 g).run r tm ((.bool true) :: le) s = xBin ⟨9, []⟩ false .add (gp 1 tm) (V.nat .i64 1) fun v9 => foldF (r.call 148 [(gp 0 tm), v9] s) fun v10 s => g.run r tm (v10 :: v9 :: (gp 1 tm) :: (gp 0 tm) :: (.bool true) :: le) s) ∧
 ((∀ g r s tm le, (qR1Point_36_7 g).run r tm ((.bool false) :: le) s = g.run r tm (Go.Ev.undef :: Go.Ev.undef :: Go.Ev.undef :: Go.Ev.undef :: (.bool false) :: le) s) ∧
 (∀ g r s tm le x0_ x1_ x2_ x3_ x4_, (qR1Point_36_11 g).run r tm (x0_ :: x1_ :: x2_ :: x3_ :: x4_ :: le) s = xPick x4_ (fun _ => g.run r tm (x0_ :: x0_ :: x0_ :: x1_ :: x2_ :: x3_ :: x4_ :: le) s) (fun _ => g.run r tm ((V.bool false) :: (V.bool false) :: x0_ :: x1_ :: x2_ :: x3_ :: x4_ :: le) s))))) ∧
 (((∀ g r s tm le, (qR1Point_36_13 g).run r tm ((.bool true) :: le) s = xBin ⟨9, []⟩ false .add (gp 1 tm) (V.nat .i64 2) fun v15 => foldF (r.call 148 [(gp 0 tm), v15] s) fun v16 s => g.run r tm (v16 :: v15 :: (gp 1 tm) :: (gp 0 tm) :: (.bool true) :: le) s) ∧
 ((∀ g r s tm le, (qR1Point_36_13 g).run r tm ((.bool false) :: le) s = g.run r tm (Go.Ev.undef :: Go.Ev.undef :: Go.Ev.undef :: Go.Ev.undef :: (.bool false) :: le) s) ∧
 (∀ g r s tm le x0_ x1_ x2_ x3_ x4_, (qR1Point_36_17 g).run r tm (x0_ :: x1_ :: x2_ :: x3_ :: x4_ :: le) s = xPick x4_ (fun _ => g.run r (sp 14 x0_ tm) (x0_ :: x0_ :: x1_ :: x2_ :: x3_ :: x4_ :: le) s) (fun _ => g.run r (sp 14 (V.bool false) tm) ((V.bool false) :: x0_ :: x1_ :: x2_ :: x3_ :: x4_ :: le) s)))) ∧
 ((∀ g r s tm le, (qR1Point_41_0 g).run r tm (le) s = xBin ⟨9, []⟩ false .geq (gp 8 tm) (V.nat .i64 2048) fun v1 => g.run r tm (v1 :: v1 :: (gp 8 tm) :: le) s) ∧
 ((∀ g r s tm le, (qR1Point_41_3 g).run r tm ((.bool true) :: le) s = xBin ⟨9, []⟩ false .lss (gp 8 tm) (V.nat .i64 55296) fun v4 => g.run r tm (v4 :: v4 :: (gp 8 tm) :: (.bool true) :: le) s) ∧
 (∀ g r s tm le, (qR1Point_41_3 g).run r tm ((.bool false) :: le) s = g.run r tm (Go.Ev.undef :: Go.Ev.undef :: Go.Ev.undef :: (.bool false) :: le) s)))))) ∧
 (((((∀ g r s tm le, (qR1Point_41_6 g).run r tm ((.bool true) :: le) s = g.run r tm (Go.Ev.undef :: Go.Ev.undef :: (.bool true) :: le) s) ∧
 (∀ g r s tm le, (qR1Point_41_6 g).run r tm ((.bool false) :: le) s = xBin ⟨9, []⟩ false .gtr (gp 8 tm) (V.nat .i64 57343) fun v7 => g.run r tm (v7 :: (gp 8 tm) :: (.bool false) :: le) s)) ∧
 ((∀ g r s tm le, (qR1Point_41_6 g).run r tm (Go.Ev.undef :: le) s = g.run r tm (Go.Ev.undef :: Go.Ev.undef :: Go.Ev.undef :: le) s) ∧
 ((∀ g r s tm le x0_ x1_ x2_ x3_ x4_, (qR1Point_41_8 g).run r tm (x0_ :: x1_ :: x2_ :: x3_ :: x4_ :: (.bool true) :: le) s = xPick x2_ (fun _ => g.run r tm ((V.bool true) :: x0_ :: x1_ :: x2_ :: x3_ :: x4_ :: (.bool true) :: le) s) (fun _ => g.run r tm (x0_ :: x0_ :: x1_ :: x2_ :: x3_ :: x4_ :: (.bool true) :: le) s)) ∧
 (∀ g r s tm le x0_ x1_ x2_ x3_ x4_, (qR1Point_41_8 g).run r tm (x0_ :: x1_ :: x2_ :: x3_ :: x4_ :: (.bool false) :: le) s = g.run r tm (Go.Ev.undef :: x0_ :: x1_ :: x2_ :: x3_ :: x4_ :: (.bool false) :: le) s)))) ∧
 (((∀ g r s tm le x0_ x1_ x2_ x3_ x4_ x5_ x6_, (qR1Point_41_9 g).run r tm (x0_ :: x1_ :: x2_ :: x3_ :: x4_ :: x5_ :: x6_ :: le) s = xPick x6_ (fun _ => g.run r (sp 15 x0_ tm) (x0_ :: x0_ :: x1_ :: x2_ :: x3_ :: x4_ :: x5_ :: x6_ :: le) s) (fun _ => g.run r (sp 15 (V.bool false) tm) ((V.bool false) :: x0_ :: x1_ :: x2_ :: x3_ :: x4_ :: x5_ :: x6_ :: le) s)) ∧
 ((∀ g r s tm le, (qR1Point_50_0 g).run r tm (le) s = xBin ⟨9, []⟩ false .geq (gp 6 tm) (V.nat .i64 240) fun v1 => g.run r tm (v1 :: v1 :: (gp 6 tm) :: le) s) ∧
 (∀ g r s tm le, (qR1Point_50_3 g).run r tm ((.bool true) :: le) s = xBin ⟨9, []⟩ false .lss (gp 6 tm) (V.nat .i64 248) fun v4 => g.run r tm (v4 :: (gp 6 tm) :: (.bool true) :: le) s))) ∧
 ((∀ g r s tm le, (qR1Point_50_3 g).run r tm ((.bool false) :: le) s = g.run r tm (Go.Ev.undef :: Go.Ev.undef :: (.bool false) :: le) s) ∧
 ((∀ g r s tm le x0_ x1_ x2_, (qR1Point_50_5 g).run r tm (x0_ :: x1_ :: x2_ :: le) s = xPick x2_ (fun _ => g.run r tm (x0_ :: x0_ :: x0_ :: x1_ :: x2_ :: le) s) (fun _ => g.run r tm ((V.bool false) :: (V.bool false) :: x0_ :: x1_ :: x2_ :: le) s)) ∧
 (∀ g r s tm le, (qR1Point_50_7 g).run r tm ((.bool true) :: le) s = xBin ⟨9, []⟩ false .add (gp 1 tm) (V.nat .i64 1) fun v9 => foldF (r.call 148 [(gp 0 tm), v9] s) fun v10 s => g.run r tm (v10 :: v9 :: (gp 1 tm) :: (gp 0 tm) :: (.bool true) :: le) s))))) ∧
 ((((∀ g r s tm le, (qR1Point_50_7 g).run r tm ((.bool false) :: le) s = g.run r tm (Go.Ev.undef :: Go.Ev.undef :: Go.Ev.undef :: Go.Ev.undef :: (.bool false) :: le) s) ∧
 ((∀ g r s tm le x0_ x1_ x2_ x3_ x4_, (qR1Point_50_11 g).run r tm (x0_ :: x1_ :: x2_ :: x3_ :: x4_ :: le) s = xPick x4_ (fun _ => g.run r tm (x0_ :: x0_ :: x0_ :: x1_ :: x2_ :: x3_ :: x4_ :: le) s) (fun _ => g.run r tm ((V.bool false) :: (V.bool false) :: x0_ :: x1_ :: x2_ :: x3_ :: x4_ :: le) s)) ∧
 (∀ g r s tm le, (qR1Point_50_13 g).run r tm ((.bool true) :: le) s = xBin ⟨9, []⟩ false .add (gp 1 tm) (V.nat .i64 2) fun v15 => foldF (r.call 148 [(gp 0 tm), v15] s) fun v16 s => g.run r tm (v16 :: v15 :: (gp 1 tm) :: (gp 0 tm) :: (.bool true) :: le) s))) ∧
 ((∀ g r s tm le, (qR1Point_50_13 g).run r tm ((.bool false) :: le) s = g.run r tm (Go.Ev.undef :: Go.Ev.undef :: Go.Ev.undef :: Go.Ev.undef :: (.bool false) :: le) s) ∧
 ((∀ g r s tm le x0_ x1_ x2_ x3_ x4_, (qR1Point_50_17 g).run r tm (x0_ :: x1_ :: x2_ :: x3_ :: x4_ :: le) s = xPick x4_ (fun _ => g.run r tm (x0_ :: x0_ :: x0_ :: x1_ :: x2_ :: x3_ :: x4_ :: le) s) (fun _ => g.run r tm ((V.bool false) :: (V.bool false) :: x0_ :: x1_ :: x2_ :: x3_ :: x4_ :: le) s)) ∧
 (∀ g r s tm le, (qR1Point_50_19 g).run r tm ((.bool true) :: le) s = xBin ⟨9, []⟩ false .add (gp 1 tm) (V.nat .i64 3) fun v21 => foldF (r.call 148 [(gp 0 tm), v21] s) fun v22 s => g.run r tm (v22 :: v21 :: (gp 1 tm) :: (gp 0 tm) :: (.bool true) :: le) s)))) ∧
 (((∀ g r s tm le, (qR1Point_50_19 g).run r tm ((.bool false) :: le) s = g.run r tm (Go.Ev.undef :: Go.Ev.undef :: Go.Ev.undef :: Go.Ev.undef :: (.bool false) :: le) s) ∧
 ((∀ g r s tm le x0_ x1_ x2_ x3_ x4_, (qR1Point_50_23 g).run r tm (x0_ :: x1_ :: x2_ :: x3_ :: x4_ :: le) s = xPick x4_ (fun _ => g.run r (sp 16 x0_ tm) (x0_ :: x0_ :: x1_ :: x2_ :: x3_ :: x4_ :: le) s) (fun _ => g.run r (sp 16 (V.bool false) tm) ((V.bool false) :: x0_ :: x1_ :: x2_ :: x3_ :: x4_ :: le) s)) ∧
 (∀ g r s tm le, (qR1Point_55_0 g).run r tm (le) s = xBin ⟨9, []⟩ false .geq (gp 9 tm) (V.nat .i64 65536) fun v1 => g.run r tm (v1 :: v1 :: (gp 9 tm) :: le) s))) ∧
 ((∀ g r s tm le, (qR1Point_55_3 g).run r tm ((.bool true) :: le) s = xBin ⟨9, []⟩ false .leq (gp 9 tm) (V.nat .i64 1114111) fun v4 => g.run r tm (v4 :: (gp 9 tm) :: (.bool true) :: le) s) ∧
 ((∀ g r s tm le, (qR1Point_55_3 g).run r tm ((.bool false) :: le) s = g.run r tm (Go.Ev.undef :: Go.Ev.undef :: (.bool false) :: le) s) ∧
 (∀ g r s tm le x0_ x1_ x2_, (qR1Point_55_5 g).run r tm (x0_ :: x1_ :: x2_ :: le) s = xPick x2_ (fun _ => g.run r (sp 17 x0_ tm) (x0_ :: x0_ :: x1_ :: x2_ :: le) s) (fun _ => g.run r (sp 17 (V.bool false) tm) ((V.bool false) :: x0_ :: x1_ :: x2_ :: le) s)))))))) := by
 and_intros <;> (intros; kernel_rfl)
theorem rgR1Point_1 : ∀ r s tm, cR1Point_1.run r tm s = .nrm (sp 5 (V.nat .i64 0) (sp 4 (V.nat .i64 0) tm)) s := reg1 2
theorem rgR1Point_3 : ∀ r s tm, cR1Point_3.run r tm s = foldF (r.call 147 [(gp 0 tm), (gp 1 tm)] s) fun v2 s => .nrm (sp 6 v2 tm) s := reg1 4
theorem rgR1Point_6 : ∀ r s tm, cR1Point_6.run r tm s = xLenT (gp 0 tm) fun v2 => xBin ⟨9, []⟩ false .geq (gp 1 tm) v2 fun v3 => .nrm (sp 10 v3 tm) s := reg1 4
theorem rgR1Point_9 : ∀ r s tm, cR1Point_9.run r tm s = .nrm (sp 5 (V.nat .i64 0) (sp 4 (V.nat .i64 0) tm)) s := reg1 2
theorem rgR1Point_14 : ∀ r s tm, cR1Point_14.run r tm s = xBin ⟨9, []⟩ false .lss (gp 6 tm) (V.nat .i64 128) fun v1 => .nrm (sp 11 v1 tm) s := reg1 2
theorem rgR1Point_17 : ∀ r s tm, cR1Point_17.run r tm s = .nrm (sp 5 (V.nat .i64 1) (sp 4 (gp 6 tm) tm)) s := reg1 3
theorem rgR1Point_22 : ∀ r s tm, cR1Point_22.run r tm s = (qR1Point_22_0 (qR1Point_22_3 (qR1Point_22_5 (qR1Point_22_7 (qR1Point_22_11 nilL))))).run r tm [] s := reg_run (by kernel_rfl) (chS rfl (by kernel_rfl) (chS rfl (by kernel_rfl) (chS rfl (by kernel_rfl) (chS rfl (by kernel_rfl) chL))))
theorem rgR1Point_25 : ∀ r s tm, cR1Point_25.run r tm s = xBin ⟨9, []⟩ false .sub (gp 6 tm) (V.nat .i64 192) fun v1 => xBin ⟨9, []⟩ false .mul v1 (V.nat .i64 64) fun v2 => xBin ⟨9, []⟩ false .add (gp 1 tm) (V.nat .i64 1) fun v5 => foldF (r.call 147 [(gp 0 tm), v5] s) fun v6 s => xBin ⟨9, []⟩ false .add v2 v6 fun v7 => xBin ⟨9, []⟩ false .sub v7 (V.nat .i64 128) fun v8 => .nrm (sp 7 v8 tm) s := reg1 10
theorem rgR1Point_27 : ∀ r s tm, cR1Point_27.run r tm s = xBin ⟨9, []⟩ false .geq (gp 7 tm) (V.nat .i64 128) fun v1 => .nrm (sp 13 v1 tm) s := reg1 2
theorem rgR1Point_30 : ∀ r s tm, cR1Point_30.run r tm s = .nrm (sp 5 (V.nat .i64 2) (sp 4 (gp 7 tm) tm)) s := reg1 3
theorem rgR1Point_36 : ∀ r s tm, cR1Point_36.run r tm s = (qR1Point_36_0 (qR1Point_36_3 (qR1Point_36_5 (qR1Point_36_7 (qR1Point_36_11 (qR1Point_36_13 (qR1Point_36_17 nilL))))))).run r tm [] s := reg_run (by kernel_rfl) (chS rfl (by kernel_rfl) (chS rfl (by kernel_rfl) (chS rfl (by kernel_rfl) (chS rfl (by kernel_rfl) (chS rfl (by kernel_rfl) (chS rfl (by kernel_rfl) chL))))))
theorem rgR1Point_39 : ∀ r s tm, cR1Point_39.run r tm s = xBin ⟨9, []⟩ false .sub (gp 6 tm) (V.nat .i64 224) fun v1 => xBin ⟨9, []⟩ false .mul v1 (V.nat .i64 4096) fun v2 => xBin ⟨9, []⟩ false .add (gp 1 tm) (V.nat .i64 1) fun v5 => foldF (r.call 147 [(gp 0 tm), v5] s) fun v6 s => xBin ⟨9, []⟩ false .sub v6 (V.nat .i64 128) fun v7 => xBin ⟨9, []⟩ false .mul v7 (V.nat .i64 64) fun v8 => xBin ⟨9, []⟩ false .add v2 v8 fun v9 => xBin ⟨9, []⟩ false .add (gp 1 tm) (V.nat .i64 2) fun v12 => foldF (r.call 147 [(gp 0 tm), v12] s) fun v13 s => xBin ⟨9, []⟩ false .add v9 v13 fun v14 => xBin ⟨9, []⟩ false .sub v14 (V.nat .i64 128) fun v15 => .nrm (sp 8 v15 tm) s := reg1 17
theorem rgR1Point_41 : ∀ r s tm, cR1Point_41.run r tm s = (qR1Point_41_0 (qR1Point_41_3 (qR1Point_41_6 (qR1Point_41_8 (qR1Point_41_9 nilL))))).run r tm [] s := reg_run (by kernel_rfl) (chS rfl (by kernel_rfl) (chS rfl (by kernel_rfl) (chS rfl (by kernel_rfl) (chS rfl (by kernel_rfl) chL))))
theorem rgR1Point_44 : ∀ r s tm, cR1Point_44.run r tm s = .nrm (sp 5 (V.nat .i64 3) (sp 4 (gp 8 tm) tm)) s := reg1 3
theorem rgR1Point_50 : ∀ r s tm, cR1Point_50.run r tm s = (qR1Point_50_0 (qR1Point_50_3 (qR1Point_50_5 (qR1Point_50_7 (qR1Point_50_11 (qR1Point_50_13 (qR1Point_50_17 (qR1Point_50_19 (qR1Point_50_23 nilL))))))))).run r tm [] s := reg_run (by kernel_rfl) (chS rfl (by kernel_rfl) (chS rfl (by kernel_rfl) (chS rfl (by kernel_rfl) (chS rfl (by kernel_rfl) (chS rfl (by kernel_rfl) (chS rfl (by kernel_rfl) (chS rfl (by kernel_rfl) (chS rfl (by kernel_rfl) chL))))))))
theorem rgR1Point_53 : ∀ r s tm, cR1Point_53.run r tm s = xBin ⟨9, []⟩ false .sub (gp 6 tm) (V.nat .i64 240) fun v1 => xBin ⟨9, []⟩ false .mul v1 (V.nat .i64 262144) fun v2 => xBin ⟨9, []⟩ false .add (gp 1 tm) (V.nat .i64 1) fun v5 => foldF (r.call 147 [(gp 0 tm), v5] s) fun v6 s => xBin ⟨9, []⟩ false .sub v6 (V.nat .i64 128) fun v7 => xBin ⟨9, []⟩ false .mul v7 (V.nat .i64 4096) fun v8 => xBin ⟨9, []⟩ false .add v2 v8 fun v9 => xBin ⟨9, []⟩ false .add (gp 1 tm) (V.nat .i64 2) fun v12 => foldF (r.call 147 [(gp 0 tm), v12] s) fun v13 s => xBin ⟨9, []⟩ false .sub v13 (V.nat .i64 128) fun v14 => xBin ⟨9, []⟩ false .mul v14 (V.nat .i64 64) fun v15 => xBin ⟨9, []⟩ false .add v9 v15 fun v16 => xBin ⟨9, []⟩ false .add (gp 1 tm) (V.nat .i64 3) fun v19 => foldF (r.call 147 [(gp 0 tm), v19] s) fun v20 s => xBin ⟨9, []⟩ false .add v16 v20 fun v21 => xBin ⟨9, []⟩ false .sub v21 (V.nat .i64 128) fun v22 => .nrm (sp 9 v22 tm) s := reg1 24
theorem rgR1Point_55 : ∀ r s tm, cR1Point_55.run r tm s = (qR1Point_55_0 (qR1Point_55_3 (qR1Point_55_5 nilL))).run r tm [] s := reg_run (by kernel_rfl) (chS rfl (by kernel_rfl) (chS rfl (by kernel_rfl) chL))
theorem rgR1Point_58 : ∀ r s tm, cR1Point_58.run r tm s = .nrm (sp 5 (V.nat .i64 4) (sp 4 (gp 9 tm) tm)) s := reg1 3
theorem rgR1Point_63 : ∀ r s tm, cR1Point_63.run r tm s = .nrm (sp 5 (V.nat .i64 0) (sp 4 (V.nat .i64 0) tm)) s := reg1 2
theorem allR1Point : type_of% (And.intro rgR1Point_1 <| And.intro rgR1Point_3 <| And.intro rgR1Point_6 <| And.intro rgR1Point_9 <| And.intro rgR1Point_14 <| And.intro rgR1Point_17 <| And.intro rgR1Point_22 <| And.intro rgR1Point_25 <| And.intro rgR1Point_27 <| And.intro rgR1Point_30 <| And.intro rgR1Point_36 <| And.intro rgR1Point_39 <| And.intro rgR1Point_41 <| And.intro rgR1Point_44 <| And.intro rgR1Point_50 <| And.intro rgR1Point_53 <| And.intro rgR1Point_55 <| And.intro rgR1Point_58 <| And.intro rgR1Point_63 <| eR1Pointx) := And.intro rgR1Point_1 <| And.intro rgR1Point_3 <| And.intro rgR1Point_6 <| And.intro rgR1Point_9 <| And.intro rgR1Point_14 <| And.intro rgR1Point_17 <| And.intro rgR1Point_22 <| And.intro rgR1Point_25 <| And.intro rgR1Point_27 <| And.intro rgR1Point_30 <| And.intro rgR1Point_36 <| And.intro rgR1Point_39 <| And.intro rgR1Point_41 <| And.intro rgR1Point_44 <| And.intro rgR1Point_50 <| And.intro rgR1Point_53 <| And.intro rgR1Point_55 <| And.intro rgR1Point_58 <| And.intro rgR1Point_63 <| eR1Pointx
/- abugida/abugidaref01.at: parameters 2, slots in the frame: [(0, 0), (1, 1), (2, 2), (3, 3), (4, 4), (5, 8)] -/
def fiR1at : FI := ⟨7904, 13, 6⟩
noncomputable def bodyR1at := bodyOf Tryz.prog 147
noncomputable def cR1at_1 := comp pc0 fiR1at (subC [0] bodyR1at)
noncomputable def cR1at_4 := comp pc0 fiR1at (subC [1, 0, 0] bodyR1at)
noncomputable def cR1at_7 := comp pc0 fiR1at (subC [1, 0, 1, 0, 0] bodyR1at)
noncomputable def cR1at_11 := comp pc0 fiR1at (subC [1, 1, 0] bodyR1at)
noncomputable def cR1at_0 := comp pc0 fiR1at bodyR1at
noncomputable def finR1at := finN (resC pc0 fiR1at (resOf Tryz.prog 147)).run
theorem eR1atx :
 ((∀ r s x0 x1, (fnC pc0 147).run r [x0, x1] s = outF (bindR (fun tm s => finR1at tm s) (cR1at_0.run r (sp 1 x1 (sp 0 x0 T.new)) s))) ∧
 ((∀ s tm, finR1at tm s = finV (gp 240 tm) (resV [(gp 4 tm)] s)) ∧
 (∀ r s tm, cR1at_0.run r tm s = seqA (fun tm s => seqA (fun tm s => seqA (fun tm s => .ret tm s) (cR1at_11.run r tm s)) (seqA (fun tm s => condV (gp 5 tm) (seqA (fun tm s => .ret tm s) (cR1at_7.run r tm s)) (.nrm tm s)) (cR1at_4.run r tm s))) (cR1at_1.run r tm s)))) := by
 and_intros <;> (intros; kernel_rfl)
theorem rgR1at_1 : ∀ r s tm, cR1at_1.run r tm s = .nrm (sp 4 (V.nat .i64 0) tm) s := reg1 1
theorem rgR1at_4 : ∀ r s tm, cR1at_4.run r tm s = xLenT (gp 0 tm) fun v2 => xBin ⟨9, []⟩ false .lss (gp 1 tm) v2 fun v3 => .nrm (sp 5 v3 tm) s := reg1 4
theorem rgR1at_7 : ∀ r s tm, cR1at_7.run r tm s = xIndexS (gp 0 tm) (gp 1 tm) fun v2 => xIntConv .i64 v2 fun v3 => .nrm (sp 4 v3 tm) s := reg1 5
theorem rgR1at_11 : ∀ r s tm, cR1at_11.run r tm s = .nrm (sp 4 (V.nat .i64 0) tm) s := reg1 1
theorem allR1at : type_of% (And.intro rgR1at_1 <| And.intro rgR1at_4 <| And.intro rgR1at_7 <| And.intro rgR1at_11 <| eR1atx) := And.intro rgR1at_1 <| And.intro rgR1at_4 <| And.intro rgR1at_7 <| And.intro rgR1at_11 <| eR1atx
/- abugida/abugidaref01.more: parameters 2, slots in the frame: [(0, 0), (1, 1), (2, 2), (3, 3), (4, 4)] -/
def fiR1more : FI := ⟨32736, 15, 6⟩
noncomputable def bodyR1more := bodyOf Tryz.prog 148
noncomputable def cR1more_1 := comp pc0 fiR1more (subC [0] bodyR1more)
noncomputable def uR1more_3 := subC [1, 0] bodyR1more
noncomputable def cR1more_3 := comp pc0 fiR1more uR1more_3
noncomputable def qR1more_3_9 := qOf pc0 fiR1more uR1more_3 9 2 [14, 13, 12, 11, 10, 9, 8, 7, 6]
noncomputable def qR1more_3_5 := qOf pc0 fiR1more uR1more_3 5 4 [10, 9, 8, 7, 6]
noncomputable def qR1more_3_0 := qOf pc0 fiR1more uR1more_3 0 5 []
noncomputable def cR1more_0 := comp pc0 fiR1more bodyR1more
noncomputable def finR1more := finN (resC pc0 fiR1more (resOf Tryz.prog 148)).run
theorem eR1morex :
 (((∀ r s x0 x1, (fnC pc0 148).run r [x0, x1] s = outF (bindR (fun tm s => finR1more tm s) (cR1more_0.run r (sp 1 x1 (sp 0 x0 T.new)) s))) ∧
 ((∀ s tm, finR1more tm s = finV (gp 240 tm) (resV [(gp 4 tm)] s)) ∧
 (∀ r s tm, cR1more_0.run r tm s = seqA (fun tm s => seqA (fun tm s => .ret tm s) (cR1more_3.run r tm s)) (cR1more_1.run r tm s)))) ∧
 (((∀ g r s tm le, (qR1more_3_0 g).run r tm (le) s = foldF (r.call 147 [(gp 0 tm), (gp 1 tm)] s) fun v2 s => xBin ⟨9, []⟩ false .geq v2 (V.nat .i64 128) fun v3 => g.run r tm (v3 :: v3 :: v2 :: (gp 1 tm) :: (gp 0 tm) :: le) s) ∧
 (∀ g r s tm le, (qR1more_3_5 g).run r tm ((.bool true) :: le) s = foldF (r.call 147 [(gp 0 tm), (gp 1 tm)] s) fun v7 s => xBin ⟨9, []⟩ false .lss v7 (V.nat .i64 192) fun v8 => g.run r tm (v8 :: v7 :: (gp 1 tm) :: (gp 0 tm) :: (.bool true) :: le) s)) ∧
 ((∀ g r s tm le, (qR1more_3_5 g).run r tm ((.bool false) :: le) s = g.run r tm (Go.Ev.undef :: Go.Ev.undef :: Go.Ev.undef :: Go.Ev.undef :: (.bool false) :: le) s) ∧
 (∀ g r s tm le x0_ x1_ x2_ x3_ x4_, (qR1more_3_9 g).run r tm (x0_ :: x1_ :: x2_ :: x3_ :: x4_ :: le) s = xPick x4_ (fun _ => g.run r (sp 4 x0_ tm) (x0_ :: x0_ :: x0_ :: x1_ :: x2_ :: x3_ :: x4_ :: le) s) (fun _ => g.run r (sp 4 (V.bool false) tm) ((V.bool false) :: (V.bool false) :: x0_ :: x1_ :: x2_ :: x3_ :: x4_ :: le) s))))) := by
 and_intros <;> (intros; kernel_rfl)
theorem rgR1more_1 : ∀ r s tm, cR1more_1.run r tm s = .nrm (sp 4 (V.bool false) tm) s := reg1 1
theorem rgR1more_3 : ∀ r s tm, cR1more_3.run r tm s = (qR1more_3_0 (qR1more_3_5 (qR1more_3_9 nilL))).run r tm [] s := reg_run (by kernel_rfl) (chS rfl (by kernel_rfl) (chS rfl (by kernel_rfl) chL))
theorem allR1more : type_of% (And.intro rgR1more_1 <| And.intro rgR1more_3 <| eR1morex) := And.intro rgR1more_1 <| And.intro rgR1more_3 <| eR1morex

end Go.Proofs.YtdeffnjoddncnaaGreatDoor.oev
