/- What the evaluator makes of the functions that the statements reach: one equation for each run of operations, by the kernel. No statement of the seat stands here. No condition. By an AI agent. -/
import Derived.Test.YtdeffnjoddncnaaGreatDoorOvW
import Derived.Test.YtdeffnjoddncnaaGreatDoorProg
import Derived.KernelRfl
namespace Go.Proofs.YtdeffnjoddncnaaGreatDoor.oev
open Go.Ev Go.Proofs
set_option maxRecDepth 100000
/- abugida/abugidalaw43.TraceLines: parameters 2, slots in the frame: [(0, 0), (1, 1), (2, 2), (3, 3), (4, 4), (5, 5), (6, 6), (7, 7), (8, 8), (9, 9), (10, 10), (11, 11), (12, 12), (13, 13), (14, 14), (15, 21), (16, 30), (17, 39), (18, 100)] -/
def fiLLines : FI := ⟨1296806564033478677730576547414016, 110, 6⟩
noncomputable def bodyLLines := bodyOf Tryz.prog 4
noncomputable def cLLines_1 := comp pc0 fiLLines (subC [0] bodyLLines)
noncomputable def uLLines_4 := subC [1, 0, 0] bodyLLines
noncomputable def cLLines_4 := comp pc0 fiLLines uLLines_4
noncomputable def qLLines_4_6 := qOf pc0 fiLLines uLLines_4 6 1 [21, 20, 19, 18, 17, 16]
noncomputable def qLLines_4_3 := qOf pc0 fiLLines uLLines_4 3 3 [18, 17, 16]
noncomputable def qLLines_4_0 := qOf pc0 fiLLines uLLines_4 0 3 []
noncomputable def cLLines_7 := comp pc0 fiLLines (subC [1, 0, 1, 0, 0] bodyLLines)
noncomputable def cLLines_11 := comp pc0 fiLLines (subC [1, 1, 0] bodyLLines)
noncomputable def cLLines_14 := comp pc0 fiLLines (subC [1, 1, 1, 0, 0] bodyLLines)
noncomputable def uLLines_17 := subC [1, 1, 1, 0, 1, 0, 0] bodyLLines
noncomputable def cLLines_17 := comp pc0 fiLLines uLLines_17
noncomputable def qLLines_17_4 := qOf pc0 fiLLines uLLines_17 4 2 [35, 34, 33, 32]
noncomputable def qLLines_17_3 := qOf pc0 fiLLines uLLines_17 3 1 [34, 33, 32]
noncomputable def qLLines_17_0 := qOf pc0 fiLLines uLLines_17 0 3 []
noncomputable def cLLines_21 := comp pc0 fiLLines (subC [1, 1, 1, 1, 0] bodyLLines)
noncomputable def cLLines_24 := comp pc0 fiLLines (subC [1, 1, 1, 1, 1, 0, 0] bodyLLines)
noncomputable def cLLines_29 := comp pc0 fiLLines (subC [1, 1, 1, 1, 1, 0, 1, 0, 0, 0, 0] bodyLLines)
noncomputable def cLLines_36 := comp pc0 fiLLines (subC [1, 1, 1, 1, 1, 0, 1, 0, 0, 1, 0, 0, 0] bodyLLines)
noncomputable def cLLines_38 := comp pc0 fiLLines (subC [1, 1, 1, 1, 1, 0, 1, 0, 0, 1, 0, 0, 1, 0] bodyLLines)
noncomputable def cLLines_40 := comp pc0 fiLLines (subC [1, 1, 1, 1, 1, 0, 1, 0, 0, 1, 0, 0, 1, 1, 0] bodyLLines)
noncomputable def uLLines_43 := subC [1, 1, 1, 1, 1, 0, 1, 0, 0, 1, 0, 0, 1, 1, 1, 0, 0] bodyLLines
noncomputable def cLLines_43 := comp pc0 fiLLines uLLines_43
noncomputable def qLLines_43_28 := qOf pc0 fiLLines uLLines_43 28 1 [100, 99, 98, 97, 96, 95, 94, 93, 92, 91, 90, 89, 88, 87, 86, 85, 84, 83, 82, 81, 80, 79, 78, 77, 76, 75, 74, 73]
noncomputable def qLLines_43_22 := qOf pc0 fiLLines uLLines_43 22 6 [94, 93, 92, 91, 90, 89, 88, 87, 86, 85, 84, 83, 82, 81, 80, 79, 78, 77, 76, 75, 74, 73]
noncomputable def qLLines_43_20 := qOf pc0 fiLLines uLLines_43 20 2 [92, 91, 90, 89, 88, 87, 86, 85, 84, 83, 82, 81, 80, 79, 78, 77, 76, 75, 74, 73]
noncomputable def qLLines_43_11 := qOf pc0 fiLLines uLLines_43 11 9 [83, 82, 81, 80, 79, 78, 77, 76, 75, 74, 73]
noncomputable def qLLines_43_9 := qOf pc0 fiLLines uLLines_43 9 2 [81, 80, 79, 78, 77, 76, 75, 74, 73]
noncomputable def qLLines_43_7 := qOf pc0 fiLLines uLLines_43 7 2 [79, 78, 77, 76, 75, 74, 73]
noncomputable def qLLines_43_5 := qOf pc0 fiLLines uLLines_43 5 2 [77, 76, 75, 74, 73]
noncomputable def qLLines_43_3 := qOf pc0 fiLLines uLLines_43 3 2 [75, 74, 73]
noncomputable def qLLines_43_0 := qOf pc0 fiLLines uLLines_43 0 3 []
noncomputable def cLLines_46 := comp pc0 fiLLines (subC [1, 1, 1, 1, 1, 0, 1, 0, 0, 1, 0, 0, 1, 1, 1, 0, 1, 0, 0] bodyLLines)
noncomputable def cLLines_49 := comp pc0 fiLLines (subC [1, 1, 1, 1, 1, 0, 1, 0, 0, 1, 0, 0, 1, 1, 1, 1] bodyLLines)
noncomputable def cLLines_50 := comp pc0 fiLLines (subC [1, 1, 1, 1, 1, 0, 1, 0, 0, 1, 1] bodyLLines)
noncomputable def uLLines_26 := subC [1, 1, 1, 1, 1, 0, 1, 0] bodyLLines
noncomputable def cLLines_26 := comp pc0 fiLLines uLLines_26
noncomputable def uLLines_52 := subC [1, 1, 1, 1, 1, 1, 0] bodyLLines
noncomputable def cLLines_52 := comp pc0 fiLLines uLLines_52
noncomputable def qLLines_52_5 := qOf pc0 fiLLines uLLines_52 5 2 [109, 108, 107, 106, 105]
noncomputable def qLLines_52_4 := qOf pc0 fiLLines uLLines_52 4 1 [108, 107, 106, 105]
noncomputable def qLLines_52_0 := qOf pc0 fiLLines uLLines_52 0 4 []
noncomputable def cLLines_0 := comp pc0 fiLLines bodyLLines
noncomputable def finLLines := finN (resC pc0 fiLLines (resOf Tryz.prog 4)).run
theorem eLLinesx :
 (((((∀ r s x0 x1, (fnC pc0 4).run r [x0, x1] s = outF (bindR (fun tm s => finLLines tm s) (cLLines_0.run r (sp 1 x1 (sp 0 x0 T.new)) s))) ∧
 ((∀ s tm, finLLines tm s = finV (gp 240 tm) (resV [(gp 4 tm)] s)) ∧
 (∀ r s tm, cLLines_0.run r tm s = seqA (fun tm s => seqA (fun tm s => seqA (fun tm s => seqA (fun tm s => seqA (fun tm s => seqA (fun tm s => seqA (fun tm s => .ret tm s) (cLLines_52.run r tm s)) (seqA (fun tm s => blockA 0 (cLLines_26.run r tm s)) (cLLines_24.run r tm s))) (cLLines_21.run r tm s)) (seqA (fun tm s => condV (gp 16 tm) (seqA (fun tm s => .ret tm s) (cLLines_17.run r tm s)) (.nrm tm s)) (cLLines_14.run r tm s))) (cLLines_11.run r tm s)) (seqA (fun tm s => condV (gp 15 tm) (seqA (fun tm s => .ret tm s) (cLLines_7.run r tm s)) (.nrm tm s)) (cLLines_4.run r tm s))) (cLLines_1.run r tm s)))) ∧
 (((∀ g r s tm le, (qLLines_4_0 g).run r tm (le) s = foldF (r.call 5 [(gp 0 tm)] s) fun v1 s => g.run r tm (v1 :: v1 :: (gp 0 tm) :: le) s) ∧
 (∀ g r s tm le, (qLLines_4_3 g).run r tm ((.bool true) :: le) s = g.run r tm (Go.Ev.undef :: Go.Ev.undef :: Go.Ev.undef :: (.bool true) :: le) s)) ∧
 ((∀ g r s tm le, (qLLines_4_3 g).run r tm ((.bool false) :: le) s = xLenS (gp 1 tm) fun v4 => xBin ⟨9, []⟩ false .gtr v4 (V.nat .i64 600) fun v5 => g.run r tm (v5 :: v4 :: (gp 1 tm) :: (.bool false) :: le) s) ∧
 (∀ g r s tm le x0_ x1_ x2_ x3_, (qLLines_4_6 g).run r tm (x0_ :: x1_ :: x2_ :: x3_ :: le) s = xPick x3_ (fun _ => g.run r (sp 15 (V.bool true) tm) ((V.bool true) :: x0_ :: x1_ :: x2_ :: x3_ :: le) s) (fun _ => g.run r (sp 15 x0_ tm) (x0_ :: x0_ :: x1_ :: x2_ :: x3_ :: le) s))))) ∧
 (((∀ g r s tm le, (qLLines_17_0 g).run r tm (le) s = xBin ⟨8, []⟩ true .eql (gp 5 tm) (V.str []) fun v1 => g.run r tm (v1 :: v1 :: (gp 5 tm) :: le) s) ∧
 ((∀ g r s tm le, (qLLines_17_3 g).run r tm ((.bool true) :: le) s = foldF (r.call 6 [] s) fun v3 s => g.run r tm (v3 :: (.bool true) :: le) s) ∧
 (∀ g r s tm le, (qLLines_17_3 g).run r tm ((.bool false) :: le) s = g.run r tm (Go.Ev.undef :: (.bool false) :: le) s))) ∧
 (((∀ g r s tm le x0_ x1_, (qLLines_17_4 g).run r tm (x0_ :: x1_ :: le) s = xPick x1_ (fun _ => g.run r (sp 4 x0_ tm) (x0_ :: x0_ :: x0_ :: x1_ :: le) s) (fun _ => g.run r (sp 4 (V.bool false) tm) ((V.bool false) :: (V.bool false) :: x0_ :: x1_ :: le) s)) ∧
 (∀ g r s tm le, (qLLines_43_0 g).run r tm (le) s = xBin ⟨7, []⟩ true .neq (gp 10 tm) (V.nat .i64 0) fun v1 => g.run r tm (v1 :: v1 :: (gp 10 tm) :: le) s)) ∧
 ((∀ g r s tm le, (qLLines_43_3 g).run r tm ((.bool true) :: le) s = g.run r tm (Go.Ev.undef :: Go.Ev.undef :: (.bool true) :: le) s) ∧
 (∀ g r s tm le, (qLLines_43_3 g).run r tm ((.bool false) :: le) s = xBin ⟨7, []⟩ true .neq (gp 12 tm) (V.nat .i64 0) fun v4 => g.run r tm (v4 :: (gp 12 tm) :: (.bool false) :: le) s))))) ∧
 ((((∀ g r s tm le x0_ x1_ x2_, (qLLines_43_5 g).run r tm (x0_ :: x1_ :: x2_ :: le) s = xPick x2_ (fun _ => g.run r tm ((V.bool true) :: (V.bool true) :: x0_ :: x1_ :: x2_ :: le) s) (fun _ => g.run r tm (x0_ :: x0_ :: x0_ :: x1_ :: x2_ :: le) s)) ∧
 ((∀ g r s tm le, (qLLines_43_7 g).run r tm ((.bool true) :: le) s = g.run r tm (Go.Ev.undef :: Go.Ev.undef :: (.bool true) :: le) s) ∧
 (∀ g r s tm le, (qLLines_43_7 g).run r tm ((.bool false) :: le) s = xBin ⟨7, []⟩ true .neq (gp 14 tm) (V.nat .i64 0) fun v8 => g.run r tm (v8 :: (gp 14 tm) :: (.bool false) :: le) s))) ∧
 (((∀ g r s tm le x0_ x1_ x2_, (qLLines_43_9 g).run r tm (x0_ :: x1_ :: x2_ :: le) s = xPick x2_ (fun _ => g.run r tm ((V.bool true) :: (V.bool true) :: x0_ :: x1_ :: x2_ :: le) s) (fun _ => g.run r tm (x0_ :: x0_ :: x0_ :: x1_ :: x2_ :: le) s)) ∧
 (∀ g r s tm le, (qLLines_43_11 g).run r tm ((.bool true) :: le) s = g.run r tm (Go.Ev.undef :: Go.Ev.undef :: Go.Ev.undef :: Go.Ev.undef :: Go.Ev.undef :: Go.Ev.undef :: Go.Ev.undef :: Go.Ev.undef :: Go.Ev.undef :: (.bool true) :: le) s)) ∧
 ((∀ g r s tm le, (qLLines_43_11 g).run r tm ((.bool false) :: le) s = xLenT (gp 9 tm) fun v12 => xLenT (gp 11 tm) fun v14 => xLenT (gp 13 tm) fun v16 => xBin ⟨9, []⟩ false .add v14 v16 fun v17 => xBin ⟨9, []⟩ false .add v17 (V.nat .i64 8) fun v18 => xBin ⟨9, []⟩ false .lss v12 v18 fun v19 => g.run r tm (v19 :: v18 :: v17 :: v16 :: (gp 13 tm) :: v14 :: (gp 11 tm) :: v12 :: (gp 9 tm) :: (.bool false) :: le) s) ∧
 (∀ g r s tm le x0_ x1_ x2_ x3_ x4_ x5_ x6_ x7_ x8_ x9_, (qLLines_43_20 g).run r tm (x0_ :: x1_ :: x2_ :: x3_ :: x4_ :: x5_ :: x6_ :: x7_ :: x8_ :: x9_ :: le) s = xPick x9_ (fun _ => g.run r tm ((V.bool true) :: (V.bool true) :: x0_ :: x1_ :: x2_ :: x3_ :: x4_ :: x5_ :: x6_ :: x7_ :: x8_ :: x9_ :: le) s) (fun _ => g.run r tm (x0_ :: x0_ :: x0_ :: x1_ :: x2_ :: x3_ :: x4_ :: x5_ :: x6_ :: x7_ :: x8_ :: x9_ :: le) s))))) ∧
 (((∀ g r s tm le, (qLLines_43_22 g).run r tm ((.bool true) :: le) s = g.run r tm (Go.Ev.undef :: Go.Ev.undef :: Go.Ev.undef :: Go.Ev.undef :: Go.Ev.undef :: Go.Ev.undef :: (.bool true) :: le) s) ∧
 ((∀ g r s tm le, (qLLines_43_22 g).run r tm ((.bool false) :: le) s = xLenT (gp 9 tm) fun v24 => xBin ⟨9, []⟩ false .sub v24 (V.nat .i64 1) fun v25 => xIndexS (gp 9 tm) v25 fun v26 => xBin ⟨7, []⟩ true .neq v26 (V.nat .u8 10) fun v27 => g.run r tm (v27 :: v26 :: v25 :: v24 :: (gp 9 tm) :: (gp 9 tm) :: (.bool false) :: le) s) ∧
 (∀ g r s tm le x0_ x1_ x2_ x3_ x4_ x5_ x6_, (qLLines_43_28 g).run r tm (x0_ :: x1_ :: x2_ :: x3_ :: x4_ :: x5_ :: x6_ :: le) s = xPick x6_ (fun _ => g.run r (sp 18 (V.bool true) tm) ((V.bool true) :: x0_ :: x1_ :: x2_ :: x3_ :: x4_ :: x5_ :: x6_ :: le) s) (fun _ => g.run r (sp 18 x0_ tm) (x0_ :: x0_ :: x1_ :: x2_ :: x3_ :: x4_ :: x5_ :: x6_ :: le) s)))) ∧
 (((∀ g r s tm le, (qLLines_52_0 g).run r tm (le) s = xBin ⟨8, []⟩ false .eql (gp 5 tm) (gp 7 tm) fun v2 => g.run r tm (v2 :: v2 :: (gp 7 tm) :: (gp 5 tm) :: le) s) ∧
 (∀ g r s tm le, (qLLines_52_4 g).run r tm ((.bool true) :: le) s = foldF (r.call 6 [] s) fun v4 s => g.run r tm (v4 :: (.bool true) :: le) s)) ∧
 ((∀ g r s tm le, (qLLines_52_4 g).run r tm ((.bool false) :: le) s = g.run r tm (Go.Ev.undef :: (.bool false) :: le) s) ∧
 (∀ g r s tm le x0_ x1_, (qLLines_52_5 g).run r tm (x0_ :: x1_ :: le) s = xPick x1_ (fun _ => g.run r (sp 4 x0_ tm) (x0_ :: x0_ :: x0_ :: x1_ :: le) s) (fun _ => g.run r (sp 4 (V.bool false) tm) ((V.bool false) :: (V.bool false) :: x0_ :: x1_ :: le) s))))))) := by
 and_intros <;> (intros; kernel_rfl)
theorem rgLLines_1 : ∀ r s tm, cLLines_1.run r tm s = .nrm (sp 4 (V.bool false) tm) s := reg1 1
theorem rgLLines_4 : ∀ r s tm, cLLines_4.run r tm s = (qLLines_4_0 (qLLines_4_3 (qLLines_4_6 nilL))).run r tm [] s := reg_run (by kernel_rfl) (chS rfl (by kernel_rfl) (chS rfl (by kernel_rfl) chL))
theorem rgLLines_7 : ∀ r s tm, cLLines_7.run r tm s = foldF (r.call 6 [] s) fun v0 s => .nrm (sp 4 v0 tm) s := reg1 2
theorem rgLLines_11 : ∀ r s tm, cLLines_11.run r tm s = foldF (r.call 7 [(gp 0 tm), (gp 1 tm)] s) fun v2 s => xExtract 0 v2 fun v4 => xExtract 1 v2 fun v5 => .nrm (sp 6 v5 (sp 5 v4 tm)) s := reg1 8
theorem rgLLines_14 : ∀ r s tm, cLLines_14.run r tm s = xBin ⟨7, []⟩ true .neq (gp 6 tm) (V.nat .i64 0) fun v1 => .nrm (sp 16 v1 tm) s := reg1 2
theorem rgLLines_17 : ∀ r s tm, cLLines_17.run r tm s = (qLLines_17_0 (qLLines_17_3 (qLLines_17_4 nilL))).run r tm [] s := reg_run (by kernel_rfl) (chS rfl (by kernel_rfl) (chS rfl (by kernel_rfl) chL))
theorem rgLLines_21 : ∀ r s tm, cLLines_21.run r tm s = .nrm (sp 7 (V.str []) tm) s := reg1 1
theorem rgLLines_24 : ∀ r s tm, cLLines_24.run r tm s = .nrm (sp 8 (V.nat .i64 0) tm) s := reg1 1
theorem rgLLines_29 : ∀ r s tm, cLLines_29.run r tm s = xLenS (gp 0 tm) fun v2 => xBin ⟨9, []⟩ false .lss (gp 8 tm) v2 fun v3 => .nrm (sp 17 v3 tm) s := reg1 4
theorem rgLLines_36 : ∀ r s tm, cLLines_36.run r tm s = xBin ⟨9, []⟩ false .add (gp 8 tm) (V.nat .i64 1) fun v3 => xSlice 34 4 (gp 0 tm) (some (gp 8 tm)) (some v3) none s fun v4 => foldF (r.call 7 [v4, (gp 1 tm)] s) fun v6 s => xExtract 0 v6 fun v8 => xExtract 1 v6 fun v9 => .nrm (sp 10 v9 (sp 9 v8 tm)) s := reg1 12
theorem rgLLines_38 : ∀ r s tm, cLLines_38.run r tm s = xIdxAddrS 4 (gp 0 tm) (gp 8 tm) fun v3 => xFieldAddr 1 v3 fun v4 => xLoad false 1 v4 s fun v5 s => foldF (r.call 9 [(gp 1 tm), v5] s) fun v6 s => xExtract 0 v6 fun v8 => xExtract 1 v6 fun v9 => .nrm (sp 12 v9 (sp 11 v8 tm)) s := reg1 12
theorem rgLLines_40 : ∀ r s tm, cLLines_40.run r tm s = xIdxAddrS 4 (gp 0 tm) (gp 8 tm) fun v3 => xFieldAddr 2 v3 fun v4 => xLoad false 1 v4 s fun v5 s => foldF (r.call 9 [(gp 1 tm), v5] s) fun v6 s => xExtract 0 v6 fun v8 => xExtract 1 v6 fun v9 => .nrm (sp 14 v9 (sp 13 v8 tm)) s := reg1 12
theorem rgLLines_43 : ∀ r s tm, cLLines_43.run r tm s = (qLLines_43_0 (qLLines_43_3 (qLLines_43_5 (qLLines_43_7 (qLLines_43_9 (qLLines_43_11 (qLLines_43_20 (qLLines_43_22 (qLLines_43_28 nilL))))))))).run r tm [] s := reg_run (by kernel_rfl) (chS rfl (by kernel_rfl) (chS rfl (by kernel_rfl) (chS rfl (by kernel_rfl) (chS rfl (by kernel_rfl) (chS rfl (by kernel_rfl) (chS rfl (by kernel_rfl) (chS rfl (by kernel_rfl) (chS rfl (by kernel_rfl) chL))))))))
theorem rgLLines_46 : ∀ r s tm, cLLines_46.run r tm s = .nrm (sp 4 (V.bool false) tm) s := reg1 1
theorem rgLLines_49 : ∀ r s tm, cLLines_49.run r tm s = xBin ⟨9, []⟩ false .add (gp 7 tm) (gp 9 tm) fun v2 => .nrm (sp 7 v2 tm) s := reg1 4
theorem rgLLines_50 : ∀ r s tm, cLLines_50.run r tm s = xBin ⟨9, []⟩ false .add (gp 8 tm) (V.nat .i64 1) fun v1 => .nrm (sp 8 v1 tm) s := reg1 3
theorem rgLLines_52 : ∀ r s tm, cLLines_52.run r tm s = (qLLines_52_0 (qLLines_52_4 (qLLines_52_5 nilL))).run r tm [] s := reg_run (by kernel_rfl) (chS rfl (by kernel_rfl) (chS rfl (by kernel_rfl) chL))
theorem szLLines_26 : sizeC uLLines_26 = 102 := by kernel_rfl
theorem lpLLines_26 : ∀ r s tm, cLLines_26.run r tm s = seqA (fun tm s => r.code fiLLines uLLines_26 tm s) (seqA (fun tm s => seqA (fun tm s => cLLines_50.run r tm s) (blockA 1 (seqA (fun tm s => seqA (fun tm s => seqA (fun tm s => seqA (fun tm s => cLLines_49.run r tm s) (seqA (fun tm s => condV (gp 18 tm) (seqA (fun tm s => .ret tm s) (cLLines_46.run r tm s)) (.nrm tm s)) (cLLines_43.run r tm s))) (cLLines_40.run r tm s)) (cLLines_38.run r tm s)) (cLLines_36.run r tm s)))) (seqA (fun tm s => condV (gp 17 tm) (.nrm tm s) (.ext 0 tm s)) (cLLines_29.run r tm s))) := by intros; kernel_rfl
theorem allLLines : type_of% (And.intro rgLLines_1 <| And.intro rgLLines_4 <| And.intro rgLLines_7 <| And.intro rgLLines_11 <| And.intro rgLLines_14 <| And.intro rgLLines_17 <| And.intro rgLLines_21 <| And.intro rgLLines_24 <| And.intro rgLLines_29 <| And.intro rgLLines_36 <| And.intro rgLLines_38 <| And.intro rgLLines_40 <| And.intro rgLLines_43 <| And.intro rgLLines_46 <| And.intro rgLLines_49 <| And.intro rgLLines_50 <| And.intro rgLLines_52 <| eLLinesx) := And.intro rgLLines_1 <| And.intro rgLLines_4 <| And.intro rgLLines_7 <| And.intro rgLLines_11 <| And.intro rgLLines_14 <| And.intro rgLLines_17 <| And.intro rgLLines_21 <| And.intro rgLLines_24 <| And.intro rgLLines_29 <| And.intro rgLLines_36 <| And.intro rgLLines_38 <| And.intro rgLLines_40 <| And.intro rgLLines_43 <| And.intro rgLLines_46 <| And.intro rgLLines_49 <| And.intro rgLLines_50 <| And.intro rgLLines_52 <| eLLinesx

end Go.Proofs.YtdeffnjoddncnaaGreatDoor.oev
