/- What the evaluator makes of the functions that the statements reach: one equation for each run of operations, by the kernel. No statement of the seat stands here. No condition. By an AI agent. -/
import Derived.Test.YtdeffnjoddncnaaGreatDoorOvV
import Derived.Test.YtdeffnjoddncnaaGreatDoorProg
import Derived.KernelRfl
namespace Go.Proofs.YtdeffnjoddncnaaGreatDoor.oev
open Go.Ev Go.Proofs
set_option maxRecDepth 100000
/- abugida/abugidalaw43.many: parameters 1, slots in the frame: [(0, 0), (1, 1), (2, 2), (3, 3), (4, 6), (5, 10), (6, 37)] -/
def fiMany : FI := ⟨137438952368, 38, 6⟩
noncomputable def bodyMany := bodyOf Tryz.prog 5
noncomputable def cMany_1 := comp pc0 fiMany (subC [0] bodyMany)
noncomputable def cMany_4 := comp pc0 fiMany (subC [1, 0, 0] bodyMany)
noncomputable def cMany_7 := comp pc0 fiMany (subC [1, 0, 1, 0, 0] bodyMany)
noncomputable def cMany_12 := comp pc0 fiMany (subC [1, 1, 0, 0] bodyMany)
noncomputable def cMany_17 := comp pc0 fiMany (subC [1, 1, 0, 1, 0, 0, 0, 0] bodyMany)
noncomputable def uMany_24 := subC [1, 1, 0, 1, 0, 0, 1, 0, 0, 0] bodyMany
noncomputable def cMany_24 := comp pc0 fiMany uMany_24
noncomputable def qMany_24_24 := qOf pc0 fiMany uMany_24 24 1 [37, 36, 35, 34, 33, 32, 31, 30, 29, 28, 27, 26, 25, 24, 23, 22, 21, 20, 19, 18, 17, 16, 15, 14]
noncomputable def qMany_24_17 := qOf pc0 fiMany uMany_24 17 7 [30, 29, 28, 27, 26, 25, 24, 23, 22, 21, 20, 19, 18, 17, 16, 15, 14]
noncomputable def qMany_24_15 := qOf pc0 fiMany uMany_24 15 2 [28, 27, 26, 25, 24, 23, 22, 21, 20, 19, 18, 17, 16, 15, 14]
noncomputable def qMany_24_8 := qOf pc0 fiMany uMany_24 8 7 [21, 20, 19, 18, 17, 16, 15, 14]
noncomputable def qMany_24_0 := qOf pc0 fiMany uMany_24 0 8 []
noncomputable def cMany_27 := comp pc0 fiMany (subC [1, 1, 0, 1, 0, 0, 1, 0, 0, 1, 0, 0] bodyMany)
noncomputable def cMany_30 := comp pc0 fiMany (subC [1, 1, 0, 1, 0, 0, 1, 1] bodyMany)
noncomputable def uMany_14 := subC [1, 1, 0, 1, 0] bodyMany
noncomputable def cMany_14 := comp pc0 fiMany uMany_14
noncomputable def cMany_32 := comp pc0 fiMany (subC [1, 1, 1, 0] bodyMany)
noncomputable def cMany_0 := comp pc0 fiMany bodyMany
noncomputable def finMany := finN (resC pc0 fiMany (resOf Tryz.prog 5)).run
theorem eManyx :
 ((((∀ r s x0, (fnC pc0 5).run r [x0] s = outF (bindR (fun tm s => finMany tm s) (cMany_0.run r (sp 0 x0 T.new) s))) ∧
 (∀ s tm, finMany tm s = finV (gp 240 tm) (resV [(gp 2 tm)] s))) ∧
 ((∀ r s tm, cMany_0.run r tm s = seqA (fun tm s => seqA (fun tm s => seqA (fun tm s => seqA (fun tm s => .ret tm s) (cMany_32.run r tm s)) (seqA (fun tm s => blockA 0 (cMany_14.run r tm s)) (cMany_12.run r tm s))) (seqA (fun tm s => condV (gp 4 tm) (seqA (fun tm s => .ret tm s) (cMany_7.run r tm s)) (.nrm tm s)) (cMany_4.run r tm s))) (cMany_1.run r tm s)) ∧
 ((∀ g r s tm le, (qMany_24_0 g).run r tm (le) s = xIdxAddrS 4 (gp 0 tm) (gp 3 tm) fun v2 => xFieldAddr 1 v2 fun v3 => xLoad false 1 v3 s fun v4 s => xLenS v4 fun v5 => xBin ⟨9, []⟩ false .gtr v5 (V.nat .i64 250) fun v6 => g.run r tm (v6 :: v6 :: v5 :: v4 :: v3 :: v2 :: (gp 3 tm) :: (gp 0 tm) :: le) s) ∧
 (∀ g r s tm le, (qMany_24_8 g).run r tm ((.bool true) :: le) s = g.run r tm (Go.Ev.undef :: Go.Ev.undef :: Go.Ev.undef :: Go.Ev.undef :: Go.Ev.undef :: Go.Ev.undef :: Go.Ev.undef :: (.bool true) :: le) s)))) ∧
 (((∀ g r s tm le, (qMany_24_8 g).run r tm ((.bool false) :: le) s = xIdxAddrS 4 (gp 0 tm) (gp 3 tm) fun v10 => xFieldAddr 2 v10 fun v11 => xLoad false 1 v11 s fun v12 s => xLenS v12 fun v13 => xBin ⟨9, []⟩ false .gtr v13 (V.nat .i64 250) fun v14 => g.run r tm (v14 :: v13 :: v12 :: v11 :: v10 :: (gp 3 tm) :: (gp 0 tm) :: (.bool false) :: le) s) ∧
 (∀ g r s tm le x0_ x1_ x2_ x3_ x4_ x5_ x6_ x7_, (qMany_24_15 g).run r tm (x0_ :: x1_ :: x2_ :: x3_ :: x4_ :: x5_ :: x6_ :: x7_ :: le) s = xPick x7_ (fun _ => g.run r tm ((V.bool true) :: (V.bool true) :: x0_ :: x1_ :: x2_ :: x3_ :: x4_ :: x5_ :: x6_ :: x7_ :: le) s) (fun _ => g.run r tm (x0_ :: x0_ :: x0_ :: x1_ :: x2_ :: x3_ :: x4_ :: x5_ :: x6_ :: x7_ :: le) s))) ∧
 ((∀ g r s tm le, (qMany_24_17 g).run r tm ((.bool true) :: le) s = g.run r tm (Go.Ev.undef :: Go.Ev.undef :: Go.Ev.undef :: Go.Ev.undef :: Go.Ev.undef :: Go.Ev.undef :: Go.Ev.undef :: (.bool true) :: le) s) ∧
 ((∀ g r s tm le, (qMany_24_17 g).run r tm ((.bool false) :: le) s = xIdxAddrS 4 (gp 0 tm) (gp 3 tm) fun v19 => xFieldAddr 3 v19 fun v20 => xLoad false 1 v20 s fun v21 s => xLenS v21 fun v22 => xBin ⟨9, []⟩ false .gtr v22 (V.nat .i64 250) fun v23 => g.run r tm (v23 :: v22 :: v21 :: v20 :: v19 :: (gp 3 tm) :: (gp 0 tm) :: (.bool false) :: le) s) ∧
 (∀ g r s tm le x0_ x1_ x2_ x3_ x4_ x5_ x6_ x7_, (qMany_24_24 g).run r tm (x0_ :: x1_ :: x2_ :: x3_ :: x4_ :: x5_ :: x6_ :: x7_ :: le) s = xPick x7_ (fun _ => g.run r (sp 6 (V.bool true) tm) ((V.bool true) :: x0_ :: x1_ :: x2_ :: x3_ :: x4_ :: x5_ :: x6_ :: x7_ :: le) s) (fun _ => g.run r (sp 6 x0_ tm) (x0_ :: x0_ :: x1_ :: x2_ :: x3_ :: x4_ :: x5_ :: x6_ :: x7_ :: le) s)))))) := by
 and_intros <;> (intros; kernel_rfl)
theorem rgMany_1 : ∀ r s tm, cMany_1.run r tm s = .nrm (sp 2 (V.bool false) tm) s := reg1 1
theorem rgMany_4 : ∀ r s tm, cMany_4.run r tm s = xLenS (gp 0 tm) fun v1 => xBin ⟨9, []⟩ false .gtr v1 (V.nat .i64 120) fun v2 => .nrm (sp 4 v2 tm) s := reg1 3
theorem rgMany_7 : ∀ r s tm, cMany_7.run r tm s = .nrm (sp 2 (V.bool true) tm) s := reg1 1
theorem rgMany_12 : ∀ r s tm, cMany_12.run r tm s = .nrm (sp 3 (V.nat .i64 0) tm) s := reg1 1
theorem rgMany_17 : ∀ r s tm, cMany_17.run r tm s = xLenS (gp 0 tm) fun v2 => xBin ⟨9, []⟩ false .lss (gp 3 tm) v2 fun v3 => .nrm (sp 5 v3 tm) s := reg1 4
theorem rgMany_24 : ∀ r s tm, cMany_24.run r tm s = (qMany_24_0 (qMany_24_8 (qMany_24_15 (qMany_24_17 (qMany_24_24 nilL))))).run r tm [] s := reg_run (by kernel_rfl) (chS rfl (by kernel_rfl) (chS rfl (by kernel_rfl) (chS rfl (by kernel_rfl) (chS rfl (by kernel_rfl) chL))))
theorem rgMany_27 : ∀ r s tm, cMany_27.run r tm s = .nrm (sp 2 (V.bool true) tm) s := reg1 1
theorem rgMany_30 : ∀ r s tm, cMany_30.run r tm s = xBin ⟨9, []⟩ false .add (gp 3 tm) (V.nat .i64 1) fun v1 => .nrm (sp 3 v1 tm) s := reg1 3
theorem rgMany_32 : ∀ r s tm, cMany_32.run r tm s = .nrm (sp 2 (V.bool false) tm) s := reg1 1
theorem szMany_14 : sizeC uMany_14 = 50 := by kernel_rfl
theorem lpMany_14 : ∀ r s tm, cMany_14.run r tm s = seqA (fun tm s => r.code fiMany uMany_14 tm s) (seqA (fun tm s => seqA (fun tm s => cMany_30.run r tm s) (blockA 1 (seqA (fun tm s => condV (gp 6 tm) (seqA (fun tm s => .ret tm s) (cMany_27.run r tm s)) (.nrm tm s)) (cMany_24.run r tm s)))) (seqA (fun tm s => condV (gp 5 tm) (.nrm tm s) (.ext 0 tm s)) (cMany_17.run r tm s))) := by intros; kernel_rfl
theorem allMany : type_of% (And.intro rgMany_1 <| And.intro rgMany_4 <| And.intro rgMany_7 <| And.intro rgMany_12 <| And.intro rgMany_17 <| And.intro rgMany_24 <| And.intro rgMany_27 <| And.intro rgMany_30 <| And.intro rgMany_32 <| eManyx) := And.intro rgMany_1 <| And.intro rgMany_4 <| And.intro rgMany_7 <| And.intro rgMany_12 <| And.intro rgMany_17 <| And.intro rgMany_24 <| And.intro rgMany_27 <| And.intro rgMany_30 <| And.intro rgMany_32 <| eManyx
/- abugida/trace.Text: parameters 2, slots in the frame: [(0, 0), (1, 1), (2, 2), (3, 3), (4, 4), (5, 5), (6, 6), (7, 7), (8, 8), (9, 9), (10, 10), (11, 11), (12, 12), (13, 13), (14, 14), (15, 15), (16, 16), (17, 17), (18, 20), (19, 21), (20, 22), (21, 23), (22, 24), (23, 40), (24, 42), (25, 43), (26, 44), (27, 45), (28, 67), (29, 83), (30, 84), (31, 85), (32, 86), (33, 111)] -/
def fiTText : FI := ⟨18173038859800650772081576269053952, 114, 6⟩
noncomputable def bodyTText := bodyOf Tryz.prog 7
noncomputable def cTText_1 := comp pc0 fiTText (subC [0] bodyTText)
noncomputable def cTText_4 := comp pc0 fiTText (subC [1, 0, 0] bodyTText)
noncomputable def cTText_7 := comp pc0 fiTText (subC [1, 0, 1, 0, 0] bodyTText)
noncomputable def cTText_12 := comp pc0 fiTText (subC [1, 1, 0, 0] bodyTText)
noncomputable def cTText_16 := comp pc0 fiTText (subC [1, 1, 0, 1, 0, 0, 0] bodyTText)
noncomputable def cTText_24 := comp pc0 fiTText (subC [1, 1, 0, 1, 0, 0, 1, 1, 0, 0, 0] bodyTText)
noncomputable def uTText_26 := subC [1, 1, 0, 1, 0, 0, 1, 1, 0, 0, 1, 0] bodyTText
noncomputable def cTText_26 := comp pc0 fiTText uTText_26
noncomputable def qTText_26_13 := qOf pc0 fiTText uTText_26 13 1 [40, 39, 38, 37, 36, 35, 34, 33, 32, 31, 30, 29, 28]
noncomputable def qTText_26_7 := qOf pc0 fiTText uTText_26 7 6 [34, 33, 32, 31, 30, 29, 28]
noncomputable def qTText_26_0 := qOf pc0 fiTText uTText_26 0 7 []
noncomputable def cTText_29 := comp pc0 fiTText (subC [1, 1, 0, 1, 0, 0, 1, 1, 0, 0, 1, 1, 0, 0] bodyTText)
noncomputable def cTText_32 := comp pc0 fiTText (subC [1, 1, 0, 1, 0, 0, 1, 1, 1] bodyTText)
noncomputable def uTText_14 := subC [1, 1, 0, 1, 0] bodyTText
noncomputable def cTText_14 := comp pc0 fiTText uTText_14
noncomputable def cTText_34 := comp pc0 fiTText (subC [1, 1, 1, 0] bodyTText)
noncomputable def cTText_36 := comp pc0 fiTText (subC [1, 1, 1, 1, 0] bodyTText)
noncomputable def cTText_39 := comp pc0 fiTText (subC [1, 1, 1, 1, 1, 0, 0] bodyTText)
noncomputable def cTText_43 := comp pc0 fiTText (subC [1, 1, 1, 1, 1, 0, 1, 0, 0, 0] bodyTText)
noncomputable def cTText_51 := comp pc0 fiTText (subC [1, 1, 1, 1, 1, 0, 1, 0, 0, 1, 1, 0, 0, 0] bodyTText)
noncomputable def cTText_53 := comp pc0 fiTText (subC [1, 1, 1, 1, 1, 0, 1, 0, 0, 1, 1, 0, 0, 1, 0] bodyTText)
noncomputable def cTText_55 := comp pc0 fiTText (subC [1, 1, 1, 1, 1, 0, 1, 0, 0, 1, 1, 0, 0, 1, 1, 0] bodyTText)
noncomputable def uTText_58 := subC [1, 1, 1, 1, 1, 0, 1, 0, 0, 1, 1, 0, 0, 1, 1, 1, 0, 0] bodyTText
noncomputable def cTText_58 := comp pc0 fiTText uTText_58
noncomputable def qTText_58_5 := qOf pc0 fiTText uTText_58 5 1 [67, 66, 65, 64, 63]
noncomputable def qTText_58_3 := qOf pc0 fiTText uTText_58 3 2 [65, 64, 63]
noncomputable def qTText_58_0 := qOf pc0 fiTText uTText_58 0 3 []
noncomputable def cTText_61 := comp pc0 fiTText (subC [1, 1, 1, 1, 1, 0, 1, 0, 0, 1, 1, 0, 0, 1, 1, 1, 0, 1, 0, 0] bodyTText)
noncomputable def cTText_65 := comp pc0 fiTText (subC [1, 1, 1, 1, 1, 0, 1, 0, 0, 1, 1, 0, 0, 1, 1, 1, 1, 0] bodyTText)
noncomputable def cTText_68 := comp pc0 fiTText (subC [1, 1, 1, 1, 1, 0, 1, 0, 0, 1, 1, 0, 0, 1, 1, 1, 1, 1, 0, 0] bodyTText)
noncomputable def cTText_72 := comp pc0 fiTText (subC [1, 1, 1, 1, 1, 0, 1, 0, 0, 1, 1, 0, 0, 1, 1, 1, 1, 1, 0, 1, 0, 0, 0] bodyTText)
noncomputable def cTText_80 := comp pc0 fiTText (subC [1, 1, 1, 1, 1, 0, 1, 0, 0, 1, 1, 0, 0, 1, 1, 1, 1, 1, 0, 1, 0, 0, 1, 1, 0, 0, 0] bodyTText)
noncomputable def cTText_81 := comp pc0 fiTText (subC [1, 1, 1, 1, 1, 0, 1, 0, 0, 1, 1, 0, 0, 1, 1, 1, 1, 1, 0, 1, 0, 0, 1, 1, 0, 0, 1] bodyTText)
noncomputable def cTText_82 := comp pc0 fiTText (subC [1, 1, 1, 1, 1, 0, 1, 0, 0, 1, 1, 0, 0, 1, 1, 1, 1, 1, 0, 1, 0, 0, 1, 1, 1] bodyTText)
noncomputable def uTText_70 := subC [1, 1, 1, 1, 1, 0, 1, 0, 0, 1, 1, 0, 0, 1, 1, 1, 1, 1, 0, 1, 0] bodyTText
noncomputable def cTText_70 := comp pc0 fiTText uTText_70
noncomputable def cTText_84 := comp pc0 fiTText (subC [1, 1, 1, 1, 1, 0, 1, 0, 0, 1, 1, 0, 0, 1, 1, 1, 1, 1, 1, 0] bodyTText)
noncomputable def cTText_86 := comp pc0 fiTText (subC [1, 1, 1, 1, 1, 0, 1, 0, 0, 1, 1, 0, 0, 1, 1, 1, 1, 1, 1, 1, 0] bodyTText)
noncomputable def cTText_89 := comp pc0 fiTText (subC [1, 1, 1, 1, 1, 0, 1, 0, 0, 1, 1, 0, 0, 1, 1, 1, 1, 1, 1, 1, 1, 0, 0] bodyTText)
noncomputable def cTText_92 := comp pc0 fiTText (subC [1, 1, 1, 1, 1, 0, 1, 0, 0, 1, 1, 1] bodyTText)
noncomputable def uTText_41 := subC [1, 1, 1, 1, 1, 0, 1, 0] bodyTText
noncomputable def cTText_41 := comp pc0 fiTText uTText_41
noncomputable def cTText_94 := comp pc0 fiTText (subC [1, 1, 1, 1, 1, 1, 0] bodyTText)
noncomputable def cTText_0 := comp pc0 fiTText bodyTText
noncomputable def finTText := finN (resC pc0 fiTText (resOf Tryz.prog 7)).run
theorem eTTextx :
 ((((∀ r s x0 x1, (fnC pc0 7).run r [x0, x1] s = outF (bindR (fun tm s => finTText tm s) (cTText_0.run r (sp 1 x1 (sp 0 x0 T.new)) s))) ∧
 (∀ s tm, finTText tm s = finV (gp 240 tm) (resV [(gp 4 tm), (gp 5 tm)] s))) ∧
 ((∀ r s tm, cTText_0.run r tm s = seqA (fun tm s => seqA (fun tm s => seqA (fun tm s => seqA (fun tm s => seqA (fun tm s => seqA (fun tm s => seqA (fun tm s => .ret tm s) (cTText_94.run r tm s)) (seqA (fun tm s => blockA 2 (cTText_41.run r tm s)) (cTText_39.run r tm s))) (cTText_36.run r tm s)) (cTText_34.run r tm s)) (seqA (fun tm s => blockA 0 (cTText_14.run r tm s)) (cTText_12.run r tm s))) (seqA (fun tm s => condV (gp 18 tm) (seqA (fun tm s => .ret tm s) (cTText_7.run r tm s)) (.nrm tm s)) (cTText_4.run r tm s))) (cTText_1.run r tm s)) ∧
 ((∀ g r s tm le, (qTText_26_0 g).run r tm (le) s = xFieldAddr 1 (gp 7 tm) fun v0 => xLoad false 1 v0 s fun v1 s => xLenS (gp 1 tm) fun v3 => foldF (r.call 17 [v1, v3] s) fun v4 s => xUn .not v4 fun v5 => g.run r tm (v5 :: v5 :: v4 :: v3 :: (gp 1 tm) :: v1 :: v0 :: le) s) ∧
 (∀ g r s tm le, (qTText_26_7 g).run r tm ((.bool true) :: le) s = g.run r tm (Go.Ev.undef :: Go.Ev.undef :: Go.Ev.undef :: Go.Ev.undef :: Go.Ev.undef :: Go.Ev.undef :: (.bool true) :: le) s)))) ∧
 (((∀ g r s tm le, (qTText_26_7 g).run r tm ((.bool false) :: le) s = xFieldAddr 2 (gp 7 tm) fun v7 => xLoad false 1 v7 s fun v8 s => xLenS (gp 1 tm) fun v10 => foldF (r.call 17 [v8, v10] s) fun v11 s => xUn .not v11 fun v12 => g.run r tm (v12 :: v11 :: v10 :: (gp 1 tm) :: v8 :: v7 :: (.bool false) :: le) s) ∧
 ((∀ g r s tm le x0_ x1_ x2_ x3_ x4_ x5_ x6_, (qTText_26_13 g).run r tm (x0_ :: x1_ :: x2_ :: x3_ :: x4_ :: x5_ :: x6_ :: le) s = xPick x6_ (fun _ => g.run r (sp 23 (V.bool true) tm) ((V.bool true) :: x0_ :: x1_ :: x2_ :: x3_ :: x4_ :: x5_ :: x6_ :: le) s) (fun _ => g.run r (sp 23 x0_ tm) (x0_ :: x0_ :: x1_ :: x2_ :: x3_ :: x4_ :: x5_ :: x6_ :: le) s)) ∧
 (∀ g r s tm le, (qTText_58_0 g).run r tm (le) s = xBin ⟨7, []⟩ true .neq (gp 13 tm) (V.nat .i64 0) fun v1 => g.run r tm (v1 :: v1 :: (gp 13 tm) :: le) s))) ∧
 ((∀ g r s tm le, (qTText_58_3 g).run r tm ((.bool true) :: le) s = g.run r tm (Go.Ev.undef :: Go.Ev.undef :: (.bool true) :: le) s) ∧
 ((∀ g r s tm le, (qTText_58_3 g).run r tm ((.bool false) :: le) s = xBin ⟨7, []⟩ true .neq (gp 15 tm) (V.nat .i64 0) fun v4 => g.run r tm (v4 :: (gp 15 tm) :: (.bool false) :: le) s) ∧
 (∀ g r s tm le x0_ x1_ x2_, (qTText_58_5 g).run r tm (x0_ :: x1_ :: x2_ :: le) s = xPick x2_ (fun _ => g.run r (sp 28 (V.bool true) tm) ((V.bool true) :: x0_ :: x1_ :: x2_ :: le) s) (fun _ => g.run r (sp 28 x0_ tm) (x0_ :: x0_ :: x1_ :: x2_ :: le) s)))))) := by
 and_intros <;> (intros; kernel_rfl)
theorem rgTText_1 : ∀ r s tm, cTText_1.run r tm s = .nrm (sp 5 (V.nat .i64 0) (sp 4 (V.str []) tm)) s := reg1 2
theorem rgTText_4 : ∀ r s tm, cTText_4.run r tm s = foldF (r.call 16 [(gp 1 tm)] s) fun v1 s => xUn .not v1 fun v2 => .nrm (sp 18 v2 tm) s := reg1 3
theorem rgTText_7 : ∀ r s tm, cTText_7.run r tm s = .nrm (sp 5 (V.nat .i64 1) (sp 4 (V.str []) tm)) s := reg1 2
theorem rgTText_12 : ∀ r s tm, cTText_12.run r tm s = xLenS (gp 0 tm) fun v1 => .nrm (sp 21 (V.nat .i64 0) (sp 20 v1 (sp 19 (gp 0 tm) tm))) s := reg1 3
theorem rgTText_16 : ∀ r s tm, cTText_16.run r tm s = xBin ⟨9, []⟩ false .lss (gp 21 tm) (gp 20 tm) fun v0 => .nrm (sp 22 v0 tm) s := reg1 1
theorem rgTText_24 : ∀ r s tm, cTText_24.run r tm s = xIdxAddrS 4 (gp 19 tm) (gp 21 tm) fun v0 => xLoad true 4 v0 s fun v1 s => Go.Ev.newRow s 34 [(V.nat .i64 0), (V.nil 1), (V.nil 1), (V.nil 1)] false fun a2k _ s => xStore 4 (V.ptr a2k 0 0) v1 s fun _ s => .nrm (sp 7 (V.ptr a2k 0 0) tm) s := reg1 4
theorem rgTText_26 : ∀ r s tm, cTText_26.run r tm s = (qTText_26_0 (qTText_26_7 (qTText_26_13 nilL))).run r tm [] s := reg_run (by kernel_rfl) (chS rfl (by kernel_rfl) (chS rfl (by kernel_rfl) chL))
theorem rgTText_29 : ∀ r s tm, cTText_29.run r tm s = .nrm (sp 5 (V.nat .i64 1) (sp 4 (V.str []) tm)) s := reg1 2
theorem rgTText_32 : ∀ r s tm, cTText_32.run r tm s = xBin ⟨9, []⟩ false .add (gp 21 tm) (V.nat .i64 1) fun v0 => .nrm (sp 21 v0 tm) s := reg1 2
theorem rgTText_34 : ∀ r s tm, cTText_34.run r tm s = Go.Ev.newRow s 52 [(V.nil 0), (V.nil 1)] false fun a0k _ s => .nrm (sp 8 (V.ptr a0k 0 0) tm) s := reg1 1
theorem rgTText_36 : ∀ r s tm, cTText_36.run r tm s = .nrm (sp 9 (V.fn (.func 18) [] []) tm) s := reg1 1
theorem rgTText_39 : ∀ r s tm, cTText_39.run r tm s = xLenS (gp 0 tm) fun v1 => .nrm (sp 26 (V.nat .i64 0) (sp 25 v1 (sp 24 (gp 0 tm) tm))) s := reg1 3
theorem rgTText_43 : ∀ r s tm, cTText_43.run r tm s = xBin ⟨9, []⟩ false .lss (gp 26 tm) (gp 25 tm) fun v0 => .nrm (sp 27 v0 tm) s := reg1 1
theorem rgTText_51 : ∀ r s tm, cTText_51.run r tm s = xIdxAddrS 4 (gp 24 tm) (gp 26 tm) fun v0 => xLoad true 4 v0 s fun v1 s => Go.Ev.newRow s 34 [(V.nat .i64 0), (V.nil 1), (V.nil 1), (V.nil 1)] false fun a2k _ s => xStore 4 (V.ptr a2k 0 0) v1 s fun _ s => .nrm (sp 11 (V.ptr a2k 0 0) tm) s := reg1 4
theorem rgTText_53 : ∀ r s tm, cTText_53.run r tm s = xFieldAddr 1 (gp 11 tm) fun v1 => xLoad false 1 v1 s fun v2 s => foldF (r.call 9 [(gp 1 tm), v2] s) fun v3 s => xExtract 0 v3 fun v5 => xExtract 1 v3 fun v6 => .nrm (sp 13 v6 (sp 12 v5 tm)) s := reg1 9
theorem rgTText_55 : ∀ r s tm, cTText_55.run r tm s = xFieldAddr 2 (gp 11 tm) fun v1 => xLoad false 1 v1 s fun v2 s => foldF (r.call 9 [(gp 1 tm), v2] s) fun v3 s => xExtract 0 v3 fun v5 => xExtract 1 v3 fun v6 => .nrm (sp 15 v6 (sp 14 v5 tm)) s := reg1 9
theorem rgTText_58 : ∀ r s tm, cTText_58.run r tm s = (qTText_58_0 (qTText_58_3 (qTText_58_5 nilL))).run r tm [] s := reg_run (by kernel_rfl) (chS rfl (by kernel_rfl) (chS rfl (by kernel_rfl) chL))
theorem rgTText_61 : ∀ r s tm, cTText_61.run r tm s = foldMin false [(gp 15 tm)] (gp 13 tm) fun v2 => .nrm (sp 5 v2 (sp 4 (V.str []) tm)) s := reg1 5
theorem rgTText_65 : ∀ r s tm, cTText_65.run r tm s = xFieldAddr 0 (gp 11 tm) fun v1 => xLoad false 1 v1 s fun v2 s => callV r (gp 9 tm) [v2] tm s fun v3 s => xBin ⟨9, []⟩ false .add v3 (V.str [58, 32]) fun v4 => xBin ⟨9, []⟩ false .add v4 (gp 12 tm) fun v6 => xBin ⟨9, []⟩ false .add v6 (V.str [32, 45, 62, 32]) fun v7 => xBin ⟨9, []⟩ false .add v7 (gp 14 tm) fun v9 => foldF (r.call 20 [(gp 8 tm), v9] s) fun _ s => .nrm tm s := reg1 11
theorem rgTText_68 : ∀ r s tm, cTText_68.run r tm s = xFieldAddr 3 (gp 11 tm) fun v0 => xLoad false 1 v0 s fun v1 s => xLenS v1 fun v2 => .nrm (sp 31 (V.nat .i64 0) (sp 30 v2 (sp 29 v1 tm))) s := reg1 4
theorem rgTText_72 : ∀ r s tm, cTText_72.run r tm s = xBin ⟨9, []⟩ false .lss (gp 31 tm) (gp 30 tm) fun v0 => .nrm (sp 32 v0 tm) s := reg1 1
theorem rgTText_80 : ∀ r s tm, cTText_80.run r tm s = xIdxAddrS 3 (gp 29 tm) (gp 31 tm) fun v0 => xLoad true 3 v0 s fun v1 s => Go.Ev.newRow s 59 [(V.nat .i64 0), (V.nat .i64 0), (V.nat .i64 0)] false fun a2k _ s => xStore 3 (V.ptr a2k 0 0) v1 s fun _ s => .nrm (sp 17 (V.ptr a2k 0 0) tm) s := reg1 4
theorem rgTText_81 : ∀ r s tm, cTText_81.run r tm s = xFieldAddr 0 (gp 17 tm) fun v1 => xLoad false 1 v1 s fun v2 s => xFieldAddr 1 (gp 17 tm) fun v4 => xLoad false 1 v4 s fun v5 s => xFieldAddr 2 (gp 17 tm) fun v7 => xLoad false 1 v7 s fun v8 s => callV r.det (gp 9 tm) [v2] tm s fun v9 s => xLoad false 1 v4 s fun v10 s => boolA (beqV v10 v5) (xLoad false 1 v7 s fun v11 s => boolA (beqV v11 v8) (xBin ⟨9, []⟩ false .add (V.str [32, 40]) v9 fun v12 => xBin ⟨9, []⟩ false .add v12 (V.str [45]) fun v13 => callV r.det (gp 9 tm) [v5] tm s fun v14 s => xLoad false 1 v7 s fun v15 s => boolA (beqV v15 v8) (xBin ⟨9, []⟩ false .add v13 v14 fun v16 => xBin ⟨9, []⟩ false .add v16 (V.str [32]) fun v17 => callV r.det (gp 9 tm) [v8] tm s fun v18 s => xBin ⟨9, []⟩ false .add v17 v18 fun v19 => xBin ⟨9, []⟩ false .add v19 (V.str [41]) fun v20 => foldF (r.det.call 20 [(gp 8 tm), v20] s) fun _ s => .nrm tm s) (.bad 194)) (.bad 194)) (.bad 194) := dreg1 22
theorem rgTText_82 : ∀ r s tm, cTText_82.run r tm s = xBin ⟨9, []⟩ false .add (gp 31 tm) (V.nat .i64 1) fun v0 => .nrm (sp 31 v0 tm) s := reg1 2
theorem rgTText_84 : ∀ r s tm, cTText_84.run r tm s = foldF (r.call 20 [(gp 8 tm), (V.str [10])] s) fun _ s => .nrm tm s := reg1 1
theorem rgTText_86 : ∀ r s tm, cTText_86.run r tm s = foldF (r.call 21 [(gp 8 tm)] s) fun v0 s => xBin ⟨9, []⟩ false .gtr v0 (V.nat .i64 16384) fun v1 => .nrm (sp 33 v1 tm) s := reg1 2
theorem rgTText_89 : ∀ r s tm, cTText_89.run r tm s = .nrm (sp 5 (V.nat .i64 2) (sp 4 (V.str []) tm)) s := reg1 2
theorem rgTText_92 : ∀ r s tm, cTText_92.run r tm s = xBin ⟨9, []⟩ false .add (gp 26 tm) (V.nat .i64 1) fun v0 => .nrm (sp 26 v0 tm) s := reg1 2
theorem rgTText_94 : ∀ r s tm, cTText_94.run r tm s = foldF (r.call 22 [(gp 8 tm)] s) fun v0 s => .nrm (sp 5 (V.nat .i64 0) (sp 4 v0 tm)) s := reg1 3
theorem szTText_14 : sizeC uTText_14 = 42 := by kernel_rfl
theorem szTText_70 : sizeC uTText_70 = 39 := by kernel_rfl
theorem szTText_41 : sizeC uTText_41 = 134 := by kernel_rfl
theorem lpTText_14 : ∀ r s tm, cTText_14.run r tm s = seqA (fun tm s => r.code fiTText uTText_14 tm s) (seqA (fun tm s => seqA (fun tm s => seqA (fun tm s => cTText_32.run r tm s) (blockA 1 (seqA (fun tm s => seqA (fun tm s => condV (gp 23 tm) (seqA (fun tm s => .ret tm s) (cTText_29.run r tm s)) (.nrm tm s)) (cTText_26.run r tm s)) (cTText_24.run r tm s)))) (condV (gp 22 tm) (.nrm tm s) (.ext 0 tm s))) (cTText_16.run r tm s)) := by intros; kernel_rfl
theorem lpTText_70 : ∀ r s tm, cTText_70.run r tm s = seqA (fun tm s => r.code fiTText uTText_70 tm s) (seqA (fun tm s => seqA (fun tm s => seqA (fun tm s => cTText_82.run r tm s) (blockA 5 (seqA (fun tm s => cTText_81.run r tm s) (cTText_80.run r tm s)))) (condV (gp 32 tm) (.nrm tm s) (.ext 4 tm s))) (cTText_72.run r tm s)) := by intros; kernel_rfl
theorem lpTText_41 : ∀ r s tm, cTText_41.run r tm s = seqA (fun tm s => r.code fiTText uTText_41 tm s) (seqA (fun tm s => seqA (fun tm s => seqA (fun tm s => cTText_92.run r tm s) (blockA 3 (seqA (fun tm s => seqA (fun tm s => seqA (fun tm s => seqA (fun tm s => seqA (fun tm s => seqA (fun tm s => seqA (fun tm s => seqA (fun tm s => condV (gp 33 tm) (seqA (fun tm s => .ret tm s) (cTText_89.run r tm s)) (.nrm tm s)) (cTText_86.run r tm s)) (cTText_84.run r tm s)) (seqA (fun tm s => blockA 4 (cTText_70.run r tm s)) (cTText_68.run r tm s))) (cTText_65.run r tm s)) (seqA (fun tm s => condV (gp 28 tm) (seqA (fun tm s => .ret tm s) (cTText_61.run r tm s)) (.nrm tm s)) (cTText_58.run r tm s))) (cTText_55.run r tm s)) (cTText_53.run r tm s)) (cTText_51.run r tm s)))) (condV (gp 27 tm) (.nrm tm s) (.ext 2 tm s))) (cTText_43.run r tm s)) := by intros; kernel_rfl
theorem allTText : type_of% (And.intro rgTText_1 <| And.intro rgTText_4 <| And.intro rgTText_7 <| And.intro rgTText_12 <| And.intro rgTText_16 <| And.intro rgTText_24 <| And.intro rgTText_26 <| And.intro rgTText_29 <| And.intro rgTText_32 <| And.intro rgTText_34 <| And.intro rgTText_36 <| And.intro rgTText_39 <| And.intro rgTText_43 <| And.intro rgTText_51 <| And.intro rgTText_53 <| And.intro rgTText_55 <| And.intro rgTText_58 <| And.intro rgTText_61 <| And.intro rgTText_65 <| And.intro rgTText_68 <| And.intro rgTText_72 <| And.intro rgTText_80 <| And.intro rgTText_81 <| And.intro rgTText_82 <| And.intro rgTText_84 <| And.intro rgTText_86 <| And.intro rgTText_89 <| And.intro rgTText_92 <| And.intro rgTText_94 <| eTTextx) := And.intro rgTText_1 <| And.intro rgTText_4 <| And.intro rgTText_7 <| And.intro rgTText_12 <| And.intro rgTText_16 <| And.intro rgTText_24 <| And.intro rgTText_26 <| And.intro rgTText_29 <| And.intro rgTText_32 <| And.intro rgTText_34 <| And.intro rgTText_36 <| And.intro rgTText_39 <| And.intro rgTText_43 <| And.intro rgTText_51 <| And.intro rgTText_53 <| And.intro rgTText_55 <| And.intro rgTText_58 <| And.intro rgTText_61 <| And.intro rgTText_65 <| And.intro rgTText_68 <| And.intro rgTText_72 <| And.intro rgTText_80 <| And.intro rgTText_81 <| And.intro rgTText_82 <| And.intro rgTText_84 <| And.intro rgTText_86 <| And.intro rgTText_89 <| And.intro rgTText_92 <| And.intro rgTText_94 <| eTTextx
/- abugida/trace.word: parameters 2, slots in the frame: [(0, 0), (1, 1), (2, 2), (3, 3), (4, 4)] -/
def fiTWord : FI := ⟨16352, 14, 6⟩
noncomputable def bodyTWord := bodyOf Tryz.prog 17
noncomputable def cTWord_1 := comp pc0 fiTWord (subC [0] bodyTWord)
noncomputable def uTWord_3 := subC [1, 0] bodyTWord
noncomputable def cTWord_3 := comp pc0 fiTWord uTWord_3
noncomputable def qTWord_3_8 := qOf pc0 fiTWord uTWord_3 8 2 [13, 12, 11, 10, 9, 8, 7, 6]
noncomputable def qTWord_3_4 := qOf pc0 fiTWord uTWord_3 4 4 [9, 8, 7, 6]
noncomputable def qTWord_3_0 := qOf pc0 fiTWord uTWord_3 0 4 []
noncomputable def cTWord_0 := comp pc0 fiTWord bodyTWord
noncomputable def finTWord := finN (resC pc0 fiTWord (resOf Tryz.prog 17)).run
theorem eTWordx :
 (((∀ r s x0 x1, (fnC pc0 17).run r [x0, x1] s = outF (bindR (fun tm s => finTWord tm s) (cTWord_0.run r (sp 1 x1 (sp 0 x0 T.new)) s))) ∧
 ((∀ s tm, finTWord tm s = finV (gp 240 tm) (resV [(gp 4 tm)] s)) ∧
 (∀ r s tm, cTWord_0.run r tm s = seqA (fun tm s => seqA (fun tm s => .ret tm s) (cTWord_3.run r tm s)) (cTWord_1.run r tm s)))) ∧
 (((∀ g r s tm le, (qTWord_3_0 g).run r tm (le) s = xLenS (gp 0 tm) fun v1 => xBin ⟨9, []⟩ false .leq v1 (V.nat .i64 200) fun v2 => g.run r tm (v2 :: v2 :: v1 :: (gp 0 tm) :: le) s) ∧
 (∀ g r s tm le, (qTWord_3_4 g).run r tm ((.bool true) :: le) s = foldF (r.call 46 [(gp 0 tm), (V.fn (.func 47) [] [(gp 3 tm)])] s) fun v6 s => xUn .not v6 fun v7 => g.run r tm (v7 :: v6 :: (V.fn (.func 47) [] [(gp 3 tm)]) :: (gp 0 tm) :: (.bool true) :: le) s)) ∧
 ((∀ g r s tm le, (qTWord_3_4 g).run r tm ((.bool false) :: le) s = g.run r tm (Go.Ev.undef :: Go.Ev.undef :: Go.Ev.undef :: Go.Ev.undef :: (.bool false) :: le) s) ∧
 (∀ g r s tm le x0_ x1_ x2_ x3_ x4_, (qTWord_3_8 g).run r tm (x0_ :: x1_ :: x2_ :: x3_ :: x4_ :: le) s = xPick x4_ (fun _ => g.run r (sp 4 x0_ tm) (x0_ :: x0_ :: x0_ :: x1_ :: x2_ :: x3_ :: x4_ :: le) s) (fun _ => g.run r (sp 4 (V.bool false) tm) ((V.bool false) :: (V.bool false) :: x0_ :: x1_ :: x2_ :: x3_ :: x4_ :: le) s))))) := by
 and_intros <;> (intros; kernel_rfl)
theorem rgTWord_1 : ∀ r s tm, cTWord_1.run r tm s = cellsC 1 (gp 1 tm) fun l0 => Go.Ev.newRow s 3 l0 false fun a0k _ s => .nrm (sp 4 (V.bool false) (sp 3 (V.ptr a0k 0 0) tm)) s := reg1 2
theorem rgTWord_3 : ∀ r s tm, cTWord_3.run r tm s = (qTWord_3_0 (qTWord_3_4 (qTWord_3_8 nilL))).run r tm [] s := reg_run (by kernel_rfl) (chS rfl (by kernel_rfl) (chS rfl (by kernel_rfl) chL))
theorem allTWord : type_of% (And.intro rgTWord_1 <| And.intro rgTWord_3 <| eTWordx) := And.intro rgTWord_1 <| And.intro rgTWord_3 <| eTWordx
/- abugida/trace.Text$1: parameters 1, slots in the frame: [(0, 0), (1, 1), (2, 2)] -/
def fiTNum : FI := ⟨24, 5, 6⟩
noncomputable def bodyTNum := bodyOf Tryz.prog 18
noncomputable def cTNum_1 := comp pc0 fiTNum (subC [0] bodyTNum)
noncomputable def cTNum_3 := comp pc0 fiTNum (subC [1, 0] bodyTNum)
noncomputable def cTNum_0 := comp pc0 fiTNum bodyTNum
noncomputable def finTNum := finN (resC pc0 fiTNum (resOf Tryz.prog 18)).run
theorem eTNumx :
 ((∀ r s x0, (fnC pc0 18).run r [x0] s = outF (bindR (fun tm s => finTNum tm s) (cTNum_0.run r (sp 0 x0 T.new) s))) ∧
 ((∀ s tm, finTNum tm s = finV (gp 240 tm) (resV [(gp 2 tm)] s)) ∧
 (∀ r s tm, cTNum_0.run r tm s = seqA (fun tm s => seqA (fun tm s => .ret tm s) (cTNum_3.run r tm s)) (cTNum_1.run r tm s)))) := by
 and_intros <;> (intros; kernel_rfl)
theorem rgTNum_1 : ∀ r s tm, cTNum_1.run r tm s = .nrm (sp 2 (V.str []) tm) s := reg1 1
theorem rgTNum_3 : ∀ r s tm, cTNum_3.run r tm s = foldF (r.call 19 [(gp 0 tm)] s) fun v1 s => .nrm (sp 2 v1 tm) s := reg1 3
theorem allTNum : type_of% (And.intro rgTNum_1 <| And.intro rgTNum_3 <| eTNumx) := And.intro rgTNum_1 <| And.intro rgTNum_3 <| eTNumx
/- strconv.Itoa: parameters 1, slots in the frame: [(0, 0), (1, 1), (2, 2)] -/
def fiItoa : FI := ⟨24, 5, 6⟩
noncomputable def bodyItoa := bodyOf Tryz.prog 19
noncomputable def cItoa_1 := comp pc0 fiItoa (subC [0] bodyItoa)
noncomputable def cItoa_3 := comp pc0 fiItoa (subC [1, 0] bodyItoa)
noncomputable def cItoa_0 := comp pc0 fiItoa bodyItoa
noncomputable def finItoa := finN (resC pc0 fiItoa (resOf Tryz.prog 19)).run
theorem eItoax :
 ((∀ r s x0, (fnC pc0 19).run r [x0] s = outF (bindR (fun tm s => finItoa tm s) (cItoa_0.run r (sp 0 x0 T.new) s))) ∧
 ((∀ s tm, finItoa tm s = finV (gp 240 tm) (resV [(gp 2 tm)] s)) ∧
 (∀ r s tm, cItoa_0.run r tm s = seqA (fun tm s => seqA (fun tm s => .ret tm s) (cItoa_3.run r tm s)) (cItoa_1.run r tm s)))) := by
 and_intros <;> (intros; kernel_rfl)
theorem rgItoa_1 : ∀ r s tm, cItoa_1.run r tm s = .nrm (sp 2 (V.str []) tm) s := reg1 1
theorem rgItoa_3 : ∀ r s tm, cItoa_3.run r tm s = foldF (r.call 48 [(gp 0 tm)] s) fun v1 s => .nrm (sp 2 v1 tm) s := reg1 3
theorem allItoa : type_of% (And.intro rgItoa_1 <| And.intro rgItoa_3 <| eItoax) := And.intro rgItoa_1 <| And.intro rgItoa_3 <| eItoax
/- slices.ContainsFunc[[]int,int]: parameters 2, slots in the frame: [(0, 0), (1, 1), (2, 2), (3, 3), (4, 4)] -/
def fiContainsFunc : FI := ⟨480, 9, 6⟩
noncomputable def bodyContainsFunc := bodyOf Tryz.prog 46
noncomputable def cContainsFunc_1 := comp pc0 fiContainsFunc (subC [0] bodyContainsFunc)
noncomputable def cContainsFunc_3 := comp pc0 fiContainsFunc (subC [1, 0] bodyContainsFunc)
noncomputable def cContainsFunc_0 := comp pc0 fiContainsFunc bodyContainsFunc
noncomputable def finContainsFunc := finN (resC pc0 fiContainsFunc (resOf Tryz.prog 46)).run
theorem eContainsFuncx :
 ((∀ r s x0 x1, (fnC pc0 46).run r [x0, x1] s = outF (bindR (fun tm s => finContainsFunc tm s) (cContainsFunc_0.run r (sp 1 x1 (sp 0 x0 T.new)) s))) ∧
 ((∀ s tm, finContainsFunc tm s = finV (gp 240 tm) (resV [(gp 4 tm)] s)) ∧
 (∀ r s tm, cContainsFunc_0.run r tm s = seqA (fun tm s => seqA (fun tm s => .ret tm s) (cContainsFunc_3.run r tm s)) (cContainsFunc_1.run r tm s)))) := by
 and_intros <;> (intros; kernel_rfl)
theorem rgContainsFunc_1 : ∀ r s tm, cContainsFunc_1.run r tm s = .nrm (sp 4 (V.bool false) tm) s := reg1 1
theorem rgContainsFunc_3 : ∀ r s tm, cContainsFunc_3.run r tm s = foldF (r.call 62 [(gp 0 tm), (gp 1 tm)] s) fun v2 s => xBin ⟨9, []⟩ false .geq v2 (V.nat .i64 0) fun v3 => .nrm (sp 4 v3 tm) s := reg1 5
theorem allContainsFunc : type_of% (And.intro rgContainsFunc_1 <| And.intro rgContainsFunc_3 <| eContainsFuncx) := And.intro rgContainsFunc_1 <| And.intro rgContainsFunc_3 <| eContainsFuncx
/- abugida/trace.word$1: parameters 1, slots in the frame: [(0, 0), (1, 1), (2, 2), (3, 3)] -/
def fiTWordC : FI := ⟨2032, 11, 6⟩
noncomputable def bodyTWordC := bodyOf Tryz.prog 47
noncomputable def cTWordC_1 := comp pc0 fiTWordC (subC [0] bodyTWordC)
noncomputable def uTWordC_3 := subC [1, 0] bodyTWordC
noncomputable def cTWordC_3 := comp pc0 fiTWordC uTWordC_3
noncomputable def qTWordC_3_6 := qOf pc0 fiTWordC uTWordC_3 6 2 [10, 9, 8, 7, 6, 5]
noncomputable def qTWordC_3_3 := qOf pc0 fiTWordC uTWordC_3 3 3 [7, 6, 5]
noncomputable def qTWordC_3_0 := qOf pc0 fiTWordC uTWordC_3 0 3 []
noncomputable def cTWordC_0 := comp pc0 fiTWordC bodyTWordC
noncomputable def finTWordC := finN (resC pc0 fiTWordC (resOf Tryz.prog 47)).run
theorem eTWordCx :
 (((∀ r s x0 x1, (fnC pc0 47).run r [x0, x1] s = outF (bindR (fun tm s => finTWordC tm s) (cTWordC_0.run r (sp 1 x1 (sp 0 x0 T.new)) s))) ∧
 ((∀ s tm, finTWordC tm s = finV (gp 240 tm) (resV [(gp 3 tm)] s)) ∧
 (∀ r s tm, cTWordC_0.run r tm s = seqA (fun tm s => seqA (fun tm s => .ret tm s) (cTWordC_3.run r tm s)) (cTWordC_1.run r tm s)))) ∧
 (((∀ g r s tm le, (qTWordC_3_0 g).run r tm (le) s = xBin ⟨9, []⟩ false .lss (gp 0 tm) (V.nat .i64 1) fun v1 => g.run r tm (v1 :: v1 :: (gp 0 tm) :: le) s) ∧
 (∀ g r s tm le, (qTWordC_3_3 g).run r tm ((.bool true) :: le) s = g.run r tm (Go.Ev.undef :: Go.Ev.undef :: Go.Ev.undef :: (.bool true) :: le) s)) ∧
 ((∀ g r s tm le, (qTWordC_3_3 g).run r tm ((.bool false) :: le) s = xLoad false 1 (gp 1 tm) s fun v4 s => xBin ⟨9, []⟩ false .gtr (gp 0 tm) v4 fun v5 => g.run r tm (v5 :: v4 :: (gp 0 tm) :: (.bool false) :: le) s) ∧
 (∀ g r s tm le x0_ x1_ x2_ x3_, (qTWordC_3_6 g).run r tm (x0_ :: x1_ :: x2_ :: x3_ :: le) s = xPick x3_ (fun _ => g.run r (sp 3 (V.bool true) tm) ((V.bool true) :: (V.bool true) :: x0_ :: x1_ :: x2_ :: x3_ :: le) s) (fun _ => g.run r (sp 3 x0_ tm) (x0_ :: x0_ :: x0_ :: x1_ :: x2_ :: x3_ :: le) s))))) := by
 and_intros <;> (intros; kernel_rfl)
theorem rgTWordC_1 : ∀ r s tm, cTWordC_1.run r tm s = .nrm (sp 3 (V.bool false) tm) s := reg1 1
theorem rgTWordC_3 : ∀ r s tm, cTWordC_3.run r tm s = (qTWordC_3_0 (qTWordC_3_3 (qTWordC_3_6 nilL))).run r tm [] s := reg_run (by kernel_rfl) (chS rfl (by kernel_rfl) (chS rfl (by kernel_rfl) chL))
theorem allTWordC : type_of% (And.intro rgTWordC_1 <| And.intro rgTWordC_3 <| eTWordCx) := And.intro rgTWordC_1 <| And.intro rgTWordC_3 <| eTWordCx
/- internal/strconv.Itoa: parameters 1, slots in the frame: [(0, 0), (1, 1), (2, 2)] -/
def fiIItoa : FI := ⟨24, 5, 6⟩
noncomputable def bodyIItoa := bodyOf Tryz.prog 48
noncomputable def cIItoa_1 := comp pc0 fiIItoa (subC [0] bodyIItoa)
noncomputable def cIItoa_3 := comp pc0 fiIItoa (subC [1, 0] bodyIItoa)
noncomputable def cIItoa_0 := comp pc0 fiIItoa bodyIItoa
noncomputable def finIItoa := finN (resC pc0 fiIItoa (resOf Tryz.prog 48)).run
theorem eIItoax :
 ((∀ r s x0, (fnC pc0 48).run r [x0] s = outF (bindR (fun tm s => finIItoa tm s) (cIItoa_0.run r (sp 0 x0 T.new) s))) ∧
 ((∀ s tm, finIItoa tm s = finV (gp 240 tm) (resV [(gp 2 tm)] s)) ∧
 (∀ r s tm, cIItoa_0.run r tm s = seqA (fun tm s => seqA (fun tm s => .ret tm s) (cIItoa_3.run r tm s)) (cIItoa_1.run r tm s)))) := by
 and_intros <;> (intros; kernel_rfl)
theorem rgIItoa_1 : ∀ r s tm, cIItoa_1.run r tm s = .nrm (sp 2 (V.str []) tm) s := reg1 1
theorem rgIItoa_3 : ∀ r s tm, cIItoa_3.run r tm s = foldF (r.call 63 [(gp 0 tm), (V.nat .i64 10)] s) fun v1 s => .nrm (sp 2 v1 tm) s := reg1 3
theorem allIItoa : type_of% (And.intro rgIItoa_1 <| And.intro rgIItoa_3 <| eIItoax) := And.intro rgIItoa_1 <| And.intro rgIItoa_3 <| eIItoax
/- slices.IndexFunc[[]int,int]: parameters 2, slots in the frame: [(0, 0), (1, 1), (2, 2), (3, 3), (4, 4), (5, 5), (6, 7), (7, 8), (8, 9), (9, 16)] -/
def fiIndexFunc : FI := ⟨457792, 19, 6⟩
noncomputable def bodyIndexFunc := bodyOf Tryz.prog 62
noncomputable def cIndexFunc_1 := comp pc0 fiIndexFunc (subC [0] bodyIndexFunc)
noncomputable def cIndexFunc_4 := comp pc0 fiIndexFunc (subC [1, 0, 0] bodyIndexFunc)
noncomputable def cIndexFunc_8 := comp pc0 fiIndexFunc (subC [1, 0, 1, 0, 0, 0] bodyIndexFunc)
noncomputable def cIndexFunc_16 := comp pc0 fiIndexFunc (subC [1, 0, 1, 0, 0, 1, 1, 0, 0, 0] bodyIndexFunc)
noncomputable def cIndexFunc_18 := comp pc0 fiIndexFunc (subC [1, 0, 1, 0, 0, 1, 1, 0, 0, 1, 0] bodyIndexFunc)
noncomputable def cIndexFunc_21 := comp pc0 fiIndexFunc (subC [1, 0, 1, 0, 0, 1, 1, 0, 0, 1, 1, 0, 0] bodyIndexFunc)
noncomputable def cIndexFunc_24 := comp pc0 fiIndexFunc (subC [1, 0, 1, 0, 0, 1, 1, 1] bodyIndexFunc)
noncomputable def uIndexFunc_6 := subC [1, 0, 1, 0] bodyIndexFunc
noncomputable def cIndexFunc_6 := comp pc0 fiIndexFunc uIndexFunc_6
noncomputable def cIndexFunc_26 := comp pc0 fiIndexFunc (subC [1, 1, 0] bodyIndexFunc)
noncomputable def cIndexFunc_0 := comp pc0 fiIndexFunc bodyIndexFunc
noncomputable def finIndexFunc := finN (resC pc0 fiIndexFunc (resOf Tryz.prog 62)).run
theorem eIndexFuncx :
 ((∀ r s x0 x1, (fnC pc0 62).run r [x0, x1] s = outF (bindR (fun tm s => finIndexFunc tm s) (cIndexFunc_0.run r (sp 1 x1 (sp 0 x0 T.new)) s))) ∧
 ((∀ s tm, finIndexFunc tm s = finV (gp 240 tm) (resV [(gp 4 tm)] s)) ∧
 (∀ r s tm, cIndexFunc_0.run r tm s = seqA (fun tm s => seqA (fun tm s => seqA (fun tm s => .ret tm s) (cIndexFunc_26.run r tm s)) (seqA (fun tm s => blockA 0 (cIndexFunc_6.run r tm s)) (cIndexFunc_4.run r tm s))) (cIndexFunc_1.run r tm s)))) := by
 and_intros <;> (intros; kernel_rfl)
theorem rgIndexFunc_1 : ∀ r s tm, cIndexFunc_1.run r tm s = .nrm (sp 4 (V.nat .i64 0) tm) s := reg1 1
theorem rgIndexFunc_4 : ∀ r s tm, cIndexFunc_4.run r tm s = xLenS (gp 0 tm) fun v1 => .nrm (sp 7 (V.nat .i64 0) (sp 6 v1 tm)) s := reg1 3
theorem rgIndexFunc_8 : ∀ r s tm, cIndexFunc_8.run r tm s = xBin ⟨9, []⟩ false .lss (gp 7 tm) (gp 6 tm) fun v0 => .nrm (sp 8 v0 tm) s := reg1 1
theorem rgIndexFunc_16 : ∀ r s tm, cIndexFunc_16.run r tm s = .nrm (sp 5 (gp 7 tm) tm) s := reg1 2
theorem rgIndexFunc_18 : ∀ r s tm, cIndexFunc_18.run r tm s = xIdxAddrS 1 (gp 0 tm) (gp 5 tm) fun v3 => xLoad false 1 v3 s fun v4 s => callV r (gp 1 tm) [v4] tm s fun v5 s => .nrm (sp 9 v5 tm) s := reg1 6
theorem rgIndexFunc_21 : ∀ r s tm, cIndexFunc_21.run r tm s = .nrm (sp 4 (gp 5 tm) tm) s := reg1 2
theorem rgIndexFunc_24 : ∀ r s tm, cIndexFunc_24.run r tm s = xBin ⟨9, []⟩ false .add (gp 7 tm) (V.nat .i64 1) fun v0 => .nrm (sp 7 v0 tm) s := reg1 2
theorem rgIndexFunc_26 : ∀ r s tm, cIndexFunc_26.run r tm s = .nrm (sp 4 (V.neg .i64 0) tm) s := reg1 1
theorem szIndexFunc_6 : sizeC uIndexFunc_6 = 32 := by kernel_rfl
theorem lpIndexFunc_6 : ∀ r s tm, cIndexFunc_6.run r tm s = seqA (fun tm s => r.code fiIndexFunc uIndexFunc_6 tm s) (seqA (fun tm s => seqA (fun tm s => seqA (fun tm s => cIndexFunc_24.run r tm s) (blockA 1 (seqA (fun tm s => seqA (fun tm s => condV (gp 9 tm) (seqA (fun tm s => .ret tm s) (cIndexFunc_21.run r tm s)) (.nrm tm s)) (cIndexFunc_18.run r tm s)) (cIndexFunc_16.run r tm s)))) (condV (gp 8 tm) (.nrm tm s) (.ext 0 tm s))) (cIndexFunc_8.run r tm s)) := by intros; kernel_rfl
theorem allIndexFunc : type_of% (And.intro rgIndexFunc_1 <| And.intro rgIndexFunc_4 <| And.intro rgIndexFunc_8 <| And.intro rgIndexFunc_16 <| And.intro rgIndexFunc_18 <| And.intro rgIndexFunc_21 <| And.intro rgIndexFunc_24 <| And.intro rgIndexFunc_26 <| eIndexFuncx) := And.intro rgIndexFunc_1 <| And.intro rgIndexFunc_4 <| And.intro rgIndexFunc_8 <| And.intro rgIndexFunc_16 <| And.intro rgIndexFunc_18 <| And.intro rgIndexFunc_21 <| And.intro rgIndexFunc_24 <| And.intro rgIndexFunc_26 <| eIndexFuncx
/- internal/strconv.FormatInt: parameters 2, slots in the frame: [(0, 0), (1, 1), (2, 2), (3, 3), (4, 4), (5, 5), (6, 6), (7, 7), (8, 9), (9, 11), (10, 17), (11, 23), (12, 34)] -/
def fiFmtInt : FI := ⟨18014381321090304, 54, 6⟩
noncomputable def bodyFmtInt := bodyOf Tryz.prog 63
noncomputable def cFmtInt_1 := comp pc0 fiFmtInt (subC [0] bodyFmtInt)
noncomputable def cFmtInt_4 := comp pc0 fiFmtInt (subC [1, 0, 0] bodyFmtInt)
noncomputable def uFmtInt_8 := subC [1, 0, 1, 0, 0, 0] bodyFmtInt
noncomputable def cFmtInt_8 := comp pc0 fiFmtInt uFmtInt_8
noncomputable def qFmtInt_8_5 := qOf pc0 fiFmtInt uFmtInt_8 5 1 [17, 16, 15, 14, 13]
noncomputable def qFmtInt_8_3 := qOf pc0 fiFmtInt uFmtInt_8 3 2 [15, 14, 13]
noncomputable def qFmtInt_8_0 := qOf pc0 fiFmtInt uFmtInt_8 0 3 []
noncomputable def cFmtInt_11 := comp pc0 fiFmtInt (subC [1, 0, 1, 0, 0, 1, 0, 0] bodyFmtInt)
noncomputable def cFmtInt_15 := comp pc0 fiFmtInt (subC [1, 0, 1, 0, 1, 0] bodyFmtInt)
noncomputable def cFmtInt_17 := comp pc0 fiFmtInt (subC [1, 0, 1, 0, 1, 1, 0] bodyFmtInt)
noncomputable def cFmtInt_20 := comp pc0 fiFmtInt (subC [1, 0, 1, 0, 1, 1, 1, 0, 0] bodyFmtInt)
noncomputable def cFmtInt_22 := comp pc0 fiFmtInt (subC [1, 0, 1, 0, 1, 1, 1, 0, 1, 0] bodyFmtInt)
noncomputable def cFmtInt_25 := comp pc0 fiFmtInt (subC [1, 0, 1, 0, 1, 1, 1, 1, 0] bodyFmtInt)
noncomputable def cFmtInt_27 := comp pc0 fiFmtInt (subC [1, 0, 1, 0, 1, 1, 1, 1, 1, 0] bodyFmtInt)
noncomputable def cFmtInt_30 := comp pc0 fiFmtInt (subC [1, 0, 1, 0, 1, 1, 1, 1, 1, 1, 0, 0] bodyFmtInt)
noncomputable def cFmtInt_33 := comp pc0 fiFmtInt (subC [1, 0, 1, 0, 1, 1, 1, 1, 1, 1, 0, 1, 0, 0] bodyFmtInt)
noncomputable def cFmtInt_35 := comp pc0 fiFmtInt (subC [1, 0, 1, 0, 1, 1, 1, 1, 1, 1, 0, 1, 0, 1, 0] bodyFmtInt)
noncomputable def cFmtInt_39 := comp pc0 fiFmtInt (subC [1, 0, 1, 0, 1, 1, 1, 1, 1, 1, 1, 0] bodyFmtInt)
noncomputable def cFmtInt_43 := comp pc0 fiFmtInt (subC [1, 1, 0] bodyFmtInt)
noncomputable def cFmtInt_45 := comp pc0 fiFmtInt (subC [1, 1, 1, 0] bodyFmtInt)
noncomputable def cFmtInt_0 := comp pc0 fiFmtInt bodyFmtInt
noncomputable def finFmtInt := finN (resC pc0 fiFmtInt (resOf Tryz.prog 63)).run
theorem eFmtIntx :
 (((∀ r s x0 x1, (fnC pc0 63).run r [x0, x1] s = outF (bindR (fun tm s => finFmtInt tm s) (cFmtInt_0.run r (sp 1 x1 (sp 0 x0 T.new)) s))) ∧
 ((∀ s tm, finFmtInt tm s = finV (gp 240 tm) (resV [(gp 4 tm)] s)) ∧
 (∀ r s tm, cFmtInt_0.run r tm s = seqA (fun tm s => seqA (fun tm s => seqA (fun tm s => seqA (fun tm s => .ret tm s) (cFmtInt_45.run r tm s)) (cFmtInt_43.run r tm s)) (seqA (fun tm s => condV (gp 9 tm) (seqA (fun tm s => seqA (fun tm s => seqA (fun tm s => seqA (fun tm s => seqA (fun tm s => seqA (fun tm s => seqA (fun tm s => seqA (fun tm s => .ret tm s) (cFmtInt_39.run r tm s)) (seqA (fun tm s => condV (gp 12 tm) (seqA (fun tm s => seqA (fun tm s => .ret tm s) (cFmtInt_35.run r tm s)) (cFmtInt_33.run r tm s)) (.nrm tm s)) (cFmtInt_30.run r tm s))) (cFmtInt_27.run r tm s)) (cFmtInt_25.run r tm s)) (seqA (fun tm s => condV (gp 11 tm) (cFmtInt_22.run r tm s) (.nrm tm s)) (cFmtInt_20.run r tm s))) (cFmtInt_17.run r tm s)) (cFmtInt_15.run r tm s)) (seqA (fun tm s => condV (gp 10 tm) (seqA (fun tm s => .ret tm s) (cFmtInt_11.run r tm s)) (.nrm tm s)) (cFmtInt_8.run r tm s))) (.nrm tm s)) (cFmtInt_4.run r tm s))) (cFmtInt_1.run r tm s)))) ∧
 (((∀ g r s tm le, (qFmtInt_8_0 g).run r tm (le) s = xBin ⟨9, []⟩ false .leq (V.nat .i64 0) (gp 0 tm) fun v1 => g.run r tm (v1 :: v1 :: (gp 0 tm) :: le) s) ∧
 (∀ g r s tm le, (qFmtInt_8_3 g).run r tm ((.bool true) :: le) s = xBin ⟨9, []⟩ false .lss (gp 0 tm) (V.nat .i64 100) fun v4 => g.run r tm (v4 :: (gp 0 tm) :: (.bool true) :: le) s)) ∧
 ((∀ g r s tm le, (qFmtInt_8_3 g).run r tm ((.bool false) :: le) s = g.run r tm (Go.Ev.undef :: Go.Ev.undef :: (.bool false) :: le) s) ∧
 (∀ g r s tm le x0_ x1_ x2_, (qFmtInt_8_5 g).run r tm (x0_ :: x1_ :: x2_ :: le) s = xPick x2_ (fun _ => g.run r (sp 10 x0_ tm) (x0_ :: x0_ :: x1_ :: x2_ :: le) s) (fun _ => g.run r (sp 10 (V.bool false) tm) ((V.bool false) :: x0_ :: x1_ :: x2_ :: le) s))))) := by
 and_intros <;> (intros; kernel_rfl)
theorem rgFmtInt_1 : ∀ r s tm, cFmtInt_1.run r tm s = .nrm (sp 4 (V.str []) tm) s := reg1 1
theorem rgFmtInt_4 : ∀ r s tm, cFmtInt_4.run r tm s = xBin ⟨7, []⟩ true .eql (gp 1 tm) (V.nat .i64 10) fun v1 => .nrm (sp 9 v1 tm) s := reg1 2
theorem rgFmtInt_8 : ∀ r s tm, cFmtInt_8.run r tm s = (qFmtInt_8_0 (qFmtInt_8_3 (qFmtInt_8_5 nilL))).run r tm [] s := reg_run (by kernel_rfl) (chS rfl (by kernel_rfl) (chS rfl (by kernel_rfl) chL))
theorem rgFmtInt_11 : ∀ r s tm, cFmtInt_11.run r tm s = foldF (r.call 83 [(gp 0 tm)] s) fun v1 s => .nrm (sp 4 v1 tm) s := reg1 3
theorem rgFmtInt_15 : ∀ r s tm, cFmtInt_15.run r tm s = Go.Ev.newRow s 139 [(V.nat .u8 0), (V.nat .u8 0), (V.nat .u8 0), (V.nat .u8 0), (V.nat .u8 0), (V.nat .u8 0), (V.nat .u8 0), (V.nat .u8 0), (V.nat .u8 0), (V.nat .u8 0), (V.nat .u8 0), (V.nat .u8 0), (V.nat .u8 0), (V.nat .u8 0), (V.nat .u8 0), (V.nat .u8 0), (V.nat .u8 0), (V.nat .u8 0), (V.nat .u8 0), (V.nat .u8 0), (V.nat .u8 0), (V.nat .u8 0), (V.nat .u8 0), (V.nat .u8 0)] false fun a0k _ s => .nrm (sp 5 (V.ptr a0k 0 0) tm) s := reg1 1
theorem rgFmtInt_17 : ∀ r s tm, cFmtInt_17.run r tm s = xIntConv .u64 (gp 0 tm) fun v1 => .nrm (sp 6 v1 tm) s := reg1 3
theorem rgFmtInt_20 : ∀ r s tm, cFmtInt_20.run r tm s = xBin ⟨9, []⟩ false .lss (gp 0 tm) (V.nat .i64 0) fun v1 => .nrm (sp 11 v1 tm) s := reg1 2
theorem rgFmtInt_22 : ∀ r s tm, cFmtInt_22.run r tm s = xUn .neg (gp 6 tm) fun v1 => .nrm (sp 6 v1 tm) s := reg1 3
theorem rgFmtInt_25 : ∀ r s tm, cFmtInt_25.run r tm s = foldF (r.call 84 [(gp 6 tm)] s) fun v1 s => .nrm (sp 7 v1 tm) s := reg1 3
theorem rgFmtInt_27 : ∀ r s tm, cFmtInt_27.run r tm s = xBin ⟨9, []⟩ false .add (V.nat .i64 1) (gp 7 tm) fun v1 => xSliceA 1 24 (gp 5 tm) (some (V.nat .i64 1)) (some v1) none fun v2 => foldF (r.call 85 [v2, (gp 6 tm)] s) fun _ s => .nrm tm s := reg1 5
theorem rgFmtInt_30 : ∀ r s tm, cFmtInt_30.run r tm s = xBin ⟨9, []⟩ false .lss (gp 0 tm) (V.nat .i64 0) fun v1 => .nrm (sp 12 v1 tm) s := reg1 2
theorem rgFmtInt_33 : ∀ r s tm, cFmtInt_33.run r tm s = xIdxAddrA 24 1 (gp 5 tm) (V.nat .i64 0) fun v0 => xStore 1 v0 (V.nat .u8 45) s fun _ s => .nrm tm s := reg1 2
theorem rgFmtInt_35 : ∀ r s tm, cFmtInt_35.run r tm s = xBin ⟨9, []⟩ false .add (V.nat .i64 1) (gp 7 tm) fun v1 => xSliceA 1 24 (gp 5 tm) none (some v1) none fun v2 => xStrOf v2 s fun v3 => .nrm (sp 4 v3 tm) s := reg1 5
theorem rgFmtInt_39 : ∀ r s tm, cFmtInt_39.run r tm s = xBin ⟨9, []⟩ false .add (V.nat .i64 1) (gp 7 tm) fun v1 => xSliceA 1 24 (gp 5 tm) (some (V.nat .i64 1)) (some v1) none fun v2 => xStrOf v2 s fun v3 => .nrm (sp 4 v3 tm) s := reg1 5
theorem rgFmtInt_43 : ∀ r s tm, cFmtInt_43.run r tm s = xIntConv .u64 (gp 0 tm) fun v1 => xBin ⟨9, []⟩ false .lss (gp 0 tm) (V.nat .i64 0) fun v4 => foldF (r.call 86 [(V.nil 1), v1, (gp 1 tm), v4, (V.bool false)] s) fun v5 s => xExtract 0 v5 fun _ => xExtract 1 v5 fun v8 => .nrm (sp 8 v8 tm) s := reg1 11
theorem rgFmtInt_45 : ∀ r s tm, cFmtInt_45.run r tm s = .nrm (sp 4 (gp 8 tm) tm) s := reg1 2
theorem allFmtInt : type_of% (And.intro rgFmtInt_1 <| And.intro rgFmtInt_4 <| And.intro rgFmtInt_8 <| And.intro rgFmtInt_11 <| And.intro rgFmtInt_15 <| And.intro rgFmtInt_17 <| And.intro rgFmtInt_20 <| And.intro rgFmtInt_22 <| And.intro rgFmtInt_25 <| And.intro rgFmtInt_27 <| And.intro rgFmtInt_30 <| And.intro rgFmtInt_33 <| And.intro rgFmtInt_35 <| And.intro rgFmtInt_39 <| And.intro rgFmtInt_43 <| And.intro rgFmtInt_45 <| eFmtIntx) := And.intro rgFmtInt_1 <| And.intro rgFmtInt_4 <| And.intro rgFmtInt_8 <| And.intro rgFmtInt_11 <| And.intro rgFmtInt_15 <| And.intro rgFmtInt_17 <| And.intro rgFmtInt_20 <| And.intro rgFmtInt_22 <| And.intro rgFmtInt_25 <| And.intro rgFmtInt_27 <| And.intro rgFmtInt_30 <| And.intro rgFmtInt_33 <| And.intro rgFmtInt_35 <| And.intro rgFmtInt_39 <| And.intro rgFmtInt_43 <| And.intro rgFmtInt_45 <| eFmtIntx
/- internal/strconv.small: parameters 1, slots in the frame: [(0, 0), (1, 1), (2, 2), (3, 4)] -/
def fiSmall : FI := ⟨32744, 15, 6⟩
noncomputable def bodySmall := bodyOf Tryz.prog 83
noncomputable def cSmall_1 := comp pc0 fiSmall (subC [0] bodySmall)
noncomputable def cSmall_4 := comp pc0 fiSmall (subC [1, 0, 0] bodySmall)
noncomputable def cSmall_7 := comp pc0 fiSmall (subC [1, 0, 1, 0, 0] bodySmall)
noncomputable def cSmall_11 := comp pc0 fiSmall (subC [1, 1, 0] bodySmall)
noncomputable def cSmall_0 := comp pc0 fiSmall bodySmall
noncomputable def finSmall := finN (resC pc0 fiSmall (resOf Tryz.prog 83)).run
theorem eSmallx :
 ((∀ r s x0, (fnC pc0 83).run r [x0] s = outF (bindR (fun tm s => finSmall tm s) (cSmall_0.run r (sp 0 x0 T.new) s))) ∧
 ((∀ s tm, finSmall tm s = finV (gp 240 tm) (resV [(gp 2 tm)] s)) ∧
 (∀ r s tm, cSmall_0.run r tm s = seqA (fun tm s => seqA (fun tm s => seqA (fun tm s => .ret tm s) (cSmall_11.run r tm s)) (seqA (fun tm s => condV (gp 3 tm) (seqA (fun tm s => .ret tm s) (cSmall_7.run r tm s)) (.nrm tm s)) (cSmall_4.run r tm s))) (cSmall_1.run r tm s)))) := by
 and_intros <;> (intros; kernel_rfl)
theorem rgSmall_1 : ∀ r s tm, cSmall_1.run r tm s = .nrm (sp 2 (V.str []) tm) s := reg1 1
theorem rgSmall_4 : ∀ r s tm, cSmall_4.run r tm s = xBin ⟨9, []⟩ false .lss (gp 0 tm) (V.nat .i64 10) fun v1 => .nrm (sp 3 v1 tm) s := reg1 2
theorem rgSmall_7 : ∀ r s tm, cSmall_7.run r tm s = xBin ⟨9, []⟩ false .add (gp 0 tm) (V.nat .i64 1) fun v2 => xSliceT (V.str [48, 49, 50, 51, 52, 53, 54, 55, 56, 57, 97, 98, 99, 100, 101, 102, 103, 104, 105, 106, 107, 108, 109, 110, 111, 112, 113, 114, 115, 116, 117, 118, 119, 120, 121, 122]) (some (gp 0 tm)) (some v2) fun v3 => .nrm (sp 2 v3 tm) s := reg1 5
theorem rgSmall_11 : ∀ r s tm, cSmall_11.run r tm s = xBin ⟨9, []⟩ false .mul (gp 0 tm) (V.nat .i64 2) fun v1 => xBin ⟨9, []⟩ false .mul (gp 0 tm) (V.nat .i64 2) fun v3 => xBin ⟨9, []⟩ false .add v3 (V.nat .i64 2) fun v4 => xSliceT (V.str [48, 48, 48, 49, 48, 50, 48, 51, 48, 52, 48, 53, 48, 54, 48, 55, 48, 56, 48, 57, 49, 48, 49, 49, 49, 50, 49, 51, 49, 52, 49, 53, 49, 54, 49, 55, 49, 56, 49, 57, 50, 48, 50, 49, 50, 50, 50, 51, 50, 52, 50, 53, 50, 54, 50, 55, 50, 56, 50, 57, 51, 48, 51, 49, 51, 50, 51, 51, 51, 52, 51, 53, 51, 54, 51, 55, 51, 56, 51, 57, 52, 48, 52, 49, 52, 50, 52, 51, 52, 52, 52, 53, 52, 54, 52, 55, 52, 56, 52, 57, 53, 48, 53, 49, 53, 50, 53, 51, 53, 52, 53, 53, 53, 54, 53, 55, 53, 56, 53, 57, 54, 48, 54, 49, 54, 50, 54, 51, 54, 52, 54, 53, 54, 54, 54, 55, 54, 56, 54, 57, 55, 48, 55, 49, 55, 50, 55, 51, 55, 52, 55, 53, 55, 54, 55, 55, 55, 56, 55, 57, 56, 48, 56, 49, 56, 50, 56, 51, 56, 52, 56, 53, 56, 54, 56, 55, 56, 56, 56, 57, 57, 48, 57, 49, 57, 50, 57, 51, 57, 52, 57, 53, 57, 54, 57, 55, 57, 56, 57, 57]) (some v1) (some v4) fun v5 => .nrm (sp 2 v5 tm) s := reg1 7
theorem allSmall : type_of% (And.intro rgSmall_1 <| And.intro rgSmall_4 <| And.intro rgSmall_7 <| And.intro rgSmall_11 <| eSmallx) := And.intro rgSmall_1 <| And.intro rgSmall_4 <| And.intro rgSmall_7 <| And.intro rgSmall_11 <| eSmallx
/- internal/strconv.formatBase10: parameters 2, slots in the frame: [(0, 0), (1, 1), (2, 2), (3, 3), (4, 4), (5, 5), (6, 6), (7, 7), (8, 8), (9, 9), (10, 10), (11, 11), (12, 12), (13, 13), (14, 14), (15, 15), (16, 16), (17, 20), (18, 99), (19, 139), (20, 161)] -/
def fiFmt10 : FI := ⟨184149205606795480238948490449146349755637850570752, 167, 6⟩
noncomputable def bodyFmt10 := bodyOf Tryz.prog 85
noncomputable def cFmt10_1 := comp pc0 fiFmt10 (subC [0] bodyFmt10)
noncomputable def cFmt10_7 := comp pc0 fiFmt10 (subC [1, 0, 0, 0, 0, 0] bodyFmt10)
noncomputable def cFmt10_13 := comp pc0 fiFmt10 (subC [1, 0, 0, 0, 1, 0, 0] bodyFmt10)
noncomputable def cFmt10_15 := comp pc0 fiFmt10 (subC [1, 0, 0, 0, 1, 0, 1, 0] bodyFmt10)
noncomputable def cFmt10_17 := comp pc0 fiFmt10 (subC [1, 0, 0, 0, 1, 0, 1, 1, 0] bodyFmt10)
noncomputable def cFmt10_19 := comp pc0 fiFmt10 (subC [1, 0, 0, 0, 1, 0, 1, 1, 1, 0] bodyFmt10)
noncomputable def cFmt10_21 := comp pc0 fiFmt10 (subC [1, 0, 0, 0, 1, 0, 1, 1, 1, 1, 0] bodyFmt10)
noncomputable def cFmt10_23 := comp pc0 fiFmt10 (subC [1, 0, 0, 0, 1, 0, 1, 1, 1, 1, 1, 0] bodyFmt10)
noncomputable def cFmt10_25 := comp pc0 fiFmt10 (subC [1, 0, 0, 0, 1, 0, 1, 1, 1, 1, 1, 1, 0] bodyFmt10)
noncomputable def cFmt10_27 := comp pc0 fiFmt10 (subC [1, 0, 0, 0, 1, 0, 1, 1, 1, 1, 1, 1, 1, 0] bodyFmt10)
noncomputable def cFmt10_29 := comp pc0 fiFmt10 (subC [1, 0, 0, 0, 1, 0, 1, 1, 1, 1, 1, 1, 1, 1, 0] bodyFmt10)
noncomputable def cFmt10_30 := comp pc0 fiFmt10 (subC [1, 0, 0, 0, 1, 0, 1, 1, 1, 1, 1, 1, 1, 1, 1] bodyFmt10)
noncomputable def uFmt10_4 := subC [1, 0, 0] bodyFmt10
noncomputable def cFmt10_4 := comp pc0 fiFmt10 uFmt10_4
noncomputable def cFmt10_32 := comp pc0 fiFmt10 (subC [1, 1, 0] bodyFmt10)
noncomputable def cFmt10_35 := comp pc0 fiFmt10 (subC [1, 1, 1, 0, 0] bodyFmt10)
noncomputable def cFmt10_38 := comp pc0 fiFmt10 (subC [1, 1, 1, 0, 1, 0, 0] bodyFmt10)
noncomputable def cFmt10_40 := comp pc0 fiFmt10 (subC [1, 1, 1, 0, 1, 0, 1, 0] bodyFmt10)
noncomputable def cFmt10_42 := comp pc0 fiFmt10 (subC [1, 1, 1, 0, 1, 0, 1, 1, 0] bodyFmt10)
noncomputable def cFmt10_44 := comp pc0 fiFmt10 (subC [1, 1, 1, 0, 1, 0, 1, 1, 1, 0] bodyFmt10)
noncomputable def cFmt10_46 := comp pc0 fiFmt10 (subC [1, 1, 1, 0, 1, 0, 1, 1, 1, 1, 0] bodyFmt10)
noncomputable def cFmt10_47 := comp pc0 fiFmt10 (subC [1, 1, 1, 0, 1, 0, 1, 1, 1, 1, 1] bodyFmt10)
noncomputable def cFmt10_51 := comp pc0 fiFmt10 (subC [1, 1, 1, 1, 0, 0] bodyFmt10)
noncomputable def cFmt10_54 := comp pc0 fiFmt10 (subC [1, 1, 1, 1, 0, 1, 0, 0] bodyFmt10)
noncomputable def cFmt10_56 := comp pc0 fiFmt10 (subC [1, 1, 1, 1, 0, 1, 0, 1, 0] bodyFmt10)
noncomputable def cFmt10_58 := comp pc0 fiFmt10 (subC [1, 1, 1, 1, 0, 1, 0, 1, 1, 0] bodyFmt10)
noncomputable def cFmt10_59 := comp pc0 fiFmt10 (subC [1, 1, 1, 1, 0, 1, 0, 1, 1, 1] bodyFmt10)
noncomputable def cFmt10_62 := comp pc0 fiFmt10 (subC [1, 1, 1, 1, 1, 0] bodyFmt10)
noncomputable def cFmt10_64 := comp pc0 fiFmt10 (subC [1, 1, 1, 1, 1, 1, 0] bodyFmt10)
noncomputable def cFmt10_0 := comp pc0 fiFmt10 bodyFmt10
noncomputable def finFmt10 := finN (resC pc0 fiFmt10 (resOf Tryz.prog 85)).run
theorem eFmt10x :
 ((∀ r s x0 x1, (fnC pc0 85).run r [x0, x1] s = outF (bindR (fun tm s => finFmt10 tm s) (cFmt10_0.run r (sp 1 x1 (sp 0 x0 T.new)) s))) ∧
 ((∀ s tm, finFmt10 tm s = finV (gp 240 tm) (resV [] s)) ∧
 (∀ r s tm, cFmt10_0.run r tm s = seqA (fun tm s => seqA (fun tm s => seqA (fun tm s => seqA (fun tm s => seqA (fun tm s => seqA (fun tm s => condV (gp 20 tm) (cFmt10_64.run r tm s) (.nrm tm s)) (cFmt10_62.run r tm s)) (seqA (fun tm s => condV (gp 19 tm) (seqA (fun tm s => seqA (fun tm s => seqA (fun tm s => cFmt10_59.run r tm s) (cFmt10_58.run r tm s)) (cFmt10_56.run r tm s)) (cFmt10_54.run r tm s)) (.nrm tm s)) (cFmt10_51.run r tm s))) (seqA (fun tm s => condV (gp 18 tm) (seqA (fun tm s => seqA (fun tm s => seqA (fun tm s => seqA (fun tm s => seqA (fun tm s => cFmt10_47.run r tm s) (cFmt10_46.run r tm s)) (cFmt10_44.run r tm s)) (cFmt10_42.run r tm s)) (cFmt10_40.run r tm s)) (cFmt10_38.run r tm s)) (.nrm tm s)) (cFmt10_35.run r tm s))) (cFmt10_32.run r tm s)) (blockA 0 (cFmt10_4.run r tm s))) (cFmt10_1.run r tm s)))) := by
 and_intros <;> (intros; kernel_rfl)
theorem rgFmt10_1 : ∀ r s tm, cFmt10_1.run r tm s = xLenS (gp 0 tm) fun v1 => .nrm (sp 4 v1 tm) s := reg1 3
theorem rgFmt10_7 : ∀ r s tm, cFmt10_7.run r tm s = xBin ⟨9, []⟩ false .geq (gp 4 tm) (V.nat .i64 8) fun v1 => .nrm (sp 17 v1 tm) s := reg1 2
theorem rgFmt10_13 : ∀ r s tm, cFmt10_13.run r tm s = xBin ⟨9, []⟩ false .rem (gp 1 tm) (V.nat .u64 100000000) fun v1 => xIntConv .u32 v1 fun v2 => .nrm (sp 5 v2 tm) s := reg1 4
theorem rgFmt10_15 : ∀ r s tm, cFmt10_15.run r tm s = xBin ⟨9, []⟩ false .quo (gp 1 tm) (V.nat .u64 100000000) fun v1 => .nrm (sp 1 v1 tm) s := reg1 3
theorem rgFmt10_17 : ∀ r s tm, cFmt10_17.run r tm s = xBin ⟨9, []⟩ false .quo (gp 5 tm) (V.nat .u32 10000) fun v1 => xBin ⟨9, []⟩ false .rem (gp 5 tm) (V.nat .u32 10000) fun v3 => .nrm (sp 7 v3 (sp 6 v1 tm)) s := reg1 6
theorem rgFmt10_19 : ∀ r s tm, cFmt10_19.run r tm s = xBin ⟨9, []⟩ false .quo (gp 7 tm) (V.nat .u32 100) fun v1 => xBin ⟨9, []⟩ false .mul v1 (V.nat .u32 2) fun v2 => xBin ⟨9, []⟩ false .rem (gp 7 tm) (V.nat .u32 100) fun v4 => xBin ⟨9, []⟩ false .mul v4 (V.nat .u32 2) fun v5 => .nrm (sp 9 v5 (sp 8 v2 tm)) s := reg1 8
theorem rgFmt10_21 : ∀ r s tm, cFmt10_21.run r tm s = xBin ⟨9, []⟩ false .quo (gp 6 tm) (V.nat .u32 100) fun v1 => xBin ⟨9, []⟩ false .mul v1 (V.nat .u32 2) fun v2 => xBin ⟨9, []⟩ false .rem (gp 6 tm) (V.nat .u32 100) fun v4 => xBin ⟨9, []⟩ false .mul v4 (V.nat .u32 2) fun v5 => .nrm (sp 11 v5 (sp 10 v2 tm)) s := reg1 8
theorem rgFmt10_23 : ∀ r s tm, cFmt10_23.run r tm s = xBin ⟨9, []⟩ false .sub (gp 4 tm) (V.nat .i64 1) fun v2 => xBin ⟨9, []⟩ false .sub (gp 4 tm) (V.nat .i64 2) fun v5 => xBin ⟨9, []⟩ false .add (gp 9 tm) (V.nat .u32 1) fun v7 => xIndexS (V.str [48, 48, 48, 49, 48, 50, 48, 51, 48, 52, 48, 53, 48, 54, 48, 55, 48, 56, 48, 57, 49, 48, 49, 49, 49, 50, 49, 51, 49, 52, 49, 53, 49, 54, 49, 55, 49, 56, 49, 57, 50, 48, 50, 49, 50, 50, 50, 51, 50, 52, 50, 53, 50, 54, 50, 55, 50, 56, 50, 57, 51, 48, 51, 49, 51, 50, 51, 51, 51, 52, 51, 53, 51, 54, 51, 55, 51, 56, 51, 57, 52, 48, 52, 49, 52, 50, 52, 51, 52, 52, 52, 53, 52, 54, 52, 55, 52, 56, 52, 57, 53, 48, 53, 49, 53, 50, 53, 51, 53, 52, 53, 53, 53, 54, 53, 55, 53, 56, 53, 57, 54, 48, 54, 49, 54, 50, 54, 51, 54, 52, 54, 53, 54, 54, 54, 55, 54, 56, 54, 57, 55, 48, 55, 49, 55, 50, 55, 51, 55, 52, 55, 53, 55, 54, 55, 55, 55, 56, 55, 57, 56, 48, 56, 49, 56, 50, 56, 51, 56, 52, 56, 53, 56, 54, 56, 55, 56, 56, 56, 57, 57, 48, 57, 49, 57, 50, 57, 51, 57, 52, 57, 53, 57, 54, 57, 55, 57, 56, 57, 57]) v7 fun v8 => xIndexS (V.str [48, 48, 48, 49, 48, 50, 48, 51, 48, 52, 48, 53, 48, 54, 48, 55, 48, 56, 48, 57, 49, 48, 49, 49, 49, 50, 49, 51, 49, 52, 49, 53, 49, 54, 49, 55, 49, 56, 49, 57, 50, 48, 50, 49, 50, 50, 50, 51, 50, 52, 50, 53, 50, 54, 50, 55, 50, 56, 50, 57, 51, 48, 51, 49, 51, 50, 51, 51, 51, 52, 51, 53, 51, 54, 51, 55, 51, 56, 51, 57, 52, 48, 52, 49, 52, 50, 52, 51, 52, 52, 52, 53, 52, 54, 52, 55, 52, 56, 52, 57, 53, 48, 53, 49, 53, 50, 53, 51, 53, 52, 53, 53, 53, 54, 53, 55, 53, 56, 53, 57, 54, 48, 54, 49, 54, 50, 54, 51, 54, 52, 54, 53, 54, 54, 54, 55, 54, 56, 54, 57, 55, 48, 55, 49, 55, 50, 55, 51, 55, 52, 55, 53, 55, 54, 55, 55, 55, 56, 55, 57, 56, 48, 56, 49, 56, 50, 56, 51, 56, 52, 56, 53, 56, 54, 56, 55, 56, 56, 56, 57, 57, 48, 57, 49, 57, 50, 57, 51, 57, 52, 57, 53, 57, 54, 57, 55, 57, 56, 57, 57]) (gp 9 tm) fun v10 => xIdxAddrS 1 (gp 0 tm) v2 fun v11 => xStore 1 v11 v8 s fun _ s => xIdxAddrS 1 (gp 0 tm) v5 fun v13 => xStore 1 v13 v10 s fun _ s => .nrm tm s := dreg1 15
theorem rgFmt10_25 : ∀ r s tm, cFmt10_25.run r tm s = xBin ⟨9, []⟩ false .sub (gp 4 tm) (V.nat .i64 3) fun v2 => xBin ⟨9, []⟩ false .sub (gp 4 tm) (V.nat .i64 4) fun v5 => xBin ⟨9, []⟩ false .add (gp 8 tm) (V.nat .u32 1) fun v7 => xIndexS (V.str [48, 48, 48, 49, 48, 50, 48, 51, 48, 52, 48, 53, 48, 54, 48, 55, 48, 56, 48, 57, 49, 48, 49, 49, 49, 50, 49, 51, 49, 52, 49, 53, 49, 54, 49, 55, 49, 56, 49, 57, 50, 48, 50, 49, 50, 50, 50, 51, 50, 52, 50, 53, 50, 54, 50, 55, 50, 56, 50, 57, 51, 48, 51, 49, 51, 50, 51, 51, 51, 52, 51, 53, 51, 54, 51, 55, 51, 56, 51, 57, 52, 48, 52, 49, 52, 50, 52, 51, 52, 52, 52, 53, 52, 54, 52, 55, 52, 56, 52, 57, 53, 48, 53, 49, 53, 50, 53, 51, 53, 52, 53, 53, 53, 54, 53, 55, 53, 56, 53, 57, 54, 48, 54, 49, 54, 50, 54, 51, 54, 52, 54, 53, 54, 54, 54, 55, 54, 56, 54, 57, 55, 48, 55, 49, 55, 50, 55, 51, 55, 52, 55, 53, 55, 54, 55, 55, 55, 56, 55, 57, 56, 48, 56, 49, 56, 50, 56, 51, 56, 52, 56, 53, 56, 54, 56, 55, 56, 56, 56, 57, 57, 48, 57, 49, 57, 50, 57, 51, 57, 52, 57, 53, 57, 54, 57, 55, 57, 56, 57, 57]) v7 fun v8 => xIndexS (V.str [48, 48, 48, 49, 48, 50, 48, 51, 48, 52, 48, 53, 48, 54, 48, 55, 48, 56, 48, 57, 49, 48, 49, 49, 49, 50, 49, 51, 49, 52, 49, 53, 49, 54, 49, 55, 49, 56, 49, 57, 50, 48, 50, 49, 50, 50, 50, 51, 50, 52, 50, 53, 50, 54, 50, 55, 50, 56, 50, 57, 51, 48, 51, 49, 51, 50, 51, 51, 51, 52, 51, 53, 51, 54, 51, 55, 51, 56, 51, 57, 52, 48, 52, 49, 52, 50, 52, 51, 52, 52, 52, 53, 52, 54, 52, 55, 52, 56, 52, 57, 53, 48, 53, 49, 53, 50, 53, 51, 53, 52, 53, 53, 53, 54, 53, 55, 53, 56, 53, 57, 54, 48, 54, 49, 54, 50, 54, 51, 54, 52, 54, 53, 54, 54, 54, 55, 54, 56, 54, 57, 55, 48, 55, 49, 55, 50, 55, 51, 55, 52, 55, 53, 55, 54, 55, 55, 55, 56, 55, 57, 56, 48, 56, 49, 56, 50, 56, 51, 56, 52, 56, 53, 56, 54, 56, 55, 56, 56, 56, 57, 57, 48, 57, 49, 57, 50, 57, 51, 57, 52, 57, 53, 57, 54, 57, 55, 57, 56, 57, 57]) (gp 8 tm) fun v10 => xIdxAddrS 1 (gp 0 tm) v2 fun v11 => xStore 1 v11 v8 s fun _ s => xIdxAddrS 1 (gp 0 tm) v5 fun v13 => xStore 1 v13 v10 s fun _ s => .nrm tm s := dreg1 15
theorem rgFmt10_27 : ∀ r s tm, cFmt10_27.run r tm s = xBin ⟨9, []⟩ false .sub (gp 4 tm) (V.nat .i64 5) fun v2 => xBin ⟨9, []⟩ false .sub (gp 4 tm) (V.nat .i64 6) fun v5 => xBin ⟨9, []⟩ false .add (gp 11 tm) (V.nat .u32 1) fun v7 => xIndexS (V.str [48, 48, 48, 49, 48, 50, 48, 51, 48, 52, 48, 53, 48, 54, 48, 55, 48, 56, 48, 57, 49, 48, 49, 49, 49, 50, 49, 51, 49, 52, 49, 53, 49, 54, 49, 55, 49, 56, 49, 57, 50, 48, 50, 49, 50, 50, 50, 51, 50, 52, 50, 53, 50, 54, 50, 55, 50, 56, 50, 57, 51, 48, 51, 49, 51, 50, 51, 51, 51, 52, 51, 53, 51, 54, 51, 55, 51, 56, 51, 57, 52, 48, 52, 49, 52, 50, 52, 51, 52, 52, 52, 53, 52, 54, 52, 55, 52, 56, 52, 57, 53, 48, 53, 49, 53, 50, 53, 51, 53, 52, 53, 53, 53, 54, 53, 55, 53, 56, 53, 57, 54, 48, 54, 49, 54, 50, 54, 51, 54, 52, 54, 53, 54, 54, 54, 55, 54, 56, 54, 57, 55, 48, 55, 49, 55, 50, 55, 51, 55, 52, 55, 53, 55, 54, 55, 55, 55, 56, 55, 57, 56, 48, 56, 49, 56, 50, 56, 51, 56, 52, 56, 53, 56, 54, 56, 55, 56, 56, 56, 57, 57, 48, 57, 49, 57, 50, 57, 51, 57, 52, 57, 53, 57, 54, 57, 55, 57, 56, 57, 57]) v7 fun v8 => xIndexS (V.str [48, 48, 48, 49, 48, 50, 48, 51, 48, 52, 48, 53, 48, 54, 48, 55, 48, 56, 48, 57, 49, 48, 49, 49, 49, 50, 49, 51, 49, 52, 49, 53, 49, 54, 49, 55, 49, 56, 49, 57, 50, 48, 50, 49, 50, 50, 50, 51, 50, 52, 50, 53, 50, 54, 50, 55, 50, 56, 50, 57, 51, 48, 51, 49, 51, 50, 51, 51, 51, 52, 51, 53, 51, 54, 51, 55, 51, 56, 51, 57, 52, 48, 52, 49, 52, 50, 52, 51, 52, 52, 52, 53, 52, 54, 52, 55, 52, 56, 52, 57, 53, 48, 53, 49, 53, 50, 53, 51, 53, 52, 53, 53, 53, 54, 53, 55, 53, 56, 53, 57, 54, 48, 54, 49, 54, 50, 54, 51, 54, 52, 54, 53, 54, 54, 54, 55, 54, 56, 54, 57, 55, 48, 55, 49, 55, 50, 55, 51, 55, 52, 55, 53, 55, 54, 55, 55, 55, 56, 55, 57, 56, 48, 56, 49, 56, 50, 56, 51, 56, 52, 56, 53, 56, 54, 56, 55, 56, 56, 56, 57, 57, 48, 57, 49, 57, 50, 57, 51, 57, 52, 57, 53, 57, 54, 57, 55, 57, 56, 57, 57]) (gp 11 tm) fun v10 => xIdxAddrS 1 (gp 0 tm) v2 fun v11 => xStore 1 v11 v8 s fun _ s => xIdxAddrS 1 (gp 0 tm) v5 fun v13 => xStore 1 v13 v10 s fun _ s => .nrm tm s := dreg1 15
theorem rgFmt10_29 : ∀ r s tm, cFmt10_29.run r tm s = xBin ⟨9, []⟩ false .sub (gp 4 tm) (V.nat .i64 7) fun v2 => xBin ⟨9, []⟩ false .sub (gp 4 tm) (V.nat .i64 8) fun v5 => xBin ⟨9, []⟩ false .add (gp 10 tm) (V.nat .u32 1) fun v7 => xIndexS (V.str [48, 48, 48, 49, 48, 50, 48, 51, 48, 52, 48, 53, 48, 54, 48, 55, 48, 56, 48, 57, 49, 48, 49, 49, 49, 50, 49, 51, 49, 52, 49, 53, 49, 54, 49, 55, 49, 56, 49, 57, 50, 48, 50, 49, 50, 50, 50, 51, 50, 52, 50, 53, 50, 54, 50, 55, 50, 56, 50, 57, 51, 48, 51, 49, 51, 50, 51, 51, 51, 52, 51, 53, 51, 54, 51, 55, 51, 56, 51, 57, 52, 48, 52, 49, 52, 50, 52, 51, 52, 52, 52, 53, 52, 54, 52, 55, 52, 56, 52, 57, 53, 48, 53, 49, 53, 50, 53, 51, 53, 52, 53, 53, 53, 54, 53, 55, 53, 56, 53, 57, 54, 48, 54, 49, 54, 50, 54, 51, 54, 52, 54, 53, 54, 54, 54, 55, 54, 56, 54, 57, 55, 48, 55, 49, 55, 50, 55, 51, 55, 52, 55, 53, 55, 54, 55, 55, 55, 56, 55, 57, 56, 48, 56, 49, 56, 50, 56, 51, 56, 52, 56, 53, 56, 54, 56, 55, 56, 56, 56, 57, 57, 48, 57, 49, 57, 50, 57, 51, 57, 52, 57, 53, 57, 54, 57, 55, 57, 56, 57, 57]) v7 fun v8 => xIndexS (V.str [48, 48, 48, 49, 48, 50, 48, 51, 48, 52, 48, 53, 48, 54, 48, 55, 48, 56, 48, 57, 49, 48, 49, 49, 49, 50, 49, 51, 49, 52, 49, 53, 49, 54, 49, 55, 49, 56, 49, 57, 50, 48, 50, 49, 50, 50, 50, 51, 50, 52, 50, 53, 50, 54, 50, 55, 50, 56, 50, 57, 51, 48, 51, 49, 51, 50, 51, 51, 51, 52, 51, 53, 51, 54, 51, 55, 51, 56, 51, 57, 52, 48, 52, 49, 52, 50, 52, 51, 52, 52, 52, 53, 52, 54, 52, 55, 52, 56, 52, 57, 53, 48, 53, 49, 53, 50, 53, 51, 53, 52, 53, 53, 53, 54, 53, 55, 53, 56, 53, 57, 54, 48, 54, 49, 54, 50, 54, 51, 54, 52, 54, 53, 54, 54, 54, 55, 54, 56, 54, 57, 55, 48, 55, 49, 55, 50, 55, 51, 55, 52, 55, 53, 55, 54, 55, 55, 55, 56, 55, 57, 56, 48, 56, 49, 56, 50, 56, 51, 56, 52, 56, 53, 56, 54, 56, 55, 56, 56, 56, 57, 57, 48, 57, 49, 57, 50, 57, 51, 57, 52, 57, 53, 57, 54, 57, 55, 57, 56, 57, 57]) (gp 10 tm) fun v10 => xIdxAddrS 1 (gp 0 tm) v2 fun v11 => xStore 1 v11 v8 s fun _ s => xIdxAddrS 1 (gp 0 tm) v5 fun v13 => xStore 1 v13 v10 s fun _ s => .nrm tm s := dreg1 15
theorem rgFmt10_30 : ∀ r s tm, cFmt10_30.run r tm s = xBin ⟨9, []⟩ false .sub (gp 4 tm) (V.nat .i64 8) fun v1 => .nrm (sp 4 v1 tm) s := reg1 3
theorem rgFmt10_32 : ∀ r s tm, cFmt10_32.run r tm s = xIntConv .u32 (gp 1 tm) fun v1 => .nrm (sp 12 v1 tm) s := reg1 3
theorem rgFmt10_35 : ∀ r s tm, cFmt10_35.run r tm s = xBin ⟨9, []⟩ false .geq (gp 4 tm) (V.nat .i64 4) fun v1 => .nrm (sp 18 v1 tm) s := reg1 2
theorem rgFmt10_38 : ∀ r s tm, cFmt10_38.run r tm s = xBin ⟨9, []⟩ false .rem (gp 12 tm) (V.nat .u32 10000) fun v1 => .nrm (sp 13 v1 tm) s := reg1 3
theorem rgFmt10_40 : ∀ r s tm, cFmt10_40.run r tm s = xBin ⟨9, []⟩ false .quo (gp 12 tm) (V.nat .u32 10000) fun v1 => .nrm (sp 12 v1 tm) s := reg1 3
theorem rgFmt10_42 : ∀ r s tm, cFmt10_42.run r tm s = xBin ⟨9, []⟩ false .quo (gp 13 tm) (V.nat .u32 100) fun v1 => xBin ⟨9, []⟩ false .mul v1 (V.nat .u32 2) fun v2 => xBin ⟨9, []⟩ false .rem (gp 13 tm) (V.nat .u32 100) fun v4 => xBin ⟨9, []⟩ false .mul v4 (V.nat .u32 2) fun v5 => .nrm (sp 15 v5 (sp 14 v2 tm)) s := reg1 8
theorem rgFmt10_44 : ∀ r s tm, cFmt10_44.run r tm s = xBin ⟨9, []⟩ false .sub (gp 4 tm) (V.nat .i64 1) fun v2 => xBin ⟨9, []⟩ false .sub (gp 4 tm) (V.nat .i64 2) fun v5 => xBin ⟨9, []⟩ false .add (gp 15 tm) (V.nat .u32 1) fun v7 => xIndexS (V.str [48, 48, 48, 49, 48, 50, 48, 51, 48, 52, 48, 53, 48, 54, 48, 55, 48, 56, 48, 57, 49, 48, 49, 49, 49, 50, 49, 51, 49, 52, 49, 53, 49, 54, 49, 55, 49, 56, 49, 57, 50, 48, 50, 49, 50, 50, 50, 51, 50, 52, 50, 53, 50, 54, 50, 55, 50, 56, 50, 57, 51, 48, 51, 49, 51, 50, 51, 51, 51, 52, 51, 53, 51, 54, 51, 55, 51, 56, 51, 57, 52, 48, 52, 49, 52, 50, 52, 51, 52, 52, 52, 53, 52, 54, 52, 55, 52, 56, 52, 57, 53, 48, 53, 49, 53, 50, 53, 51, 53, 52, 53, 53, 53, 54, 53, 55, 53, 56, 53, 57, 54, 48, 54, 49, 54, 50, 54, 51, 54, 52, 54, 53, 54, 54, 54, 55, 54, 56, 54, 57, 55, 48, 55, 49, 55, 50, 55, 51, 55, 52, 55, 53, 55, 54, 55, 55, 55, 56, 55, 57, 56, 48, 56, 49, 56, 50, 56, 51, 56, 52, 56, 53, 56, 54, 56, 55, 56, 56, 56, 57, 57, 48, 57, 49, 57, 50, 57, 51, 57, 52, 57, 53, 57, 54, 57, 55, 57, 56, 57, 57]) v7 fun v8 => xIndexS (V.str [48, 48, 48, 49, 48, 50, 48, 51, 48, 52, 48, 53, 48, 54, 48, 55, 48, 56, 48, 57, 49, 48, 49, 49, 49, 50, 49, 51, 49, 52, 49, 53, 49, 54, 49, 55, 49, 56, 49, 57, 50, 48, 50, 49, 50, 50, 50, 51, 50, 52, 50, 53, 50, 54, 50, 55, 50, 56, 50, 57, 51, 48, 51, 49, 51, 50, 51, 51, 51, 52, 51, 53, 51, 54, 51, 55, 51, 56, 51, 57, 52, 48, 52, 49, 52, 50, 52, 51, 52, 52, 52, 53, 52, 54, 52, 55, 52, 56, 52, 57, 53, 48, 53, 49, 53, 50, 53, 51, 53, 52, 53, 53, 53, 54, 53, 55, 53, 56, 53, 57, 54, 48, 54, 49, 54, 50, 54, 51, 54, 52, 54, 53, 54, 54, 54, 55, 54, 56, 54, 57, 55, 48, 55, 49, 55, 50, 55, 51, 55, 52, 55, 53, 55, 54, 55, 55, 55, 56, 55, 57, 56, 48, 56, 49, 56, 50, 56, 51, 56, 52, 56, 53, 56, 54, 56, 55, 56, 56, 56, 57, 57, 48, 57, 49, 57, 50, 57, 51, 57, 52, 57, 53, 57, 54, 57, 55, 57, 56, 57, 57]) (gp 15 tm) fun v10 => xIdxAddrS 1 (gp 0 tm) v2 fun v11 => xStore 1 v11 v8 s fun _ s => xIdxAddrS 1 (gp 0 tm) v5 fun v13 => xStore 1 v13 v10 s fun _ s => .nrm tm s := dreg1 15
theorem rgFmt10_46 : ∀ r s tm, cFmt10_46.run r tm s = xBin ⟨9, []⟩ false .sub (gp 4 tm) (V.nat .i64 3) fun v2 => xBin ⟨9, []⟩ false .sub (gp 4 tm) (V.nat .i64 4) fun v5 => xBin ⟨9, []⟩ false .add (gp 14 tm) (V.nat .u32 1) fun v7 => xIndexS (V.str [48, 48, 48, 49, 48, 50, 48, 51, 48, 52, 48, 53, 48, 54, 48, 55, 48, 56, 48, 57, 49, 48, 49, 49, 49, 50, 49, 51, 49, 52, 49, 53, 49, 54, 49, 55, 49, 56, 49, 57, 50, 48, 50, 49, 50, 50, 50, 51, 50, 52, 50, 53, 50, 54, 50, 55, 50, 56, 50, 57, 51, 48, 51, 49, 51, 50, 51, 51, 51, 52, 51, 53, 51, 54, 51, 55, 51, 56, 51, 57, 52, 48, 52, 49, 52, 50, 52, 51, 52, 52, 52, 53, 52, 54, 52, 55, 52, 56, 52, 57, 53, 48, 53, 49, 53, 50, 53, 51, 53, 52, 53, 53, 53, 54, 53, 55, 53, 56, 53, 57, 54, 48, 54, 49, 54, 50, 54, 51, 54, 52, 54, 53, 54, 54, 54, 55, 54, 56, 54, 57, 55, 48, 55, 49, 55, 50, 55, 51, 55, 52, 55, 53, 55, 54, 55, 55, 55, 56, 55, 57, 56, 48, 56, 49, 56, 50, 56, 51, 56, 52, 56, 53, 56, 54, 56, 55, 56, 56, 56, 57, 57, 48, 57, 49, 57, 50, 57, 51, 57, 52, 57, 53, 57, 54, 57, 55, 57, 56, 57, 57]) v7 fun v8 => xIndexS (V.str [48, 48, 48, 49, 48, 50, 48, 51, 48, 52, 48, 53, 48, 54, 48, 55, 48, 56, 48, 57, 49, 48, 49, 49, 49, 50, 49, 51, 49, 52, 49, 53, 49, 54, 49, 55, 49, 56, 49, 57, 50, 48, 50, 49, 50, 50, 50, 51, 50, 52, 50, 53, 50, 54, 50, 55, 50, 56, 50, 57, 51, 48, 51, 49, 51, 50, 51, 51, 51, 52, 51, 53, 51, 54, 51, 55, 51, 56, 51, 57, 52, 48, 52, 49, 52, 50, 52, 51, 52, 52, 52, 53, 52, 54, 52, 55, 52, 56, 52, 57, 53, 48, 53, 49, 53, 50, 53, 51, 53, 52, 53, 53, 53, 54, 53, 55, 53, 56, 53, 57, 54, 48, 54, 49, 54, 50, 54, 51, 54, 52, 54, 53, 54, 54, 54, 55, 54, 56, 54, 57, 55, 48, 55, 49, 55, 50, 55, 51, 55, 52, 55, 53, 55, 54, 55, 55, 55, 56, 55, 57, 56, 48, 56, 49, 56, 50, 56, 51, 56, 52, 56, 53, 56, 54, 56, 55, 56, 56, 56, 57, 57, 48, 57, 49, 57, 50, 57, 51, 57, 52, 57, 53, 57, 54, 57, 55, 57, 56, 57, 57]) (gp 14 tm) fun v10 => xIdxAddrS 1 (gp 0 tm) v2 fun v11 => xStore 1 v11 v8 s fun _ s => xIdxAddrS 1 (gp 0 tm) v5 fun v13 => xStore 1 v13 v10 s fun _ s => .nrm tm s := dreg1 15
theorem rgFmt10_47 : ∀ r s tm, cFmt10_47.run r tm s = xBin ⟨9, []⟩ false .sub (gp 4 tm) (V.nat .i64 4) fun v1 => .nrm (sp 4 v1 tm) s := reg1 3
theorem rgFmt10_51 : ∀ r s tm, cFmt10_51.run r tm s = xBin ⟨9, []⟩ false .geq (gp 4 tm) (V.nat .i64 2) fun v1 => .nrm (sp 19 v1 tm) s := reg1 2
theorem rgFmt10_54 : ∀ r s tm, cFmt10_54.run r tm s = xBin ⟨9, []⟩ false .rem (gp 12 tm) (V.nat .u32 100) fun v1 => xBin ⟨9, []⟩ false .mul v1 (V.nat .u32 2) fun v2 => .nrm (sp 16 v2 tm) s := reg1 4
theorem rgFmt10_56 : ∀ r s tm, cFmt10_56.run r tm s = xBin ⟨9, []⟩ false .quo (gp 12 tm) (V.nat .u32 100) fun v1 => .nrm (sp 12 v1 tm) s := reg1 3
theorem rgFmt10_58 : ∀ r s tm, cFmt10_58.run r tm s = xBin ⟨9, []⟩ false .sub (gp 4 tm) (V.nat .i64 1) fun v2 => xBin ⟨9, []⟩ false .sub (gp 4 tm) (V.nat .i64 2) fun v5 => xBin ⟨9, []⟩ false .add (gp 16 tm) (V.nat .u32 1) fun v7 => xIndexS (V.str [48, 48, 48, 49, 48, 50, 48, 51, 48, 52, 48, 53, 48, 54, 48, 55, 48, 56, 48, 57, 49, 48, 49, 49, 49, 50, 49, 51, 49, 52, 49, 53, 49, 54, 49, 55, 49, 56, 49, 57, 50, 48, 50, 49, 50, 50, 50, 51, 50, 52, 50, 53, 50, 54, 50, 55, 50, 56, 50, 57, 51, 48, 51, 49, 51, 50, 51, 51, 51, 52, 51, 53, 51, 54, 51, 55, 51, 56, 51, 57, 52, 48, 52, 49, 52, 50, 52, 51, 52, 52, 52, 53, 52, 54, 52, 55, 52, 56, 52, 57, 53, 48, 53, 49, 53, 50, 53, 51, 53, 52, 53, 53, 53, 54, 53, 55, 53, 56, 53, 57, 54, 48, 54, 49, 54, 50, 54, 51, 54, 52, 54, 53, 54, 54, 54, 55, 54, 56, 54, 57, 55, 48, 55, 49, 55, 50, 55, 51, 55, 52, 55, 53, 55, 54, 55, 55, 55, 56, 55, 57, 56, 48, 56, 49, 56, 50, 56, 51, 56, 52, 56, 53, 56, 54, 56, 55, 56, 56, 56, 57, 57, 48, 57, 49, 57, 50, 57, 51, 57, 52, 57, 53, 57, 54, 57, 55, 57, 56, 57, 57]) v7 fun v8 => xIndexS (V.str [48, 48, 48, 49, 48, 50, 48, 51, 48, 52, 48, 53, 48, 54, 48, 55, 48, 56, 48, 57, 49, 48, 49, 49, 49, 50, 49, 51, 49, 52, 49, 53, 49, 54, 49, 55, 49, 56, 49, 57, 50, 48, 50, 49, 50, 50, 50, 51, 50, 52, 50, 53, 50, 54, 50, 55, 50, 56, 50, 57, 51, 48, 51, 49, 51, 50, 51, 51, 51, 52, 51, 53, 51, 54, 51, 55, 51, 56, 51, 57, 52, 48, 52, 49, 52, 50, 52, 51, 52, 52, 52, 53, 52, 54, 52, 55, 52, 56, 52, 57, 53, 48, 53, 49, 53, 50, 53, 51, 53, 52, 53, 53, 53, 54, 53, 55, 53, 56, 53, 57, 54, 48, 54, 49, 54, 50, 54, 51, 54, 52, 54, 53, 54, 54, 54, 55, 54, 56, 54, 57, 55, 48, 55, 49, 55, 50, 55, 51, 55, 52, 55, 53, 55, 54, 55, 55, 55, 56, 55, 57, 56, 48, 56, 49, 56, 50, 56, 51, 56, 52, 56, 53, 56, 54, 56, 55, 56, 56, 56, 57, 57, 48, 57, 49, 57, 50, 57, 51, 57, 52, 57, 53, 57, 54, 57, 55, 57, 56, 57, 57]) (gp 16 tm) fun v10 => xIdxAddrS 1 (gp 0 tm) v2 fun v11 => xStore 1 v11 v8 s fun _ s => xIdxAddrS 1 (gp 0 tm) v5 fun v13 => xStore 1 v13 v10 s fun _ s => .nrm tm s := dreg1 15
theorem rgFmt10_59 : ∀ r s tm, cFmt10_59.run r tm s = xBin ⟨9, []⟩ false .sub (gp 4 tm) (V.nat .i64 2) fun v1 => .nrm (sp 4 v1 tm) s := reg1 3
theorem rgFmt10_62 : ∀ r s tm, cFmt10_62.run r tm s = xBin ⟨9, []⟩ false .gtr (gp 4 tm) (V.nat .i64 0) fun v1 => .nrm (sp 20 v1 tm) s := reg1 2
theorem rgFmt10_64 : ∀ r s tm, cFmt10_64.run r tm s = xBin ⟨9, []⟩ false .add (V.nat .u32 48) (gp 12 tm) fun v2 => xIntConv .u8 v2 fun v3 => xIdxAddrS 1 (gp 0 tm) (V.nat .i64 0) fun v4 => xStore 1 v4 v3 s fun _ s => .nrm tm s := reg1 6
theorem szFmt10_4 : sizeC uFmt10_4 = 121 := by kernel_rfl
theorem lpFmt10_4 : ∀ r s tm, cFmt10_4.run r tm s = seqA (fun tm s => r.code fiFmt10 uFmt10_4 tm s) (seqA (fun tm s => blockA 1 (seqA (fun tm s => seqA (fun tm s => seqA (fun tm s => seqA (fun tm s => seqA (fun tm s => seqA (fun tm s => seqA (fun tm s => seqA (fun tm s => seqA (fun tm s => cFmt10_30.run r tm s) (cFmt10_29.run r tm s)) (cFmt10_27.run r tm s)) (cFmt10_25.run r tm s)) (cFmt10_23.run r tm s)) (cFmt10_21.run r tm s)) (cFmt10_19.run r tm s)) (cFmt10_17.run r tm s)) (cFmt10_15.run r tm s)) (cFmt10_13.run r tm s))) (seqA (fun tm s => condV (gp 17 tm) (.nrm tm s) (.ext 0 tm s)) (cFmt10_7.run r tm s))) := by intros; kernel_rfl
theorem allFmt10 : type_of% (And.intro rgFmt10_1 <| And.intro rgFmt10_7 <| And.intro rgFmt10_13 <| And.intro rgFmt10_15 <| And.intro rgFmt10_17 <| And.intro rgFmt10_19 <| And.intro rgFmt10_21 <| And.intro rgFmt10_23 <| And.intro rgFmt10_25 <| And.intro rgFmt10_27 <| And.intro rgFmt10_29 <| And.intro rgFmt10_30 <| And.intro rgFmt10_32 <| And.intro rgFmt10_35 <| And.intro rgFmt10_38 <| And.intro rgFmt10_40 <| And.intro rgFmt10_42 <| And.intro rgFmt10_44 <| And.intro rgFmt10_46 <| And.intro rgFmt10_47 <| And.intro rgFmt10_51 <| And.intro rgFmt10_54 <| And.intro rgFmt10_56 <| And.intro rgFmt10_58 <| And.intro rgFmt10_59 <| And.intro rgFmt10_62 <| And.intro rgFmt10_64 <| eFmt10x) := And.intro rgFmt10_1 <| And.intro rgFmt10_7 <| And.intro rgFmt10_13 <| And.intro rgFmt10_15 <| And.intro rgFmt10_17 <| And.intro rgFmt10_19 <| And.intro rgFmt10_21 <| And.intro rgFmt10_23 <| And.intro rgFmt10_25 <| And.intro rgFmt10_27 <| And.intro rgFmt10_29 <| And.intro rgFmt10_30 <| And.intro rgFmt10_32 <| And.intro rgFmt10_35 <| And.intro rgFmt10_38 <| And.intro rgFmt10_40 <| And.intro rgFmt10_42 <| And.intro rgFmt10_44 <| And.intro rgFmt10_46 <| And.intro rgFmt10_47 <| And.intro rgFmt10_51 <| And.intro rgFmt10_54 <| And.intro rgFmt10_56 <| And.intro rgFmt10_58 <| And.intro rgFmt10_59 <| And.intro rgFmt10_62 <| And.intro rgFmt10_64 <| eFmt10x

end Go.Proofs.YtdeffnjoddncnaaGreatDoor.oev
