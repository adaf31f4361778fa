/- What the evaluator makes of the functions that the statements reach: one equation for each run of operations, by the kernel. No statement of the seat stands here. No condition. By an AI agent. -/
import Derived.Test.YtdeffnjoddncnaaGreatDoorOvU1
import Derived.Test.YtdeffnjoddncnaaGreatDoorProg
import Derived.KernelRfl
namespace Go.Proofs.YtdeffnjoddncnaaGreatDoor.oev
open Go.Ev Go.Proofs
set_option maxRecDepth 100000
/- internal/strconv.numDigits: parameters 1, slots in the frame: [(0, 0), (1, 1), (2, 2), (3, 3)] -/
def fiNumDig : FI := ⟨32752, 15, 6⟩
noncomputable def bodyNumDig := bodyOf Tryz.prog 84
noncomputable def cNumDig_1 := comp pc0 fiNumDig (subC [0] bodyNumDig)
noncomputable def cNumDig_3 := comp pc0 fiNumDig (subC [1, 0] bodyNumDig)
noncomputable def cNumDig_5 := comp pc0 fiNumDig (subC [1, 1, 0] bodyNumDig)
noncomputable def cNumDig_0 := comp pc0 fiNumDig bodyNumDig
noncomputable def finNumDig := finN (resC pc0 fiNumDig (resOf Tryz.prog 84)).run
theorem eNumDigx :
 ((∀ r s x0, (fnC pc0 84).run r [x0] s = outF (bindR (fun tm s => finNumDig tm s) (cNumDig_0.run r (sp 0 x0 T.new) s))) ∧
 ((∀ s tm, finNumDig tm s = finV (gp 240 tm) (resV [(gp 2 tm)] s)) ∧
 (∀ r s tm, cNumDig_0.run r tm s = seqA (fun tm s => seqA (fun tm s => seqA (fun tm s => .ret tm s) (cNumDig_5.run r tm s)) (cNumDig_3.run r tm s)) (cNumDig_1.run r tm s)))) := by
 and_intros <;> (intros; kernel_rfl)
theorem rgNumDig_1 : ∀ r s tm, cNumDig_1.run r tm s = .nrm (sp 2 (V.nat .i64 0) tm) s := reg1 1
theorem rgNumDig_3 : ∀ r s tm, cNumDig_3.run r tm s = foldF (r.call 121 [(gp 0 tm)] s) fun v1 s => foldF (r.call 120 [v1] s) fun v2 s => .nrm (sp 3 v2 tm) s := reg1 4
theorem rgNumDig_5 : ∀ r s tm, cNumDig_5.run r tm s = xIdxAddrA 20 1 (V.ptr .h 0 0) (gp 3 tm) fun v3 => xLoad false 1 v3 s fun v4 s => xBin ⟨9, []⟩ false .geq (gp 0 tm) v4 fun v5 => foldF (r.call 122 [v5] s) fun v6 s => xBin ⟨9, []⟩ false .add (gp 3 tm) v6 fun v7 => .nrm (sp 2 v7 tm) s := reg1 9
theorem allNumDig : type_of% (And.intro rgNumDig_1 <| And.intro rgNumDig_3 <| And.intro rgNumDig_5 <| eNumDigx) := And.intro rgNumDig_1 <| And.intro rgNumDig_3 <| And.intro rgNumDig_5 <| eNumDigx
/- internal/strconv.log10Pow2: parameters 1, slots in the frame: [(0, 0), (1, 1), (2, 2)] -/
def fiLog2 : FI := ⟨56, 6, 6⟩
noncomputable def bodyLog2 := bodyOf Tryz.prog 120
noncomputable def cLog2_1 := comp pc0 fiLog2 (subC [0] bodyLog2)
noncomputable def cLog2_3 := comp pc0 fiLog2 (subC [1, 0] bodyLog2)
noncomputable def cLog2_0 := comp pc0 fiLog2 bodyLog2
noncomputable def finLog2 := finN (resC pc0 fiLog2 (resOf Tryz.prog 120)).run
theorem eLog2x :
 ((∀ r s x0, (fnC pc0 120).run r [x0] s = outF (bindR (fun tm s => finLog2 tm s) (cLog2_0.run r (sp 0 x0 T.new) s))) ∧
 ((∀ s tm, finLog2 tm s = finV (gp 240 tm) (resV [(gp 2 tm)] s)) ∧
 (∀ r s tm, cLog2_0.run r tm s = seqA (fun tm s => seqA (fun tm s => .ret tm s) (cLog2_3.run r tm s)) (cLog2_1.run r tm s)))) := by
 and_intros <;> (intros; kernel_rfl)
theorem rgLog2_1 : ∀ r s tm, cLog2_1.run r tm s = .nrm (sp 2 (V.nat .i64 0) tm) s := reg1 1
theorem rgLog2_3 : ∀ r s tm, cLog2_3.run r tm s = xBin ⟨9, []⟩ false .mul (gp 0 tm) (V.nat .i64 78913) fun v1 => xShift .shr v1 (V.nat .u64 18) fun v2 => .nrm (sp 2 v2 tm) s := reg1 4
theorem allLog2 : type_of% (And.intro rgLog2_1 <| And.intro rgLog2_3 <| eLog2x) := And.intro rgLog2_1 <| And.intro rgLog2_3 <| eLog2x
/- math/bits.Len64: parameters 1, slots in the frame: [(0, 0), (1, 1), (2, 2), (3, 4), (4, 8), (5, 14)] -/
def fiLen64 : FI := ⟨33537768, 25, 6⟩
noncomputable def bodyLen64 := bodyOf Tryz.prog 121
noncomputable def cLen64_1 := comp pc0 fiLen64 (subC [0] bodyLen64)
noncomputable def cLen64_4 := comp pc0 fiLen64 (subC [1, 0, 0] bodyLen64)
noncomputable def cLen64_7 := comp pc0 fiLen64 (subC [1, 0, 1, 0, 0] bodyLen64)
noncomputable def cLen64_8 := comp pc0 fiLen64 (subC [1, 0, 1, 0, 1] bodyLen64)
noncomputable def cLen64_12 := comp pc0 fiLen64 (subC [1, 1, 0, 0] bodyLen64)
noncomputable def cLen64_15 := comp pc0 fiLen64 (subC [1, 1, 0, 1, 0, 0] bodyLen64)
noncomputable def cLen64_16 := comp pc0 fiLen64 (subC [1, 1, 0, 1, 0, 1] bodyLen64)
noncomputable def cLen64_20 := comp pc0 fiLen64 (subC [1, 1, 1, 0, 0] bodyLen64)
noncomputable def cLen64_23 := comp pc0 fiLen64 (subC [1, 1, 1, 0, 1, 0, 0] bodyLen64)
noncomputable def cLen64_24 := comp pc0 fiLen64 (subC [1, 1, 1, 0, 1, 0, 1] bodyLen64)
noncomputable def cLen64_27 := comp pc0 fiLen64 (subC [1, 1, 1, 1, 0] bodyLen64)
noncomputable def cLen64_0 := comp pc0 fiLen64 bodyLen64
noncomputable def finLen64 := finN (resC pc0 fiLen64 (resOf Tryz.prog 121)).run
theorem eLen64x :
 ((∀ r s x0, (fnC pc0 121).run r [x0] s = outF (bindR (fun tm s => finLen64 tm s) (cLen64_0.run r (sp 0 x0 T.new) s))) ∧
 ((∀ s tm, finLen64 tm s = finV (gp 240 tm) (resV [(gp 2 tm)] s)) ∧
 (∀ r s tm, cLen64_0.run r tm s = seqA (fun tm s => seqA (fun tm s => seqA (fun tm s => seqA (fun tm s => seqA (fun tm s => .ret tm s) (cLen64_27.run r tm s)) (seqA (fun tm s => condV (gp 5 tm) (seqA (fun tm s => cLen64_24.run r tm s) (cLen64_23.run r tm s)) (.nrm tm s)) (cLen64_20.run r tm s))) (seqA (fun tm s => condV (gp 4 tm) (seqA (fun tm s => cLen64_16.run r tm s) (cLen64_15.run r tm s)) (.nrm tm s)) (cLen64_12.run r tm s))) (seqA (fun tm s => condV (gp 3 tm) (seqA (fun tm s => cLen64_8.run r tm s) (cLen64_7.run r tm s)) (.nrm tm s)) (cLen64_4.run r tm s))) (cLen64_1.run r tm s)))) := by
 and_intros <;> (intros; kernel_rfl)
theorem rgLen64_1 : ∀ r s tm, cLen64_1.run r tm s = .nrm (sp 2 (V.nat .i64 0) tm) s := reg1 1
theorem rgLen64_4 : ∀ r s tm, cLen64_4.run r tm s = xBin ⟨9, []⟩ false .geq (gp 0 tm) (V.nat .u64 4294967296) fun v1 => .nrm (sp 3 v1 tm) s := reg1 2
theorem rgLen64_7 : ∀ r s tm, cLen64_7.run r tm s = xShift .shr (gp 0 tm) (V.nat .u64 32) fun v1 => .nrm (sp 0 v1 tm) s := reg1 3
theorem rgLen64_8 : ∀ r s tm, cLen64_8.run r tm s = .nrm (sp 2 (V.nat .i64 32) tm) s := reg1 1
theorem rgLen64_12 : ∀ r s tm, cLen64_12.run r tm s = xBin ⟨9, []⟩ false .geq (gp 0 tm) (V.nat .u64 65536) fun v1 => .nrm (sp 4 v1 tm) s := reg1 2
theorem rgLen64_15 : ∀ r s tm, cLen64_15.run r tm s = xShift .shr (gp 0 tm) (V.nat .u64 16) fun v1 => .nrm (sp 0 v1 tm) s := reg1 3
theorem rgLen64_16 : ∀ r s tm, cLen64_16.run r tm s = xBin ⟨9, []⟩ false .add (gp 2 tm) (V.nat .i64 16) fun v1 => .nrm (sp 2 v1 tm) s := reg1 3
theorem rgLen64_20 : ∀ r s tm, cLen64_20.run r tm s = xBin ⟨9, []⟩ false .geq (gp 0 tm) (V.nat .u64 256) fun v1 => .nrm (sp 5 v1 tm) s := reg1 2
theorem rgLen64_23 : ∀ r s tm, cLen64_23.run r tm s = xShift .shr (gp 0 tm) (V.nat .u64 8) fun v1 => .nrm (sp 0 v1 tm) s := reg1 3
theorem rgLen64_24 : ∀ r s tm, cLen64_24.run r tm s = xBin ⟨9, []⟩ false .add (gp 2 tm) (V.nat .i64 8) fun v1 => .nrm (sp 2 v1 tm) s := reg1 3
theorem rgLen64_27 : ∀ r s tm, cLen64_27.run r tm s = xIntConv .u8 (gp 0 tm) fun v2 => xIndexS (V.str [0, 1, 2, 2, 3, 3, 3, 3, 4, 4, 4, 4, 4, 4, 4, 4, 5, 5, 5, 5, 5, 5, 5, 5, 5, 5, 5, 5, 5, 5, 5, 5, 6, 6, 6, 6, 6, 6, 6, 6, 6, 6, 6, 6, 6, 6, 6, 6, 6, 6, 6, 6, 6, 6, 6, 6, 6, 6, 6, 6, 6, 6, 6, 6, 7, 7, 7, 7, 7, 7, 7, 7, 7, 7, 7, 7, 7, 7, 7, 7, 7, 7, 7, 7, 7, 7, 7, 7, 7, 7, 7, 7, 7, 7, 7, 7, 7, 7, 7, 7, 7, 7, 7, 7, 7, 7, 7, 7, 7, 7, 7, 7, 7, 7, 7, 7, 7, 7, 7, 7, 7, 7, 7, 7, 7, 7, 7, 7, 8, 8, 8, 8, 8, 8, 8, 8, 8, 8, 8, 8, 8, 8, 8, 8, 8, 8, 8, 8, 8, 8, 8, 8, 8, 8, 8, 8, 8, 8, 8, 8, 8, 8, 8, 8, 8, 8, 8, 8, 8, 8, 8, 8, 8, 8, 8, 8, 8, 8, 8, 8, 8, 8, 8, 8, 8, 8, 8, 8, 8, 8, 8, 8, 8, 8, 8, 8, 8, 8, 8, 8, 8, 8, 8, 8, 8, 8, 8, 8, 8, 8, 8, 8, 8, 8, 8, 8, 8, 8, 8, 8, 8, 8, 8, 8, 8, 8, 8, 8, 8, 8, 8, 8, 8, 8, 8, 8, 8, 8, 8, 8, 8, 8, 8, 8, 8, 8, 8, 8, 8, 8, 8, 8, 8, 8, 8, 8]) v2 fun v3 => xIntConv .i64 v3 fun v4 => xBin ⟨9, []⟩ false .add (gp 2 tm) v4 fun v5 => .nrm (sp 2 v5 tm) s := reg1 7
theorem allLen64 : type_of% (And.intro rgLen64_1 <| And.intro rgLen64_4 <| And.intro rgLen64_7 <| And.intro rgLen64_8 <| And.intro rgLen64_12 <| And.intro rgLen64_15 <| And.intro rgLen64_16 <| And.intro rgLen64_20 <| And.intro rgLen64_23 <| And.intro rgLen64_24 <| And.intro rgLen64_27 <| eLen64x) := And.intro rgLen64_1 <| And.intro rgLen64_4 <| And.intro rgLen64_7 <| And.intro rgLen64_8 <| And.intro rgLen64_12 <| And.intro rgLen64_15 <| And.intro rgLen64_16 <| And.intro rgLen64_20 <| And.intro rgLen64_23 <| And.intro rgLen64_24 <| And.intro rgLen64_27 <| eLen64x
/- internal/strconv.bool2[int]: parameters 1, slots in the frame: [(0, 0), (1, 1), (2, 2), (3, 3)] -/
def fiBool2 : FI := ⟨0, 4, 6⟩
noncomputable def bodyBool2 := bodyOf Tryz.prog 122
noncomputable def cBool2_1 := comp pc0 fiBool2 (subC [0] bodyBool2)
noncomputable def cBool2_4 := comp pc0 fiBool2 (subC [1, 0, 0] bodyBool2)
noncomputable def cBool2_7 := comp pc0 fiBool2 (subC [1, 0, 1, 0, 0] bodyBool2)
noncomputable def cBool2_11 := comp pc0 fiBool2 (subC [1, 1, 0] bodyBool2)
noncomputable def cBool2_0 := comp pc0 fiBool2 bodyBool2
noncomputable def finBool2 := finN (resC pc0 fiBool2 (resOf Tryz.prog 122)).run
theorem eBool2x :
 ((∀ r s x0, (fnC pc0 122).run r [x0] s = outF (bindR (fun tm s => finBool2 tm s) (cBool2_0.run r (sp 0 x0 T.new) s))) ∧
 ((∀ s tm, finBool2 tm s = finV (gp 240 tm) (resV [(gp 2 tm)] s)) ∧
 (∀ r s tm, cBool2_0.run r tm s = seqA (fun tm s => seqA (fun tm s => seqA (fun tm s => .ret tm s) (cBool2_11.run r tm s)) (seqA (fun tm s => condV (gp 3 tm) (seqA (fun tm s => .ret tm s) (cBool2_7.run r tm s)) (.nrm tm s)) (cBool2_4.run r tm s))) (cBool2_1.run r tm s)))) := by
 and_intros <;> (intros; kernel_rfl)
theorem rgBool2_1 : ∀ r s tm, cBool2_1.run r tm s = .nrm (sp 2 (V.nat .i64 0) tm) s := reg1 1
theorem rgBool2_4 : ∀ r s tm, cBool2_4.run r tm s = .nrm (sp 3 (gp 0 tm) tm) s := reg1 1
theorem rgBool2_7 : ∀ r s tm, cBool2_7.run r tm s = .nrm (sp 2 (V.nat .i64 1) tm) s := reg1 1
theorem rgBool2_11 : ∀ r s tm, cBool2_11.run r tm s = .nrm (sp 2 (V.nat .i64 0) tm) s := reg1 1
theorem allBool2 : type_of% (And.intro rgBool2_1 <| And.intro rgBool2_4 <| And.intro rgBool2_7 <| And.intro rgBool2_11 <| eBool2x) := And.intro rgBool2_1 <| And.intro rgBool2_4 <| And.intro rgBool2_7 <| And.intro rgBool2_11 <| eBool2x

end Go.Proofs.YtdeffnjoddncnaaGreatDoor.oev
