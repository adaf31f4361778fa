/- Two calls of the closed run of TranslitKnown, out of the calls that they make. No condition. By an AI agent. -/
import Derived.Test.YtmplkbipoacmmaaGreatDoorKnQ0
import Derived.Test.YtmplkbipoacmmaaGreatDoorKnQ1
import Derived.Test.YtmplkbipoacmmaaGreatDoorKnQ2
import Derived.Test.YtmplkbipoacmmaaGreatDoorKnQ3
import Derived.Test.YtmplkbipoacmmaaGreatDoorKnQ4
import Derived.Test.YtmplkbipoacmmaaGreatDoorKnQ5
import Derived.Test.YtmplkbipoacmmaaGreatDoorKnQ6
import Derived.Test.YtmplkbipoacmmaaGreatDoorKnQ7
import Derived.Test.YtmplkbipoacmmaaGreatDoorKnQ8
import Derived.Test.YtmplkbipoacmmaaGreatDoorKnQ9
import Derived.Test.YtmplkbipoacmmaaGreatDoorKnQ10
import Derived.Test.YtmplkbipoacmmaaGreatDoorKnQ11
import Derived.Test.YtmplkbipoacmmaaGreatDoorKnQ12
import Derived.Test.YtmplkbipoacmmaaGreatDoorKnQ13
import Derived.Test.YtmplkbipoacmmaaGreatDoorKnQ14
import Derived.Test.YtmplkbipoacmmaaGreatDoorKnQ15
namespace Go.Proofs.YtmplkbipoacmmaaGreatDoor.translitKnown
open Go.Ev Go.RowKit
set_option maxRecDepth 100000
theorem no_hooks : ∀ h ∈ (pc []).hooks, HookOk Tryz.prog h := by
  rw [(pcOk []).2]; intro h hx; cases hx
noncomputable def l0 : List HF := (b0 :: (i0_0 ++ (i0_1 ++ (i0_2 ++ (i0_3 ++ (i0_4 ++ (i0_5 ++ (i0_6 ++ (i0_7 ++ (i0_8 ++ (i0_9 ++ (i0_10 ++ (i0_11 ++ [])))))))))))))
theorem known0 : ∀ h ∈ l0, CallF Tryz.prog h.f h.args h.s0 h.out :=
  (List.forall_mem_cons.2 ⟨callB_ok (pcOk []).1 no_hooks tb0, List.forall_mem_append.2 ⟨callsB_ok (pcOk []).1 no_hooks t0_0, List.forall_mem_append.2 ⟨callsB_ok (pcOk []).1 no_hooks t0_1, List.forall_mem_append.2 ⟨callsB_ok (pcOk []).1 no_hooks t0_2, List.forall_mem_append.2 ⟨callsB_ok (pcOk []).1 no_hooks t0_3, List.forall_mem_append.2 ⟨callsB_ok (pcOk []).1 no_hooks t0_4, List.forall_mem_append.2 ⟨callsB_ok (pcOk []).1 no_hooks t0_5, List.forall_mem_append.2 ⟨callsB_ok (pcOk []).1 no_hooks t0_6, List.forall_mem_append.2 ⟨callsB_ok (pcOk []).1 no_hooks t0_7, List.forall_mem_append.2 ⟨callsB_ok (pcOk []).1 no_hooks t0_8, List.forall_mem_append.2 ⟨callsB_ok (pcOk []).1 no_hooks t0_9, List.forall_mem_append.2 ⟨callsB_ok (pcOk []).1 no_hooks t0_10, List.forall_mem_append.2 ⟨callsB_ok (pcOk []).1 no_hooks t0_11, fun _ h => by cases h⟩⟩⟩⟩⟩⟩⟩⟩⟩⟩⟩⟩⟩)
theorem over0 : overB (pc []) 1500 l0 ⟨hk0.f, hk0.args, hk0.s0, .ret hk0.v hk0.s1⟩ = true := by kernel_rfl
theorem hook0 : HookOk Tryz.prog hk0 :=
  overB_ok (h := ⟨hk0.f, hk0.args, hk0.s0, .ret hk0.v hk0.s1⟩) (pcOk []).1 no_hooks known0 over0
noncomputable def l1 : List HF := (b1 :: (i1_0 ++ (i1_1 ++ [])))
theorem known1 : ∀ h ∈ l1, CallF Tryz.prog h.f h.args h.s0 h.out :=
  (List.forall_mem_cons.2 ⟨callB_ok (pcOk []).1 no_hooks tb1, List.forall_mem_append.2 ⟨callsB_ok (pcOk []).1 no_hooks t1_0, List.forall_mem_append.2 ⟨callsB_ok (pcOk []).1 no_hooks t1_1, fun _ h => by cases h⟩⟩⟩)
theorem over1 : overB (pc []) 1500 l1 ⟨hk1.f, hk1.args, hk1.s0, .ret hk1.v hk1.s1⟩ = true := by kernel_rfl
theorem hook1 : HookOk Tryz.prog hk1 :=
  overB_ok (h := ⟨hk1.f, hk1.args, hk1.s0, .ret hk1.v hk1.s1⟩) (pcOk []).1 no_hooks known1 over1
end Go.Proofs.YtmplkbipoacmmaaGreatDoor.translitKnown
