/- The calls of search in the closed run of RegexExamples: each out of the contract of search. No condition. By an AI agent. -/
import Derived.Test.YtobflfopdndfdaaGreatDoorExH
import Derived.Test.YtobflfopdndfdaaGreatDoorOvX
namespace Go.Proofs.YtobflfopdndfdaaGreatDoor.regexExamples
open Go.Ev Go.RowKit
set_option maxRecDepth 100000
noncomputable def m0 : oev.Mc := ⟨0, 0, [(some 0, [(1, 1, 0, 1), (2, 2, 0, 1)]), (some 0, [(1, 1, 0, 2), (2, 2, 0, 3)]), (none, [(1, 1, 0, 4), (2, 2, 0, 4)]), (some 0, [(1, 1, 0, 3), (2, 2, 0, 3)]), (none, [(1, 1, 0, 4), (2, 2, 0, 4)])]⟩
noncomputable def m1 : oev.Mc := ⟨0, 0, [(none, [(1, 0, 0, 1), (0, 0, 0, 2)]), (none, [(0, 0, 0, 3), (0, 0, 0, 4)]), (none, []), (none, [(0, 0, 0, 5)]), (none, []), (none, [(0, 1, 0, 6)]), (none, [(0, 0, 0, 7), (0, 0, 0, 8)]), (none, [(0, 0, 0, 9)]), (none, [(0, 0, 0, 10)]), (none, [(0, 0, 0, 11)]), (none, []), (none, [(0, 1, 0, 12)]), (none, [(0, 0, 0, 13)]), (some 0, [(0, 0, 0, 14)]), (none, [])]⟩
noncomputable def m2 : oev.Mc := ⟨0, 0, [(none, [(0, 0, 4, 1), (0, 0, 2, 3)]), (none, [(1, 1, 0, 2)]), (some 0, []), (none, [(2, 2, 0, 4)]), (some 0, [])]⟩
noncomputable def m3 : oev.Mc := ⟨0, 0, [(none, [(0, 0, 0, 3)]), (none, [(0, 0, 0, 7)]), (some 0, []), (none, [(0, 0, 0, 4), (0, 0, 0, 5)]), (none, [(0, 0, 0, 1)]), (none, [(1, 1, 0, 6)]), (none, [(0, 0, 0, 1)]), (none, [(0, 0, 0, 8), (0, 0, 0, 9)]), (none, [(0, 0, 0, 2)]), (none, [(1, 1, 0, 10)]), (none, [(0, 0, 0, 2)])]⟩
noncomputable def m4 : oev.Mc := ⟨5, 1, [(none, [(0, 0, 0, 1), (0, 0, 0, 3)]), (none, [(1, 1, 0, 2)]), (some 0, []), (none, [(2, 2, 0, 4)]), (some 0, []), (none, [(0, 0, 0, 6), (0, 0, 0, 0)]), (none, [(1, 2, 0, 7)]), (none, [(0, 0, 0, 5)])]⟩
noncomputable def m5 : oev.Mc := ⟨0, 0, [(some 0, [(0, 0, 0, 1)]), (none, [(1, 1, 0, 2)]), (none, [(0, 0, 0, 3)]), (some 0, [(0, 0, 0, 4)]), (none, [(1, 1, 0, 5)]), (none, [(0, 0, 0, 6)]), (none, [(0, 0, 0, 7)]), (none, [(1, 1, 0, 8)]), (none, [(0, 0, 0, 9)]), (some 0, [(0, 0, 0, 10)]), (none, [(1, 1, 0, 8)])]⟩
theorem hook0 : HookOk Tryz.prog hk0 :=
  oev.search_hook (s := se0) (c := [(.nat .i64 1),(.nat .i64 0),(.str [48]),(.so k1882 10 0 5 0)]) (uu := (.nil 1)) (vv := (.nil 1)) (M := m0) (u := []) (v := []) (res := some 0) (by kernel_rfl) (by kernel_rfl)
theorem hook1 : HookOk Tryz.prog hk1 :=
  oev.search_hook (s := se1) (c := [(.nat .i64 1),(.nat .i64 0),(.str [48]),(.so k3834 10 0 5 0)]) (uu := (.sl k52 0 0 1 1)) (vv := (.sl k52 0 0 1 1)) (M := m0) (u := [1]) (v := [1]) (res := some 0) (by kernel_rfl) (by kernel_rfl)
theorem hook2 : HookOk Tryz.prog hk2 :=
  oev.search_hook (s := se2) (c := [(.nat .i64 1),(.nat .i64 0),(.str [48]),(.so k5796 10 0 5 0)]) (uu := (.sl k3950 0 0 2 2)) (vv := (.sl k3951 0 0 2 2)) (M := m0) (u := [2, 2]) (v := [2, 2]) (res := some 0) (by kernel_rfl) (by kernel_rfl)
theorem hook3 : HookOk Tryz.prog hk3 :=
  oev.search_hook (s := se3) (c := [(.nat .i64 1),(.nat .i64 0),(.str [48]),(.so k7758 10 0 5 0)]) (uu := (.sl k5912 0 0 2 2)) (vv := (.sl k5913 0 0 2 2)) (M := m0) (u := [2, 1]) (v := [2, 1]) (res := none) (by kernel_rfl) (by kernel_rfl)
theorem hook4 : HookOk Tryz.prog hk4 :=
  oev.search_hook (s := se4) (c := [(.nat .i64 1),(.nat .i64 0),(.str [48]),(.so k10024 30 0 15 0)]) (uu := (.sl k52 0 0 1 1)) (vv := (.sl k7874 0 0 2 2)) (M := m1) (u := [1]) (v := [1, 1]) (res := some 0) (by kernel_rfl) (by kernel_rfl)
theorem hook5 : HookOk Tryz.prog hk5 :=
  oev.search_hook (s := se5) (c := [(.nat .i64 1),(.nat .i64 0),(.str [48]),(.so k12636 30 0 15 0)]) (uu := (.sl k52 0 0 1 1)) (vv := (.sl k10486 0 0 2 2)) (M := m1) (u := [1]) (v := [2, 2]) (res := none) (by kernel_rfl) (by kernel_rfl)
theorem hook6 : HookOk Tryz.prog hk6 :=
  oev.search_hook (s := se6) (c := [(.nat .i64 1),(.nat .i64 0),(.str [48]),(.so k14472 10 0 5 0)]) (uu := (.sl k52 0 0 1 1)) (vv := (.sl k52 0 0 1 1)) (M := m2) (u := [1]) (v := [1]) (res := some 4) (by kernel_rfl) (by kernel_rfl)
theorem hook7 : HookOk Tryz.prog hk7 :=
  oev.search_hook (s := se7) (c := [(.nat .i64 1),(.nat .i64 0),(.str [48]),(.so k15884 10 0 5 0)]) (uu := (.sl k53 0 0 1 1)) (vv := (.sl k53 0 0 1 1)) (M := m2) (u := [2]) (v := [2]) (res := some 2) (by kernel_rfl) (by kernel_rfl)
theorem hook8 : HookOk Tryz.prog hk8 :=
  oev.search_hook (s := se8) (c := [(.nat .i64 1),(.nat .i64 0),(.str [48]),(.so k16473 22 0 11 0)]) (uu := (.nil 1)) (vv := (.nil 1)) (M := m3) (u := []) (v := []) (res := some 0) (by kernel_rfl) (by kernel_rfl)
theorem hook9 : HookOk Tryz.prog hk9 :=
  oev.search_hook (s := se9) (c := [(.nat .i64 1),(.nat .i64 0),(.str [48]),(.so k17112 22 0 11 0)]) (uu := (.sl k52 0 0 1 1)) (vv := (.sl k52 0 0 1 1)) (M := m3) (u := [1]) (v := [1]) (res := some 0) (by kernel_rfl) (by kernel_rfl)
theorem hook10 : HookOk Tryz.prog hk10 :=
  oev.search_hook (s := se10) (c := [(.nat .i64 1),(.nat .i64 0),(.str [48]),(.so k17761 22 0 11 0)]) (uu := (.sl k17192 0 0 2 2)) (vv := (.sl k17193 0 0 2 2)) (M := m3) (u := [1, 1]) (v := [1, 1]) (res := some 0) (by kernel_rfl) (by kernel_rfl)
theorem hook11 : HookOk Tryz.prog hk11 :=
  oev.search_hook (s := se11) (c := [(.nat .i64 1),(.nat .i64 0),(.str [48]),(.so k18418 22 0 11 0)]) (uu := (.sl k17841 0 0 3 3)) (vv := (.sl k17842 0 0 3 3)) (M := m3) (u := [1, 1, 1]) (v := [1, 1, 1]) (res := none) (by kernel_rfl) (by kernel_rfl)
theorem hook12 : HookOk Tryz.prog hk12 :=
  oev.search_hook (s := se12) (c := [(.nat .i64 1),(.nat .i64 5),(.str [49, 47, 50]),(.so k22724 16 0 8 0)]) (uu := (.sl k20996 0 0 2 2)) (vv := (.sl k20997 0 0 2 2)) (M := m4) (u := [1, 1]) (v := [2, 1]) (res := some 1) (by kernel_rfl) (by kernel_rfl)
theorem hook13 : HookOk Tryz.prog hk13 :=
  oev.search_hook (s := se13) (c := [(.nat .i64 1),(.nat .i64 5),(.str [49, 47, 50]),(.so k24501 16 0 8 0)]) (uu := (.sl k22786 0 0 1 1)) (vv := (.nil 1)) (M := m4) (u := [1]) (v := []) (res := none) (by kernel_rfl) (by kernel_rfl)
theorem hook14 : HookOk Tryz.prog hk14 :=
  oev.search_hook (s := se14) (c := [(.nat .i64 1),(.nat .i64 0),(.str [48]),(.so k25860 22 0 11 0)]) (uu := (.sl k24563 0 0 1 1)) (vv := (.sl k24564 0 0 1 1)) (M := m5) (u := [1]) (v := [1]) (res := some 0) (by kernel_rfl) (by kernel_rfl)
theorem hook15 : HookOk Tryz.prog hk15 :=
  oev.search_hook (s := se15) (c := [(.nat .i64 1),(.nat .i64 0),(.str [48]),(.so k27282 22 0 11 0)]) (uu := (.sl k25977 0 0 2 2)) (vv := (.sl k25978 0 0 2 2)) (M := m5) (u := [1, 1]) (v := [1, 1]) (res := none) (by kernel_rfl) (by kernel_rfl)
end Go.Proofs.YtobflfopdndfdaaGreatDoor.regexExamples
