/- What the evaluator knows at some calls of the closed run of TranslitKnown. No statement of the seat stands here. No condition. By an AI agent. -/
import Derived.Test.YtmplkbipoacmmaaGreatDoorKnD0
namespace Go.Proofs.YtmplkbipoacmmaaGreatDoor.translitKnown
open Go.Ev Go.RowKit
set_option maxRecDepth 100000
def a0_129 : S := ⟨(tn (tn (tn (.nd .lf (.row [(.nat .i64 1),(.nat .i64 2)] 2 3 false 0 0 0) .lf) (.nd .lf (.row [(.sl k7 0 0 1 1),(.sl k8 0 0 2 2)] 2
  34 false 0 0 0) .lf)) (.nd (.nd .lf (.row [(.nat .i64 1),(.nat .i64 1)] 2 3 false 0 0 0) .lf) (.row [(.nat .i64 3)] 1 3 false 0 0 0) (tl (tl (tr
  (.nd .lf (.row [(.sl k99 0 0 1 1),(.nat .i64 2),(.nat .i64 0),(.sl k103 0 0 1 1),(.nat .i64 1),(.nat .i64 1),(.sl k111 0 0 1 1),(.nat .i64 3),(.nat
  .i64 0),(.sl k5 0 0 2 2),(.nat .i64 3),(.nat .i64 2)] 12 143 true 0 0 0) .lf)))))) (tn (.nd (.nd .lf (.row [(.nat .i64 1)] 1 3 false 0 0 0) (tr (tl
  (tl (.nd .lf (.row [(.sl k146 0 0 1 1),(.nat .i64 1),(.nat .i64 1),(.sl k154 0 0 1 1),(.nat .i64 3),(.nat .i64 0),(.sl k159 0 0 1 1),(.nat .i64
  2),(.nat .i64 0),(.sl k5 0 0 2 2),(.nat .i64 3),(.nat .i64 2)] 12 143 true 0 0 0) .lf))))) (.row [(.nat .i64 1),(.nat .i64 2)] 2 3 false 0 0 0) (.nd
  .lf (.row [(.sl k9 0 0 1 1),(.sl k10 0 0 2 2)] 2 34 false 0 0 0) (tr (tl (.nd .lf (.row [(.so k102 12 0 4 0),(.so k131 9 0 3 0),(.so k153 12 0 4 0)]
  3 141 true 3 0 0) .lf))))) (.nd (.nd (tl (tn (tl (.nd .lf (.row [(.sl k126 0 0 1 1),(.nat .i64 3),(.nat .i64 0),(.sl k132 0 0 1 1),(.nat .i64
  1),(.nat .i64 1),(.sl k5 0 0 2 2),(.nat .i64 3),(.nat .i64 2)] 9 143 true 0 0 0) .lf)) (.nd .lf (.row [(.nat .i64 2)] 1 3 false 0 0 0) .lf))) (.row
  [(.sl k5 0 0 2 2),(.sl k6 0 0 1 1)] 2 34 false 0 0 0) (tr (tl (.nd .lf (.row [(.so k93 3 0 3 0),(.so k95 3 0 3 0),(.so k97 3 0 3 0),(.ref 0 k90)] 4
  94 false 0 0 0) .lf)))) (.row [(.nat .i64 3)] 1 3 false 0 0 0) (tn (tl (tr (.nd .lf (.row [(.nat .i64 1)] 1 3 false 0 0 0) .lf))) (tn (tr (.nd .lf
  (.row [(.nat .i64 3)] 1 3 false 0 0 0) .lf)) (tl (.nd .lf (.row [(.bool true),(.bool true),(.bool true)] 3 4 true 0 0 0) .lf))))))), k329⟩
def a0_130 : S := ⟨(tn (tn (tn (.nd .lf (.row [(.nat .i64 1),(.nat .i64 2)] 2 3 false 0 0 0) .lf) (.nd .lf (.row [(.sl k7 0 0 1 1),(.sl k8 0 0 2 2)] 2
  34 false 0 0 0) .lf)) (.nd (.nd .lf (.row [(.nat .i64 1),(.nat .i64 1)] 2 3 false 0 0 0) .lf) (.row [(.nat .i64 3)] 1 3 false 0 0 0) (tl (tl (tr
  (.nd .lf (.row [(.sl k99 0 0 1 1),(.nat .i64 2),(.nat .i64 0),(.sl k103 0 0 1 1),(.nat .i64 1),(.nat .i64 1),(.sl k111 0 0 1 1),(.nat .i64 3),(.nat
  .i64 0),(.sl k5 0 0 2 2),(.nat .i64 3),(.nat .i64 2)] 12 143 true 0 0 0) .lf)))))) (tn (.nd (.nd .lf (.row [(.nat .i64 1)] 1 3 false 0 0 0) (tr (tl
  (tl (.nd .lf (.row [(.sl k146 0 0 1 1),(.nat .i64 1),(.nat .i64 1),(.sl k154 0 0 1 1),(.nat .i64 2),(.nat .i64 0),(.sl k159 0 0 1 1),(.nat .i64
  3),(.nat .i64 0),(.sl k5 0 0 2 2),(.nat .i64 3),(.nat .i64 2)] 12 143 true 0 0 0) .lf))))) (.row [(.nat .i64 1),(.nat .i64 2)] 2 3 false 0 0 0) (.nd
  .lf (.row [(.sl k9 0 0 1 1),(.sl k10 0 0 2 2)] 2 34 false 0 0 0) (tr (tl (.nd .lf (.row [(.so k102 12 0 4 0),(.so k131 9 0 3 0),(.so k153 12 0 4 0)]
  3 141 true 3 0 0) .lf))))) (.nd (.nd (tl (tn (tl (.nd .lf (.row [(.sl k126 0 0 1 1),(.nat .i64 3),(.nat .i64 0),(.sl k132 0 0 1 1),(.nat .i64
  1),(.nat .i64 1),(.sl k5 0 0 2 2),(.nat .i64 3),(.nat .i64 2)] 9 143 true 0 0 0) .lf)) (.nd .lf (.row [(.nat .i64 2)] 1 3 false 0 0 0) .lf))) (.row
  [(.sl k5 0 0 2 2),(.sl k6 0 0 1 1)] 2 34 false 0 0 0) (tr (tl (.nd .lf (.row [(.so k93 3 0 3 0),(.so k95 3 0 3 0),(.so k97 3 0 3 0),(.ref 0 k90)] 4
  94 false 0 0 0) .lf)))) (.row [(.nat .i64 3)] 1 3 false 0 0 0) (tn (tl (tr (.nd .lf (.row [(.nat .i64 1)] 1 3 false 0 0 0) .lf))) (tn (tr (.nd .lf
  (.row [(.nat .i64 3)] 1 3 false 0 0 0) .lf)) (tl (.nd .lf (.row [(.bool true),(.bool true),(.bool true)] 3 4 true 0 0 0) .lf))))))), k330⟩
def a0_131 : S := ⟨(tn (tn (tn (.nd .lf (.row [(.nat .i64 1),(.nat .i64 2)] 2 3 false 0 0 0) .lf) (.nd .lf (.row [(.sl k7 0 0 1 1),(.sl k8 0 0 2 2)] 2
  34 false 0 0 0) .lf)) (.nd (.nd .lf (.row [(.nat .i64 1),(.nat .i64 1)] 2 3 false 0 0 0) .lf) (.row [(.nat .i64 3)] 1 3 false 0 0 0) (tl (tl (tr
  (.nd .lf (.row [(.sl k99 0 0 1 1),(.nat .i64 2),(.nat .i64 0),(.sl k103 0 0 1 1),(.nat .i64 1),(.nat .i64 1),(.sl k111 0 0 1 1),(.nat .i64 3),(.nat
  .i64 0),(.sl k5 0 0 2 2),(.nat .i64 3),(.nat .i64 2)] 12 143 true 0 0 0) .lf)))))) (tn (.nd (.nd .lf (.row [(.nat .i64 1)] 1 3 false 0 0 0) .lf)
  (.row [(.nat .i64 1),(.nat .i64 2)] 2 3 false 0 0 0) (.nd .lf (.row [(.sl k9 0 0 1 1),(.sl k10 0 0 2 2)] 2 34 false 0 0 0) (tr (tl (.nd .lf (.row
  [(.so k102 12 0 4 0),(.so k131 9 0 3 0),(.so k151 12 0 4 0)] 3 141 true 3 0 0) .lf))))) (.nd (.nd (tl (tn (tl (.nd .lf (.row [(.sl k126 0 0 1
  1),(.nat .i64 3),(.nat .i64 0),(.sl k132 0 0 1 1),(.nat .i64 1),(.nat .i64 1),(.sl k5 0 0 2 2),(.nat .i64 3),(.nat .i64 2)] 9 143 true 0 0 0) .lf))
  (.nd .lf (.row [(.nat .i64 2)] 1 3 false 0 0 0) .lf))) (.row [(.sl k5 0 0 2 2),(.sl k6 0 0 1 1)] 2 34 false 0 0 0) (tr (tl (.nd .lf (.row [(.so k93
  3 0 3 0),(.so k95 3 0 3 0),(.so k97 3 0 3 0),(.ref 0 k90)] 4 94 false 0 0 0) .lf)))) (.row [(.nat .i64 3)] 1 3 false 0 0 0) (tn (tn (tr (.nd .lf
  (.row [(.nat .i64 1)] 1 3 false 0 0 0) .lf)) (tl (tl (.nd .lf (.row [(.sl k146 0 0 1 1),(.nat .i64 3),(.nat .i64 0),(.sl k152 0 0 1 1),(.nat .i64
  2),(.nat .i64 0),(.sl k157 0 0 1 1),(.nat .i64 1),(.nat .i64 1),(.sl k5 0 0 2 2),(.nat .i64 3),(.nat .i64 2)] 12 143 true 0 0 0) .lf)))) (tn (tr
  (.nd .lf (.row [(.nat .i64 3)] 1 3 false 0 0 0) .lf)) (tl (.nd .lf (.row [(.bool true),(.bool true),(.bool true)] 3 4 true 0 0 0) .lf))))))), k331⟩
def a0_132 : S := ⟨(tn (tn (tn (.nd .lf (.row [(.nat .i64 1),(.nat .i64 2)] 2 3 false 0 0 0) .lf) (.nd .lf (.row [(.sl k7 0 0 1 1),(.sl k8 0 0 2 2)] 2
  34 false 0 0 0) .lf)) (.nd (.nd .lf (.row [(.nat .i64 1),(.nat .i64 1)] 2 3 false 0 0 0) .lf) (.row [(.nat .i64 3)] 1 3 false 0 0 0) (tl (tl (tr
  (.nd .lf (.row [(.sl k99 0 0 1 1),(.nat .i64 2),(.nat .i64 0),(.sl k103 0 0 1 1),(.nat .i64 1),(.nat .i64 1),(.sl k111 0 0 1 1),(.nat .i64 3),(.nat
  .i64 0),(.sl k5 0 0 2 2),(.nat .i64 3),(.nat .i64 2)] 12 143 true 0 0 0) .lf)))))) (tn (.nd (.nd .lf (.row [(.nat .i64 1)] 1 3 false 0 0 0) .lf)
  (.row [(.nat .i64 1),(.nat .i64 2)] 2 3 false 0 0 0) (.nd .lf (.row [(.sl k9 0 0 1 1),(.sl k10 0 0 2 2)] 2 34 false 0 0 0) (tr (tl (.nd .lf (.row
  [(.so k102 12 0 4 0),(.so k127 9 0 3 0),(.so k151 12 0 4 0)] 3 141 true 3 0 0) .lf))))) (.nd (.nd (tl (tr (.nd .lf (.row [(.nat .i64 2)] 1 3 false 0
  0 0) .lf))) (.row [(.sl k5 0 0 2 2),(.sl k6 0 0 1 1)] 2 34 false 0 0 0) (tr (tl (.nd .lf (.row [(.so k93 3 0 3 0),(.so k95 3 0 3 0),(.so k97 3 0 3
  0),(.ref 0 k90)] 4 94 false 0 0 0) .lf)))) (.row [(.nat .i64 3)] 1 3 false 0 0 0) (tn (tn (tr (.nd .lf (.row [(.nat .i64 1)] 1 3 false 0 0 0) .lf))
  (tl (tl (.nd .lf (.row [(.sl k146 0 0 1 1),(.nat .i64 3),(.nat .i64 0),(.sl k152 0 0 1 1),(.nat .i64 1),(.nat .i64 1),(.sl k159 0 0 1 1),(.nat .i64
  2),(.nat .i64 0),(.sl k5 0 0 2 2),(.nat .i64 3),(.nat .i64 2)] 12 143 true 0 0 0) .lf)))) (tn (tr (.nd .lf (.row [(.nat .i64 3)] 1 3 false 0 0 0)
  .lf)) (tn (.nd .lf (.row [(.bool true),(.bool true),(.bool true)] 3 4 true 0 0 0) .lf) (.nd .lf (.row [(.sl k122 0 0 1 1),(.nat .i64 3),(.nat .i64
  0),(.sl k128 0 0 1 1),(.nat .i64 1),(.nat .i64 1),(.sl k5 0 0 2 2),(.nat .i64 3),(.nat .i64 2)] 9 143 true 0 0 0) .lf))))))), k332⟩
def a0_133 : S := ⟨(tn (tn (tn (.nd .lf (.row [(.nat .i64 1),(.nat .i64 2)] 2 3 false 0 0 0) .lf) (.nd .lf (.row [(.sl k7 0 0 1 1),(.sl k8 0 0 2 2)] 2
  34 false 0 0 0) .lf)) (.nd (.nd .lf (.row [(.nat .i64 1),(.nat .i64 1)] 2 3 false 0 0 0) .lf) (.row [(.nat .i64 3)] 1 3 false 0 0 0) (tl (tl (tr
  (.nd .lf (.row [(.sl k99 0 0 1 1),(.nat .i64 2),(.nat .i64 0),(.sl k103 0 0 1 1),(.nat .i64 1),(.nat .i64 1),(.sl k111 0 0 1 1),(.nat .i64 3),(.nat
  .i64 0),(.sl k5 0 0 2 2),(.nat .i64 3),(.nat .i64 2)] 12 143 true 0 0 0) .lf)))))) (tn (.nd (.nd .lf (.row [(.nat .i64 1)] 1 3 false 0 0 0) .lf)
  (.row [(.nat .i64 1),(.nat .i64 2)] 2 3 false 0 0 0) (.nd .lf (.row [(.sl k9 0 0 1 1),(.sl k10 0 0 2 2)] 2 34 false 0 0 0) (tr (tl (.nd .lf (.row
  [(.so k102 12 0 4 0),(.so k127 9 0 3 0),(.so k151 12 0 4 0)] 3 141 true 3 0 0) .lf))))) (.nd (.nd (tl (tr (.nd .lf (.row [(.nat .i64 2)] 1 3 false 0
  0 0) .lf))) (.row [(.sl k5 0 0 2 2),(.sl k6 0 0 1 1)] 2 34 false 0 0 0) (tr (tl (.nd .lf (.row [(.so k93 3 0 3 0),(.so k95 3 0 3 0),(.so k97 3 0 3
  0),(.ref 0 k90)] 4 94 false 0 0 0) .lf)))) (.row [(.nat .i64 3)] 1 3 false 0 0 0) (tn (tn (tr (.nd .lf (.row [(.nat .i64 1)] 1 3 false 0 0 0) .lf))
  (tl (tl (.nd .lf (.row [(.sl k146 0 0 1 1),(.nat .i64 2),(.nat .i64 0),(.sl k152 0 0 1 1),(.nat .i64 3),(.nat .i64 0),(.sl k157 0 0 1 1),(.nat .i64
  1),(.nat .i64 1),(.sl k5 0 0 2 2),(.nat .i64 3),(.nat .i64 2)] 12 143 true 0 0 0) .lf)))) (tn (tr (.nd .lf (.row [(.nat .i64 3)] 1 3 false 0 0 0)
  .lf)) (tn (.nd .lf (.row [(.bool true),(.bool true),(.bool true)] 3 4 true 0 0 0) .lf) (.nd .lf (.row [(.sl k122 0 0 1 1),(.nat .i64 3),(.nat .i64
  0),(.sl k128 0 0 1 1),(.nat .i64 1),(.nat .i64 1),(.sl k5 0 0 2 2),(.nat .i64 3),(.nat .i64 2)] 9 143 true 0 0 0) .lf))))))), k333⟩
def a0_134 : S := ⟨(tn (tn (tn (.nd .lf (.row [(.nat .i64 1),(.nat .i64 2)] 2 3 false 0 0 0) .lf) (.nd .lf (.row [(.sl k7 0 0 1 1),(.sl k8 0 0 2 2)] 2
  34 false 0 0 0) .lf)) (.nd (.nd .lf (.row [(.nat .i64 1),(.nat .i64 1)] 2 3 false 0 0 0) .lf) (.row [(.nat .i64 3)] 1 3 false 0 0 0) (tl (tl (tr
  (.nd .lf (.row [(.sl k99 0 0 1 1),(.nat .i64 2),(.nat .i64 0),(.sl k103 0 0 1 1),(.nat .i64 1),(.nat .i64 1),(.sl k111 0 0 1 1),(.nat .i64 3),(.nat
  .i64 0),(.sl k5 0 0 2 2),(.nat .i64 3),(.nat .i64 2)] 12 143 true 0 0 0) .lf)))))) (tn (.nd (.nd .lf (.row [(.nat .i64 1)] 1 3 false 0 0 0) .lf)
  (.row [(.nat .i64 1),(.nat .i64 2)] 2 3 false 0 0 0) (.nd .lf (.row [(.sl k9 0 0 1 1),(.sl k10 0 0 2 2)] 2 34 false 0 0 0) (tr (tl (.nd .lf (.row
  [(.so k102 12 0 4 0),(.so k127 9 0 3 0),(.so k151 12 0 4 0)] 3 141 true 3 0 0) .lf))))) (.nd (.nd (tl (tr (.nd .lf (.row [(.nat .i64 2)] 1 3 false 0
  0 0) .lf))) (.row [(.sl k5 0 0 2 2),(.sl k6 0 0 1 1)] 2 34 false 0 0 0) (tr (tl (.nd .lf (.row [(.so k93 3 0 3 0),(.so k95 3 0 3 0),(.so k97 3 0 3
  0),(.ref 0 k90)] 4 94 false 0 0 0) .lf)))) (.row [(.nat .i64 3)] 1 3 false 0 0 0) (tn (tn (tr (.nd .lf (.row [(.nat .i64 1)] 1 3 false 0 0 0) .lf))
  (tl (tl (.nd .lf (.row [(.sl k146 0 0 1 1),(.nat .i64 2),(.nat .i64 0),(.sl k152 0 0 1 1),(.nat .i64 1),(.nat .i64 1),(.sl k159 0 0 1 1),(.nat .i64
  3),(.nat .i64 0),(.sl k5 0 0 2 2),(.nat .i64 3),(.nat .i64 2)] 12 143 true 0 0 0) .lf)))) (tn (tr (.nd .lf (.row [(.nat .i64 3)] 1 3 false 0 0 0)
  .lf)) (tn (.nd .lf (.row [(.bool true),(.bool true),(.bool true)] 3 4 true 0 0 0) .lf) (.nd .lf (.row [(.sl k122 0 0 1 1),(.nat .i64 3),(.nat .i64
  0),(.sl k128 0 0 1 1),(.nat .i64 1),(.nat .i64 1),(.sl k5 0 0 2 2),(.nat .i64 3),(.nat .i64 2)] 9 143 true 0 0 0) .lf))))))), k334⟩
def a0_135 : S := ⟨(tn (tn (tn (.nd .lf (.row [(.nat .i64 1),(.nat .i64 2)] 2 3 false 0 0 0) .lf) (.nd .lf (.row [(.sl k7 0 0 1 1),(.sl k8 0 0 2 2)] 2
  34 false 0 0 0) .lf)) (.nd (.nd .lf (.row [(.nat .i64 1),(.nat .i64 1)] 2 3 false 0 0 0) .lf) (.row [(.nat .i64 3)] 1 3 false 0 0 0) (tl (tl (tr
  (.nd .lf (.row [(.sl k99 0 0 1 1),(.nat .i64 2),(.nat .i64 0),(.sl k103 0 0 1 1),(.nat .i64 1),(.nat .i64 1),(.sl k111 0 0 1 1),(.nat .i64 3),(.nat
  .i64 0),(.sl k5 0 0 2 2),(.nat .i64 3),(.nat .i64 2)] 12 143 true 0 0 0) .lf)))))) (tn (.nd (.nd .lf (.row [(.nat .i64 1)] 1 3 false 0 0 0) (tr (tl
  (tl (.nd .lf (.row [(.sl k146 0 0 1 1),(.nat .i64 1),(.nat .i64 1),(.sl k154 0 0 1 1),(.nat .i64 3),(.nat .i64 0),(.sl k159 0 0 1 1),(.nat .i64
  2),(.nat .i64 0),(.sl k5 0 0 2 2),(.nat .i64 3),(.nat .i64 2)] 12 143 true 0 0 0) .lf))))) (.row [(.nat .i64 1),(.nat .i64 2)] 2 3 false 0 0 0) (.nd
  .lf (.row [(.sl k9 0 0 1 1),(.sl k10 0 0 2 2)] 2 34 false 0 0 0) (tr (tl (.nd .lf (.row [(.so k102 12 0 4 0),(.so k127 9 0 3 0),(.so k153 12 0 4 0)]
  3 141 true 3 0 0) .lf))))) (.nd (.nd (tl (tr (.nd .lf (.row [(.nat .i64 2)] 1 3 false 0 0 0) .lf))) (.row [(.sl k5 0 0 2 2),(.sl k6 0 0 1 1)] 2 34
  false 0 0 0) (tr (tl (.nd .lf (.row [(.so k93 3 0 3 0),(.so k95 3 0 3 0),(.so k97 3 0 3 0),(.ref 0 k90)] 4 94 false 0 0 0) .lf)))) (.row [(.nat .i64
  3)] 1 3 false 0 0 0) (tn (tl (tr (.nd .lf (.row [(.nat .i64 1)] 1 3 false 0 0 0) .lf))) (tn (tr (.nd .lf (.row [(.nat .i64 3)] 1 3 false 0 0 0)
  .lf)) (tn (.nd .lf (.row [(.bool true),(.bool true),(.bool true)] 3 4 true 0 0 0) .lf) (.nd .lf (.row [(.sl k122 0 0 1 1),(.nat .i64 3),(.nat .i64
  0),(.sl k128 0 0 1 1),(.nat .i64 1),(.nat .i64 1),(.sl k5 0 0 2 2),(.nat .i64 3),(.nat .i64 2)] 9 143 true 0 0 0) .lf))))))), k335⟩
def a0_136 : S := ⟨(tn (tn (tn (.nd .lf (.row [(.nat .i64 1),(.nat .i64 2)] 2 3 false 0 0 0) .lf) (.nd .lf (.row [(.sl k7 0 0 1 1),(.sl k8 0 0 2 2)] 2
  34 false 0 0 0) .lf)) (.nd (.nd .lf (.row [(.nat .i64 1),(.nat .i64 1)] 2 3 false 0 0 0) .lf) (.row [(.nat .i64 3)] 1 3 false 0 0 0) (tl (tl (tr
  (.nd .lf (.row [(.sl k99 0 0 1 1),(.nat .i64 2),(.nat .i64 0),(.sl k103 0 0 1 1),(.nat .i64 1),(.nat .i64 1),(.sl k111 0 0 1 1),(.nat .i64 3),(.nat
  .i64 0),(.sl k5 0 0 2 2),(.nat .i64 3),(.nat .i64 2)] 12 143 true 0 0 0) .lf)))))) (tn (.nd (.nd .lf (.row [(.nat .i64 1)] 1 3 false 0 0 0) (tr (tl
  (tl (.nd .lf (.row [(.sl k146 0 0 1 1),(.nat .i64 1),(.nat .i64 1),(.sl k154 0 0 1 1),(.nat .i64 2),(.nat .i64 0),(.sl k159 0 0 1 1),(.nat .i64
  3),(.nat .i64 0),(.sl k5 0 0 2 2),(.nat .i64 3),(.nat .i64 2)] 12 143 true 0 0 0) .lf))))) (.row [(.nat .i64 1),(.nat .i64 2)] 2 3 false 0 0 0) (.nd
  .lf (.row [(.sl k9 0 0 1 1),(.sl k10 0 0 2 2)] 2 34 false 0 0 0) (tr (tl (.nd .lf (.row [(.so k102 12 0 4 0),(.so k127 9 0 3 0),(.so k153 12 0 4 0)]
  3 141 true 3 0 0) .lf))))) (.nd (.nd (tl (tr (.nd .lf (.row [(.nat .i64 2)] 1 3 false 0 0 0) .lf))) (.row [(.sl k5 0 0 2 2),(.sl k6 0 0 1 1)] 2 34
  false 0 0 0) (tr (tl (.nd .lf (.row [(.so k93 3 0 3 0),(.so k95 3 0 3 0),(.so k97 3 0 3 0),(.ref 0 k90)] 4 94 false 0 0 0) .lf)))) (.row [(.nat .i64
  3)] 1 3 false 0 0 0) (tn (tl (tr (.nd .lf (.row [(.nat .i64 1)] 1 3 false 0 0 0) .lf))) (tn (tr (.nd .lf (.row [(.nat .i64 3)] 1 3 false 0 0 0)
  .lf)) (tn (.nd .lf (.row [(.bool true),(.bool true),(.bool true)] 3 4 true 0 0 0) .lf) (.nd .lf (.row [(.sl k122 0 0 1 1),(.nat .i64 3),(.nat .i64
  0),(.sl k128 0 0 1 1),(.nat .i64 1),(.nat .i64 1),(.sl k5 0 0 2 2),(.nat .i64 3),(.nat .i64 2)] 9 143 true 0 0 0) .lf))))))), k336⟩
def a0_137 : S := ⟨(tn (tn (tn (.nd .lf (.row [(.nat .i64 1),(.nat .i64 2)] 2 3 false 0 0 0) .lf) (.nd .lf (.row [(.sl k7 0 0 1 1),(.sl k8 0 0 2 2)] 2
  34 false 0 0 0) .lf)) (.nd (.nd .lf (.row [(.nat .i64 1),(.nat .i64 1)] 2 3 false 0 0 0) .lf) (.row [(.nat .i64 3)] 1 3 false 0 0 0) (tl (tl (tr
  (.nd .lf (.row [(.sl k99 0 0 1 1),(.nat .i64 2),(.nat .i64 0),(.sl k103 0 0 1 1),(.nat .i64 1),(.nat .i64 1),(.sl k111 0 0 1 1),(.nat .i64 3),(.nat
  .i64 0),(.sl k5 0 0 2 2),(.nat .i64 3),(.nat .i64 2)] 12 143 true 0 0 0) .lf)))))) (tn (.nd (.nd .lf (.row [(.nat .i64 1)] 1 3 false 0 0 0) .lf)
  (.row [(.nat .i64 1),(.nat .i64 2)] 2 3 false 0 0 0) (.nd .lf (.row [(.sl k9 0 0 1 1),(.sl k10 0 0 2 2)] 2 34 false 0 0 0) (tr (tl (.nd .lf (.row
  [(.so k102 12 0 4 0),(.so k127 9 0 3 0),(.so k151 12 0 4 0)] 3 141 true 3 0 0) .lf))))) (.nd (.nd (tl (tr (.nd .lf (.row [(.nat .i64 2)] 1 3 false 0
  0 0) .lf))) (.row [(.sl k5 0 0 2 2),(.sl k6 0 0 1 1)] 2 34 false 0 0 0) (tr (tl (.nd .lf (.row [(.so k93 3 0 3 0),(.so k95 3 0 3 0),(.so k97 3 0 3
  0),(.ref 0 k90)] 4 94 false 0 0 0) .lf)))) (.row [(.nat .i64 3)] 1 3 false 0 0 0) (tn (tn (tr (.nd .lf (.row [(.nat .i64 1)] 1 3 false 0 0 0) .lf))
  (tl (tl (.nd .lf (.row [(.sl k146 0 0 1 1),(.nat .i64 3),(.nat .i64 0),(.sl k152 0 0 1 1),(.nat .i64 2),(.nat .i64 0),(.sl k157 0 0 1 1),(.nat .i64
  1),(.nat .i64 1),(.sl k5 0 0 2 2),(.nat .i64 3),(.nat .i64 2)] 12 143 true 0 0 0) .lf)))) (tn (tr (.nd .lf (.row [(.nat .i64 3)] 1 3 false 0 0 0)
  .lf)) (tn (.nd .lf (.row [(.bool true),(.bool true),(.bool true)] 3 4 true 0 0 0) .lf) (.nd .lf (.row [(.sl k122 0 0 1 1),(.nat .i64 3),(.nat .i64
  0),(.sl k128 0 0 1 1),(.nat .i64 1),(.nat .i64 1),(.sl k5 0 0 2 2),(.nat .i64 3),(.nat .i64 2)] 9 143 true 0 0 0) .lf))))))), k337⟩
def a0_138 : S := ⟨(tn (tn (tn (.nd .lf (.row [(.nat .i64 1),(.nat .i64 2)] 2 3 false 0 0 0) .lf) (.nd .lf (.row [(.sl k7 0 0 1 1),(.sl k8 0 0 2 2)] 2
  34 false 0 0 0) .lf)) (.nd (.nd .lf (.row [(.nat .i64 1),(.nat .i64 1)] 2 3 false 0 0 0) .lf) (.row [(.nat .i64 3)] 1 3 false 0 0 0) (tl (tl (tr
  (.nd .lf (.row [(.sl k99 0 0 1 1),(.nat .i64 2),(.nat .i64 0),(.sl k103 0 0 1 1),(.nat .i64 1),(.nat .i64 1),(.sl k111 0 0 1 1),(.nat .i64 3),(.nat
  .i64 0),(.sl k5 0 0 2 2),(.nat .i64 3),(.nat .i64 2)] 12 143 true 0 0 0) .lf)))))) (tn (.nd (.nd .lf (.row [(.nat .i64 1)] 1 3 false 0 0 0) (tr (tl
  (tl (.nd .lf (.row [(.sl k146 0 0 1 1),(.nat .i64 1),(.nat .i64 1),(.sl k154 0 0 1 1),(.nat .i64 2),(.nat .i64 0),(.sl k159 0 0 1 1),(.nat .i64
  3),(.nat .i64 0),(.sl k5 0 0 2 2),(.nat .i64 3),(.nat .i64 2)] 12 143 true 0 0 0) .lf))))) (.row [(.nat .i64 1),(.nat .i64 2)] 2 3 false 0 0 0) (.nd
  .lf (.row [(.sl k9 0 0 1 1),(.sl k10 0 0 2 2)] 2 34 false 0 0 0) (tr (tl (.nd .lf (.row [(.so k102 12 0 4 0),(.so k127 9 0 3 0),(.so k153 12 0 4 0)]
  3 141 true 3 0 0) .lf))))) (.nd (.nd (tl (tr (.nd .lf (.row [(.nat .i64 2)] 1 3 false 0 0 0) .lf))) (.row [(.sl k5 0 0 2 2),(.sl k6 0 0 1 1)] 2 34
  false 0 0 0) (tr (tl (.nd .lf (.row [(.so k93 3 0 3 0),(.so k95 3 0 3 0),(.so k97 3 0 3 0),(.ref 0 k90)] 4 94 false 0 0 0) .lf)))) (.row [(.nat .i64
  3)] 1 3 false 0 0 0) (tn (tl (tr (.nd .lf (.row [(.nat .i64 1)] 1 3 false 0 0 0) .lf))) (tn (tr (.nd .lf (.row [(.nat .i64 3)] 1 3 false 0 0 0)
  .lf)) (tn (.nd .lf (.row [(.bool true),(.bool true),(.bool true)] 3 4 true 0 0 0) .lf) (.nd .lf (.row [(.sl k122 0 0 1 1),(.nat .i64 3),(.nat .i64
  0),(.sl k132 0 0 1 1),(.nat .i64 1),(.nat .i64 1),(.sl k5 0 0 2 2),(.nat .i64 3),(.nat .i64 2)] 9 143 true 0 0 0) .lf))))))), k338⟩
def a0_139 : S := ⟨(tn (tn (tn (.nd .lf (.row [(.nat .i64 1),(.nat .i64 2)] 2 3 false 0 0 0) .lf) (.nd .lf (.row [(.sl k7 0 0 1 1),(.sl k8 0 0 2 2)] 2
  34 false 0 0 0) .lf)) (.nd (.nd .lf (.row [(.nat .i64 1),(.nat .i64 1)] 2 3 false 0 0 0) .lf) (.row [(.nat .i64 3)] 1 3 false 0 0 0) (tl (tl (tr
  (.nd .lf (.row [(.sl k99 0 0 1 1),(.nat .i64 2),(.nat .i64 0),(.sl k103 0 0 1 1),(.nat .i64 1),(.nat .i64 1),(.sl k111 0 0 1 1),(.nat .i64 3),(.nat
  .i64 0),(.sl k5 0 0 2 2),(.nat .i64 3),(.nat .i64 2)] 12 143 true 0 0 0) .lf)))))) (tn (.nd (.nd .lf (.row [(.nat .i64 1)] 1 3 false 0 0 0) (tr (tl
  (tl (.nd .lf (.row [(.sl k146 0 0 1 1),(.nat .i64 1),(.nat .i64 1),(.sl k154 0 0 1 1),(.nat .i64 3),(.nat .i64 0),(.sl k159 0 0 1 1),(.nat .i64
  2),(.nat .i64 0),(.sl k5 0 0 2 2),(.nat .i64 3),(.nat .i64 2)] 12 143 true 0 0 0) .lf))))) (.row [(.nat .i64 1),(.nat .i64 2)] 2 3 false 0 0 0) (.nd
  .lf (.row [(.sl k9 0 0 1 1),(.sl k10 0 0 2 2)] 2 34 false 0 0 0) (tr (tl (.nd .lf (.row [(.so k102 12 0 4 0),(.so k127 9 0 3 0),(.so k153 12 0 4 0)]
  3 141 true 3 0 0) .lf))))) (.nd (.nd (tl (tr (.nd .lf (.row [(.nat .i64 2)] 1 3 false 0 0 0) .lf))) (.row [(.sl k5 0 0 2 2),(.sl k6 0 0 1 1)] 2 34
  false 0 0 0) (tr (tl (.nd .lf (.row [(.so k93 3 0 3 0),(.so k95 3 0 3 0),(.so k97 3 0 3 0),(.ref 0 k90)] 4 94 false 0 0 0) .lf)))) (.row [(.nat .i64
  3)] 1 3 false 0 0 0) (tn (tl (tr (.nd .lf (.row [(.nat .i64 1)] 1 3 false 0 0 0) .lf))) (tn (tr (.nd .lf (.row [(.nat .i64 3)] 1 3 false 0 0 0)
  .lf)) (tn (.nd .lf (.row [(.bool true),(.bool true),(.bool true)] 3 4 true 0 0 0) .lf) (.nd .lf (.row [(.sl k122 0 0 1 1),(.nat .i64 3),(.nat .i64
  0),(.sl k132 0 0 1 1),(.nat .i64 1),(.nat .i64 1),(.sl k5 0 0 2 2),(.nat .i64 3),(.nat .i64 2)] 9 143 true 0 0 0) .lf))))))), k339⟩
def a0_140 : S := ⟨(tn (tn (tn (.nd .lf (.row [(.nat .i64 1),(.nat .i64 2)] 2 3 false 0 0 0) .lf) (.nd .lf (.row [(.sl k7 0 0 1 1),(.sl k8 0 0 2 2)] 2
  34 false 0 0 0) .lf)) (.nd (.nd .lf (.row [(.nat .i64 1),(.nat .i64 1)] 2 3 false 0 0 0) .lf) (.row [(.nat .i64 3)] 1 3 false 0 0 0) (tl (tl (tr
  (.nd .lf (.row [(.sl k99 0 0 1 1),(.nat .i64 2),(.nat .i64 0),(.sl k103 0 0 1 1),(.nat .i64 1),(.nat .i64 1),(.sl k111 0 0 1 1),(.nat .i64 3),(.nat
  .i64 0),(.sl k5 0 0 2 2),(.nat .i64 3),(.nat .i64 2)] 12 143 true 0 0 0) .lf)))))) (tn (.nd (.nd .lf (.row [(.nat .i64 1)] 1 3 false 0 0 0) .lf)
  (.row [(.nat .i64 1),(.nat .i64 2)] 2 3 false 0 0 0) (.nd .lf (.row [(.sl k9 0 0 1 1),(.sl k10 0 0 2 2)] 2 34 false 0 0 0) (tr (tl (.nd .lf (.row
  [(.so k102 12 0 4 0),(.so k127 9 0 3 0),(.so k151 12 0 4 0)] 3 141 true 3 0 0) .lf))))) (.nd (.nd (tl (tr (.nd .lf (.row [(.nat .i64 2)] 1 3 false 0
  0 0) .lf))) (.row [(.sl k5 0 0 2 2),(.sl k6 0 0 1 1)] 2 34 false 0 0 0) (tr (tl (.nd .lf (.row [(.so k93 3 0 3 0),(.so k95 3 0 3 0),(.so k97 3 0 3
  0),(.ref 0 k90)] 4 94 false 0 0 0) .lf)))) (.row [(.nat .i64 3)] 1 3 false 0 0 0) (tn (tn (tr (.nd .lf (.row [(.nat .i64 1)] 1 3 false 0 0 0) .lf))
  (tl (tl (.nd .lf (.row [(.sl k146 0 0 1 1),(.nat .i64 2),(.nat .i64 0),(.sl k152 0 0 1 1),(.nat .i64 1),(.nat .i64 1),(.sl k159 0 0 1 1),(.nat .i64
  3),(.nat .i64 0),(.sl k5 0 0 2 2),(.nat .i64 3),(.nat .i64 2)] 12 143 true 0 0 0) .lf)))) (tn (tr (.nd .lf (.row [(.nat .i64 3)] 1 3 false 0 0 0)
  .lf)) (tn (.nd .lf (.row [(.bool true),(.bool true),(.bool true)] 3 4 true 0 0 0) .lf) (.nd .lf (.row [(.sl k122 0 0 1 1),(.nat .i64 3),(.nat .i64
  0),(.sl k132 0 0 1 1),(.nat .i64 1),(.nat .i64 1),(.sl k5 0 0 2 2),(.nat .i64 3),(.nat .i64 2)] 9 143 true 0 0 0) .lf))))))), k340⟩
def a0_141 : S := ⟨(tn (tn (tn (.nd .lf (.row [(.nat .i64 1),(.nat .i64 2)] 2 3 false 0 0 0) .lf) (.nd .lf (.row [(.sl k7 0 0 1 1),(.sl k8 0 0 2 2)] 2
  34 false 0 0 0) .lf)) (.nd (.nd .lf (.row [(.nat .i64 1),(.nat .i64 1)] 2 3 false 0 0 0) .lf) (.row [(.nat .i64 3)] 1 3 false 0 0 0) (tl (tl (tr
  (.nd .lf (.row [(.sl k99 0 0 1 1),(.nat .i64 2),(.nat .i64 0),(.sl k103 0 0 1 1),(.nat .i64 1),(.nat .i64 1),(.sl k111 0 0 1 1),(.nat .i64 3),(.nat
  .i64 0),(.sl k5 0 0 2 2),(.nat .i64 3),(.nat .i64 2)] 12 143 true 0 0 0) .lf)))))) (tn (.nd (.nd .lf (.row [(.nat .i64 1)] 1 3 false 0 0 0) .lf)
  (.row [(.nat .i64 1),(.nat .i64 2)] 2 3 false 0 0 0) (.nd .lf (.row [(.sl k9 0 0 1 1),(.sl k10 0 0 2 2)] 2 34 false 0 0 0) (tr (tl (.nd .lf (.row
  [(.so k102 12 0 4 0),(.so k127 9 0 3 0),(.so k151 12 0 4 0)] 3 141 true 3 0 0) .lf))))) (.nd (.nd (tl (tr (.nd .lf (.row [(.nat .i64 2)] 1 3 false 0
  0 0) .lf))) (.row [(.sl k5 0 0 2 2),(.sl k6 0 0 1 1)] 2 34 false 0 0 0) (tr (tl (.nd .lf (.row [(.so k93 3 0 3 0),(.so k95 3 0 3 0),(.so k97 3 0 3
  0),(.ref 0 k90)] 4 94 false 0 0 0) .lf)))) (.row [(.nat .i64 3)] 1 3 false 0 0 0) (tn (tn (tr (.nd .lf (.row [(.nat .i64 1)] 1 3 false 0 0 0) .lf))
  (tl (tl (.nd .lf (.row [(.sl k146 0 0 1 1),(.nat .i64 2),(.nat .i64 0),(.sl k152 0 0 1 1),(.nat .i64 3),(.nat .i64 0),(.sl k157 0 0 1 1),(.nat .i64
  1),(.nat .i64 1),(.sl k5 0 0 2 2),(.nat .i64 3),(.nat .i64 2)] 12 143 true 0 0 0) .lf)))) (tn (tr (.nd .lf (.row [(.nat .i64 3)] 1 3 false 0 0 0)
  .lf)) (tn (.nd .lf (.row [(.bool true),(.bool true),(.bool true)] 3 4 true 0 0 0) .lf) (.nd .lf (.row [(.sl k122 0 0 1 1),(.nat .i64 3),(.nat .i64
  0),(.sl k132 0 0 1 1),(.nat .i64 1),(.nat .i64 1),(.sl k5 0 0 2 2),(.nat .i64 3),(.nat .i64 2)] 9 143 true 0 0 0) .lf))))))), k341⟩
def a0_142 : S := ⟨(tn (tn (tn (.nd .lf (.row [(.nat .i64 1),(.nat .i64 2)] 2 3 false 0 0 0) .lf) (.nd .lf (.row [(.sl k7 0 0 1 1),(.sl k8 0 0 2 2)] 2
  34 false 0 0 0) .lf)) (.nd (.nd .lf (.row [(.nat .i64 1),(.nat .i64 1)] 2 3 false 0 0 0) .lf) (.row [(.nat .i64 3)] 1 3 false 0 0 0) (tl (tl (tr
  (.nd .lf (.row [(.sl k99 0 0 1 1),(.nat .i64 2),(.nat .i64 0),(.sl k103 0 0 1 1),(.nat .i64 1),(.nat .i64 1),(.sl k111 0 0 1 1),(.nat .i64 3),(.nat
  .i64 0),(.sl k5 0 0 2 2),(.nat .i64 3),(.nat .i64 2)] 12 143 true 0 0 0) .lf)))))) (tn (.nd (.nd .lf (.row [(.nat .i64 1)] 1 3 false 0 0 0) .lf)
  (.row [(.nat .i64 1),(.nat .i64 2)] 2 3 false 0 0 0) (.nd .lf (.row [(.sl k9 0 0 1 1),(.sl k10 0 0 2 2)] 2 34 false 0 0 0) (tr (tl (.nd .lf (.row
  [(.so k102 12 0 4 0),(.so k127 9 0 3 0),(.so k151 12 0 4 0)] 3 141 true 3 0 0) .lf))))) (.nd (.nd (tl (tr (.nd .lf (.row [(.nat .i64 2)] 1 3 false 0
  0 0) .lf))) (.row [(.sl k5 0 0 2 2),(.sl k6 0 0 1 1)] 2 34 false 0 0 0) (tr (tl (.nd .lf (.row [(.so k93 3 0 3 0),(.so k95 3 0 3 0),(.so k97 3 0 3
  0),(.ref 0 k90)] 4 94 false 0 0 0) .lf)))) (.row [(.nat .i64 3)] 1 3 false 0 0 0) (tn (tn (tr (.nd .lf (.row [(.nat .i64 1)] 1 3 false 0 0 0) .lf))
  (tl (tl (.nd .lf (.row [(.sl k146 0 0 1 1),(.nat .i64 3),(.nat .i64 0),(.sl k152 0 0 1 1),(.nat .i64 1),(.nat .i64 1),(.sl k159 0 0 1 1),(.nat .i64
  2),(.nat .i64 0),(.sl k5 0 0 2 2),(.nat .i64 3),(.nat .i64 2)] 12 143 true 0 0 0) .lf)))) (tn (tr (.nd .lf (.row [(.nat .i64 3)] 1 3 false 0 0 0)
  .lf)) (tn (.nd .lf (.row [(.bool true),(.bool true),(.bool true)] 3 4 true 0 0 0) .lf) (.nd .lf (.row [(.sl k122 0 0 1 1),(.nat .i64 3),(.nat .i64
  0),(.sl k132 0 0 1 1),(.nat .i64 1),(.nat .i64 1),(.sl k5 0 0 2 2),(.nat .i64 3),(.nat .i64 2)] 9 143 true 0 0 0) .lf))))))), k342⟩
def a0_143 : S := ⟨(tn (tn (tn (.nd .lf (.row [(.nat .i64 1),(.nat .i64 2)] 2 3 false 0 0 0) .lf) (.nd .lf (.row [(.sl k7 0 0 1 1),(.sl k8 0 0 2 2)] 2
  34 false 0 0 0) (tl (tr (.nd .lf (.row [(.nat .i64 3)] 1 3 false 0 0 0) .lf))))) (.nd (.nd .lf (.row [(.nat .i64 1),(.nat .i64 1)] 2 3 false 0 0 0)
  .lf) (.row [(.nat .i64 3)] 1 3 false 0 0 0) .lf)) (tn (.nd (.nd .lf (.row [(.nat .i64 1)] 1 3 false 0 0 0) .lf) (.row [(.nat .i64 1),(.nat .i64 2)]
  2 3 false 0 0 0) (.nd .lf (.row [(.sl k9 0 0 1 1),(.sl k10 0 0 2 2)] 2 34 false 0 0 0) (tr (tl (.nd .lf (.row [(.so k107 12 0 4 0),(.so k127 9 0 3
  0),(.so k151 12 0 4 0)] 3 141 true 3 0 0) .lf))))) (.nd (.nd (tl (tr (.nd .lf (.row [(.nat .i64 1)] 1 3 false 0 0 0) .lf))) (.row [(.sl k5 0 0 2
  2),(.sl k6 0 0 1 1)] 2 34 false 0 0 0) (tn (tr (.nd .lf (.row [(.sl k99 0 0 1 1),(.nat .i64 1),(.nat .i64 1),(.sl k108 0 0 1 1),(.nat .i64 3),(.nat
  .i64 0),(.sl k111 0 0 1 1),(.nat .i64 2),(.nat .i64 0),(.sl k5 0 0 2 2),(.nat .i64 3),(.nat .i64 2)] 12 143 true 0 0 0) .lf)) (tl (.nd .lf (.row
  [(.so k93 3 0 3 0),(.so k95 3 0 3 0),(.so k97 3 0 3 0),(.ref 0 k90)] 4 94 false 0 0 0) .lf)))) (.row [(.nat .i64 3)] 1 3 false 0 0 0) (tn (tr (tl
  (tl (.nd .lf (.row [(.sl k146 0 0 1 1),(.nat .i64 3),(.nat .i64 0),(.sl k152 0 0 1 1),(.nat .i64 2),(.nat .i64 0),(.sl k157 0 0 1 1),(.nat .i64
  1),(.nat .i64 1),(.sl k5 0 0 2 2),(.nat .i64 3),(.nat .i64 2)] 12 143 true 0 0 0) .lf)))) (tn (tr (.nd .lf (.row [(.nat .i64 2)] 1 3 false 0 0 0)
  .lf)) (tn (.nd .lf (.row [(.bool true),(.bool true),(.bool true)] 3 4 true 0 0 0) .lf) (.nd .lf (.row [(.sl k122 0 0 1 1),(.nat .i64 3),(.nat .i64
  0),(.sl k132 0 0 1 1),(.nat .i64 1),(.nat .i64 1),(.sl k5 0 0 2 2),(.nat .i64 3),(.nat .i64 2)] 9 143 true 0 0 0) .lf))))))), k343⟩
def a0_144 : S := ⟨(tn (tn (tn (.nd .lf (.row [(.nat .i64 1),(.nat .i64 2)] 2 3 false 0 0 0) .lf) (.nd .lf (.row [(.sl k7 0 0 1 1),(.sl k8 0 0 2 2)] 2
  34 false 0 0 0) (tl (tr (.nd .lf (.row [(.nat .i64 3)] 1 3 false 0 0 0) .lf))))) (.nd (.nd .lf (.row [(.nat .i64 1),(.nat .i64 1)] 2 3 false 0 0 0)
  .lf) (.row [(.nat .i64 3)] 1 3 false 0 0 0) .lf)) (tn (.nd (.nd (tl (tl (tl (.nd .lf (.row [(.sl k122 0 0 1 1),(.nat .i64 1),(.nat .i64 1),(.sl k134
  0 0 1 1),(.nat .i64 3),(.nat .i64 0),(.sl k5 0 0 2 2),(.nat .i64 3),(.nat .i64 2)] 9 143 true 0 0 0) .lf)))) (.row [(.nat .i64 1)] 1 3 false 0 0 0)
  .lf) (.row [(.nat .i64 1),(.nat .i64 2)] 2 3 false 0 0 0) (.nd .lf (.row [(.sl k9 0 0 1 1),(.sl k10 0 0 2 2)] 2 34 false 0 0 0) (tr (tl (.nd .lf
  (.row [(.so k107 12 0 4 0),(.so k129 9 0 3 0),(.so k151 12 0 4 0)] 3 141 true 3 0 0) .lf))))) (.nd (.nd (tl (tr (.nd .lf (.row [(.nat .i64 1)] 1 3
  false 0 0 0) .lf))) (.row [(.sl k5 0 0 2 2),(.sl k6 0 0 1 1)] 2 34 false 0 0 0) (tn (tr (.nd .lf (.row [(.sl k99 0 0 1 1),(.nat .i64 1),(.nat .i64
  1),(.sl k108 0 0 1 1),(.nat .i64 3),(.nat .i64 0),(.sl k111 0 0 1 1),(.nat .i64 2),(.nat .i64 0),(.sl k5 0 0 2 2),(.nat .i64 3),(.nat .i64 2)] 12
  143 true 0 0 0) .lf)) (tl (.nd .lf (.row [(.so k93 3 0 3 0),(.so k95 3 0 3 0),(.so k97 3 0 3 0),(.ref 0 k90)] 4 94 false 0 0 0) .lf)))) (.row [(.nat
  .i64 3)] 1 3 false 0 0 0) (tn (tr (tl (tl (.nd .lf (.row [(.sl k146 0 0 1 1),(.nat .i64 3),(.nat .i64 0),(.sl k152 0 0 1 1),(.nat .i64 1),(.nat .i64
  1),(.sl k159 0 0 1 1),(.nat .i64 2),(.nat .i64 0),(.sl k5 0 0 2 2),(.nat .i64 3),(.nat .i64 2)] 12 143 true 0 0 0) .lf)))) (tn (tr (.nd .lf (.row
  [(.nat .i64 2)] 1 3 false 0 0 0) .lf)) (tl (.nd .lf (.row [(.bool true),(.bool true),(.bool true)] 3 4 true 0 0 0) .lf))))))), k344⟩
def a0_145 : S := ⟨(tn (tn (tn (.nd .lf (.row [(.nat .i64 1),(.nat .i64 2)] 2 3 false 0 0 0) .lf) (.nd .lf (.row [(.sl k7 0 0 1 1),(.sl k8 0 0 2 2)] 2
  34 false 0 0 0) (tl (tr (.nd .lf (.row [(.nat .i64 3)] 1 3 false 0 0 0) .lf))))) (.nd (.nd .lf (.row [(.nat .i64 1),(.nat .i64 1)] 2 3 false 0 0 0)
  .lf) (.row [(.nat .i64 3)] 1 3 false 0 0 0) .lf)) (tn (.nd (.nd (tl (tl (tl (.nd .lf (.row [(.sl k122 0 0 1 1),(.nat .i64 1),(.nat .i64 1),(.sl k134
  0 0 1 1),(.nat .i64 3),(.nat .i64 0),(.sl k5 0 0 2 2),(.nat .i64 3),(.nat .i64 2)] 9 143 true 0 0 0) .lf)))) (.row [(.nat .i64 1)] 1 3 false 0 0 0)
  .lf) (.row [(.nat .i64 1),(.nat .i64 2)] 2 3 false 0 0 0) (.nd .lf (.row [(.sl k9 0 0 1 1),(.sl k10 0 0 2 2)] 2 34 false 0 0 0) (tr (tl (.nd .lf
  (.row [(.so k107 12 0 4 0),(.so k129 9 0 3 0),(.so k151 12 0 4 0)] 3 141 true 3 0 0) .lf))))) (.nd (.nd (tl (tr (.nd .lf (.row [(.nat .i64 1)] 1 3
  false 0 0 0) .lf))) (.row [(.sl k5 0 0 2 2),(.sl k6 0 0 1 1)] 2 34 false 0 0 0) (tn (tr (.nd .lf (.row [(.sl k99 0 0 1 1),(.nat .i64 1),(.nat .i64
  1),(.sl k108 0 0 1 1),(.nat .i64 3),(.nat .i64 0),(.sl k111 0 0 1 1),(.nat .i64 2),(.nat .i64 0),(.sl k5 0 0 2 2),(.nat .i64 3),(.nat .i64 2)] 12
  143 true 0 0 0) .lf)) (tl (.nd .lf (.row [(.so k93 3 0 3 0),(.so k95 3 0 3 0),(.so k97 3 0 3 0),(.ref 0 k90)] 4 94 false 0 0 0) .lf)))) (.row [(.nat
  .i64 3)] 1 3 false 0 0 0) (tn (tr (tl (tl (.nd .lf (.row [(.sl k146 0 0 1 1),(.nat .i64 2),(.nat .i64 0),(.sl k152 0 0 1 1),(.nat .i64 3),(.nat .i64
  0),(.sl k157 0 0 1 1),(.nat .i64 1),(.nat .i64 1),(.sl k5 0 0 2 2),(.nat .i64 3),(.nat .i64 2)] 12 143 true 0 0 0) .lf)))) (tn (tr (.nd .lf (.row
  [(.nat .i64 2)] 1 3 false 0 0 0) .lf)) (tl (.nd .lf (.row [(.bool true),(.bool true),(.bool true)] 3 4 true 0 0 0) .lf))))))), k345⟩
def a0_146 : S := ⟨(tn (tn (tn (.nd .lf (.row [(.nat .i64 1),(.nat .i64 2)] 2 3 false 0 0 0) .lf) (.nd .lf (.row [(.sl k7 0 0 1 1),(.sl k8 0 0 2 2)] 2
  34 false 0 0 0) (tl (tr (.nd .lf (.row [(.nat .i64 3)] 1 3 false 0 0 0) .lf))))) (.nd (.nd .lf (.row [(.nat .i64 1),(.nat .i64 1)] 2 3 false 0 0 0)
  .lf) (.row [(.nat .i64 3)] 1 3 false 0 0 0) .lf)) (tn (.nd (.nd (tl (tl (tl (.nd .lf (.row [(.sl k122 0 0 1 1),(.nat .i64 1),(.nat .i64 1),(.sl k134
  0 0 1 1),(.nat .i64 3),(.nat .i64 0),(.sl k5 0 0 2 2),(.nat .i64 3),(.nat .i64 2)] 9 143 true 0 0 0) .lf)))) (.row [(.nat .i64 1)] 1 3 false 0 0 0)
  .lf) (.row [(.nat .i64 1),(.nat .i64 2)] 2 3 false 0 0 0) (.nd .lf (.row [(.sl k9 0 0 1 1),(.sl k10 0 0 2 2)] 2 34 false 0 0 0) (tr (tl (.nd .lf
  (.row [(.so k107 12 0 4 0),(.so k129 9 0 3 0),(.so k151 12 0 4 0)] 3 141 true 3 0 0) .lf))))) (.nd (.nd (tl (tr (.nd .lf (.row [(.nat .i64 1)] 1 3
  false 0 0 0) .lf))) (.row [(.sl k5 0 0 2 2),(.sl k6 0 0 1 1)] 2 34 false 0 0 0) (tn (tr (.nd .lf (.row [(.sl k99 0 0 1 1),(.nat .i64 1),(.nat .i64
  1),(.sl k108 0 0 1 1),(.nat .i64 3),(.nat .i64 0),(.sl k111 0 0 1 1),(.nat .i64 2),(.nat .i64 0),(.sl k5 0 0 2 2),(.nat .i64 3),(.nat .i64 2)] 12
  143 true 0 0 0) .lf)) (tl (.nd .lf (.row [(.so k93 3 0 3 0),(.so k95 3 0 3 0),(.so k97 3 0 3 0),(.ref 0 k90)] 4 94 false 0 0 0) .lf)))) (.row [(.nat
  .i64 3)] 1 3 false 0 0 0) (tn (tr (tl (tl (.nd .lf (.row [(.sl k146 0 0 1 1),(.nat .i64 2),(.nat .i64 0),(.sl k152 0 0 1 1),(.nat .i64 1),(.nat .i64
  1),(.sl k159 0 0 1 1),(.nat .i64 3),(.nat .i64 0),(.sl k5 0 0 2 2),(.nat .i64 3),(.nat .i64 2)] 12 143 true 0 0 0) .lf)))) (tn (tr (.nd .lf (.row
  [(.nat .i64 2)] 1 3 false 0 0 0) .lf)) (tl (.nd .lf (.row [(.bool true),(.bool true),(.bool true)] 3 4 true 0 0 0) .lf))))))), k346⟩
def a0_147 : S := ⟨(tn (tn (tn (.nd .lf (.row [(.nat .i64 1),(.nat .i64 2)] 2 3 false 0 0 0) .lf) (.nd .lf (.row [(.sl k7 0 0 1 1),(.sl k8 0 0 2 2)] 2
  34 false 0 0 0) (tl (tr (.nd .lf (.row [(.nat .i64 3)] 1 3 false 0 0 0) .lf))))) (.nd (.nd .lf (.row [(.nat .i64 1),(.nat .i64 1)] 2 3 false 0 0 0)
  .lf) (.row [(.nat .i64 3)] 1 3 false 0 0 0) .lf)) (tn (.nd (.nd (tl (tl (tl (.nd .lf (.row [(.sl k122 0 0 1 1),(.nat .i64 1),(.nat .i64 1),(.sl k134
  0 0 1 1),(.nat .i64 3),(.nat .i64 0),(.sl k5 0 0 2 2),(.nat .i64 3),(.nat .i64 2)] 9 143 true 0 0 0) .lf)))) (.row [(.nat .i64 1)] 1 3 false 0 0 0)
  (tr (tl (tl (.nd .lf (.row [(.sl k146 0 0 1 1),(.nat .i64 1),(.nat .i64 1),(.sl k154 0 0 1 1),(.nat .i64 3),(.nat .i64 0),(.sl k159 0 0 1 1),(.nat
  .i64 2),(.nat .i64 0),(.sl k5 0 0 2 2),(.nat .i64 3),(.nat .i64 2)] 12 143 true 0 0 0) .lf))))) (.row [(.nat .i64 1),(.nat .i64 2)] 2 3 false 0 0 0)
  (.nd .lf (.row [(.sl k9 0 0 1 1),(.sl k10 0 0 2 2)] 2 34 false 0 0 0) (tr (tl (.nd .lf (.row [(.so k107 12 0 4 0),(.so k129 9 0 3 0),(.so k153 12 0
  4 0)] 3 141 true 3 0 0) .lf))))) (.nd (.nd (tl (tr (.nd .lf (.row [(.nat .i64 1)] 1 3 false 0 0 0) .lf))) (.row [(.sl k5 0 0 2 2),(.sl k6 0 0 1 1)]
  2 34 false 0 0 0) (tn (tr (.nd .lf (.row [(.sl k99 0 0 1 1),(.nat .i64 1),(.nat .i64 1),(.sl k108 0 0 1 1),(.nat .i64 3),(.nat .i64 0),(.sl k111 0 0
  1 1),(.nat .i64 2),(.nat .i64 0),(.sl k5 0 0 2 2),(.nat .i64 3),(.nat .i64 2)] 12 143 true 0 0 0) .lf)) (tl (.nd .lf (.row [(.so k93 3 0 3 0),(.so
  k95 3 0 3 0),(.so k97 3 0 3 0),(.ref 0 k90)] 4 94 false 0 0 0) .lf)))) (.row [(.nat .i64 3)] 1 3 false 0 0 0) (tr (tn (tr (.nd .lf (.row [(.nat .i64
  2)] 1 3 false 0 0 0) .lf)) (tl (.nd .lf (.row [(.bool true),(.bool true),(.bool true)] 3 4 true 0 0 0) .lf))))))), k347⟩
def a0_148 : S := ⟨(tn (tn (tn (.nd .lf (.row [(.nat .i64 1),(.nat .i64 2)] 2 3 false 0 0 0) .lf) (.nd .lf (.row [(.sl k7 0 0 1 1),(.sl k8 0 0 2 2)] 2
  34 false 0 0 0) (tl (tr (.nd .lf (.row [(.nat .i64 3)] 1 3 false 0 0 0) .lf))))) (.nd (.nd .lf (.row [(.nat .i64 1),(.nat .i64 1)] 2 3 false 0 0 0)
  .lf) (.row [(.nat .i64 3)] 1 3 false 0 0 0) .lf)) (tn (.nd (.nd (tl (tl (tl (.nd .lf (.row [(.sl k122 0 0 1 1),(.nat .i64 1),(.nat .i64 1),(.sl k134
  0 0 1 1),(.nat .i64 3),(.nat .i64 0),(.sl k5 0 0 2 2),(.nat .i64 3),(.nat .i64 2)] 9 143 true 0 0 0) .lf)))) (.row [(.nat .i64 1)] 1 3 false 0 0 0)
  (tr (tl (tl (.nd .lf (.row [(.sl k146 0 0 1 1),(.nat .i64 1),(.nat .i64 1),(.sl k154 0 0 1 1),(.nat .i64 2),(.nat .i64 0),(.sl k159 0 0 1 1),(.nat
  .i64 3),(.nat .i64 0),(.sl k5 0 0 2 2),(.nat .i64 3),(.nat .i64 2)] 12 143 true 0 0 0) .lf))))) (.row [(.nat .i64 1),(.nat .i64 2)] 2 3 false 0 0 0)
  (.nd .lf (.row [(.sl k9 0 0 1 1),(.sl k10 0 0 2 2)] 2 34 false 0 0 0) (tr (tl (.nd .lf (.row [(.so k107 12 0 4 0),(.so k129 9 0 3 0),(.so k153 12 0
  4 0)] 3 141 true 3 0 0) .lf))))) (.nd (.nd (tl (tr (.nd .lf (.row [(.nat .i64 1)] 1 3 false 0 0 0) .lf))) (.row [(.sl k5 0 0 2 2),(.sl k6 0 0 1 1)]
  2 34 false 0 0 0) (tn (tr (.nd .lf (.row [(.sl k99 0 0 1 1),(.nat .i64 1),(.nat .i64 1),(.sl k108 0 0 1 1),(.nat .i64 3),(.nat .i64 0),(.sl k111 0 0
  1 1),(.nat .i64 2),(.nat .i64 0),(.sl k5 0 0 2 2),(.nat .i64 3),(.nat .i64 2)] 12 143 true 0 0 0) .lf)) (tl (.nd .lf (.row [(.so k93 3 0 3 0),(.so
  k95 3 0 3 0),(.so k97 3 0 3 0),(.ref 0 k90)] 4 94 false 0 0 0) .lf)))) (.row [(.nat .i64 3)] 1 3 false 0 0 0) (tr (tn (tr (.nd .lf (.row [(.nat .i64
  2)] 1 3 false 0 0 0) .lf)) (tl (.nd .lf (.row [(.bool true),(.bool true),(.bool true)] 3 4 true 0 0 0) .lf))))))), k348⟩
def a0_149 : S := ⟨(tn (tn (tn (.nd .lf (.row [(.nat .i64 1),(.nat .i64 2)] 2 3 false 0 0 0) .lf) (.nd .lf (.row [(.sl k7 0 0 1 1),(.sl k8 0 0 2 2)] 2
  34 false 0 0 0) (tl (tr (.nd .lf (.row [(.nat .i64 3)] 1 3 false 0 0 0) .lf))))) (.nd (.nd .lf (.row [(.nat .i64 1),(.nat .i64 1)] 2 3 false 0 0 0)
  .lf) (.row [(.nat .i64 3)] 1 3 false 0 0 0) .lf)) (tn (.nd (.nd (tl (tl (tl (.nd .lf (.row [(.sl k122 0 0 1 1),(.nat .i64 1),(.nat .i64 1),(.sl k134
  0 0 1 1),(.nat .i64 3),(.nat .i64 0),(.sl k5 0 0 2 2),(.nat .i64 3),(.nat .i64 2)] 9 143 true 0 0 0) .lf)))) (.row [(.nat .i64 1)] 1 3 false 0 0 0)
  .lf) (.row [(.nat .i64 1),(.nat .i64 2)] 2 3 false 0 0 0) (.nd .lf (.row [(.sl k9 0 0 1 1),(.sl k10 0 0 2 2)] 2 34 false 0 0 0) (tr (tl (.nd .lf
  (.row [(.so k107 12 0 4 0),(.so k129 9 0 3 0),(.so k151 12 0 4 0)] 3 141 true 3 0 0) .lf))))) (.nd (.nd (tl (tr (.nd .lf (.row [(.nat .i64 1)] 1 3
  false 0 0 0) .lf))) (.row [(.sl k5 0 0 2 2),(.sl k6 0 0 1 1)] 2 34 false 0 0 0) (tn (tr (.nd .lf (.row [(.sl k99 0 0 1 1),(.nat .i64 1),(.nat .i64
  1),(.sl k108 0 0 1 1),(.nat .i64 3),(.nat .i64 0),(.sl k111 0 0 1 1),(.nat .i64 2),(.nat .i64 0),(.sl k5 0 0 2 2),(.nat .i64 3),(.nat .i64 2)] 12
  143 true 0 0 0) .lf)) (tl (.nd .lf (.row [(.so k93 3 0 3 0),(.so k95 3 0 3 0),(.so k97 3 0 3 0),(.ref 0 k90)] 4 94 false 0 0 0) .lf)))) (.row [(.nat
  .i64 3)] 1 3 false 0 0 0) (tn (tr (tl (tl (.nd .lf (.row [(.sl k146 0 0 1 1),(.nat .i64 3),(.nat .i64 0),(.sl k152 0 0 1 1),(.nat .i64 2),(.nat .i64
  0),(.sl k157 0 0 1 1),(.nat .i64 1),(.nat .i64 1),(.sl k5 0 0 2 2),(.nat .i64 3),(.nat .i64 2)] 12 143 true 0 0 0) .lf)))) (tn (tr (.nd .lf (.row
  [(.nat .i64 2)] 1 3 false 0 0 0) .lf)) (tl (.nd .lf (.row [(.bool true),(.bool true),(.bool true)] 3 4 true 0 0 0) .lf))))))), k349⟩
def a0_150 : S := ⟨(tn (tn (tn (.nd .lf (.row [(.nat .i64 1),(.nat .i64 2)] 2 3 false 0 0 0) .lf) (.nd .lf (.row [(.sl k7 0 0 1 1),(.sl k8 0 0 2 2)] 2
  34 false 0 0 0) (tl (tr (.nd .lf (.row [(.nat .i64 3)] 1 3 false 0 0 0) .lf))))) (.nd (.nd .lf (.row [(.nat .i64 1),(.nat .i64 1)] 2 3 false 0 0 0)
  .lf) (.row [(.nat .i64 3)] 1 3 false 0 0 0) .lf)) (tn (.nd (.nd (tl (tl (tl (.nd .lf (.row [(.sl k122 0 0 1 1),(.nat .i64 1),(.nat .i64 1),(.sl k130
  0 0 1 1),(.nat .i64 3),(.nat .i64 0),(.sl k5 0 0 2 2),(.nat .i64 3),(.nat .i64 2)] 9 143 true 0 0 0) .lf)))) (.row [(.nat .i64 1)] 1 3 false 0 0 0)
  .lf) (.row [(.nat .i64 1),(.nat .i64 2)] 2 3 false 0 0 0) (.nd .lf (.row [(.sl k9 0 0 1 1),(.sl k10 0 0 2 2)] 2 34 false 0 0 0) (tr (tl (.nd .lf
  (.row [(.so k107 12 0 4 0),(.so k129 9 0 3 0),(.so k151 12 0 4 0)] 3 141 true 3 0 0) .lf))))) (.nd (.nd (tl (tr (.nd .lf (.row [(.nat .i64 1)] 1 3
  false 0 0 0) .lf))) (.row [(.sl k5 0 0 2 2),(.sl k6 0 0 1 1)] 2 34 false 0 0 0) (tn (tr (.nd .lf (.row [(.sl k99 0 0 1 1),(.nat .i64 1),(.nat .i64
  1),(.sl k108 0 0 1 1),(.nat .i64 3),(.nat .i64 0),(.sl k111 0 0 1 1),(.nat .i64 2),(.nat .i64 0),(.sl k5 0 0 2 2),(.nat .i64 3),(.nat .i64 2)] 12
  143 true 0 0 0) .lf)) (tl (.nd .lf (.row [(.so k93 3 0 3 0),(.so k95 3 0 3 0),(.so k97 3 0 3 0),(.ref 0 k90)] 4 94 false 0 0 0) .lf)))) (.row [(.nat
  .i64 3)] 1 3 false 0 0 0) (tn (tr (tl (tl (.nd .lf (.row [(.sl k146 0 0 1 1),(.nat .i64 3),(.nat .i64 0),(.sl k152 0 0 1 1),(.nat .i64 1),(.nat .i64
  1),(.sl k159 0 0 1 1),(.nat .i64 2),(.nat .i64 0),(.sl k5 0 0 2 2),(.nat .i64 3),(.nat .i64 2)] 12 143 true 0 0 0) .lf)))) (tn (tr (.nd .lf (.row
  [(.nat .i64 2)] 1 3 false 0 0 0) .lf)) (tl (.nd .lf (.row [(.bool true),(.bool true),(.bool true)] 3 4 true 0 0 0) .lf))))))), k350⟩
def a0_151 : S := ⟨(tn (tn (tn (.nd .lf (.row [(.nat .i64 1),(.nat .i64 2)] 2 3 false 0 0 0) .lf) (.nd .lf (.row [(.sl k7 0 0 1 1),(.sl k8 0 0 2 2)] 2
  34 false 0 0 0) (tl (tr (.nd .lf (.row [(.nat .i64 3)] 1 3 false 0 0 0) .lf))))) (.nd (.nd .lf (.row [(.nat .i64 1),(.nat .i64 1)] 2 3 false 0 0 0)
  .lf) (.row [(.nat .i64 3)] 1 3 false 0 0 0) .lf)) (tn (.nd (.nd (tl (tl (tl (.nd .lf (.row [(.sl k122 0 0 1 1),(.nat .i64 1),(.nat .i64 1),(.sl k130
  0 0 1 1),(.nat .i64 3),(.nat .i64 0),(.sl k5 0 0 2 2),(.nat .i64 3),(.nat .i64 2)] 9 143 true 0 0 0) .lf)))) (.row [(.nat .i64 1)] 1 3 false 0 0 0)
  .lf) (.row [(.nat .i64 1),(.nat .i64 2)] 2 3 false 0 0 0) (.nd .lf (.row [(.sl k9 0 0 1 1),(.sl k10 0 0 2 2)] 2 34 false 0 0 0) (tr (tl (.nd .lf
  (.row [(.so k107 12 0 4 0),(.so k129 9 0 3 0),(.so k151 12 0 4 0)] 3 141 true 3 0 0) .lf))))) (.nd (.nd (tl (tr (.nd .lf (.row [(.nat .i64 1)] 1 3
  false 0 0 0) .lf))) (.row [(.sl k5 0 0 2 2),(.sl k6 0 0 1 1)] 2 34 false 0 0 0) (tn (tr (.nd .lf (.row [(.sl k99 0 0 1 1),(.nat .i64 1),(.nat .i64
  1),(.sl k108 0 0 1 1),(.nat .i64 3),(.nat .i64 0),(.sl k111 0 0 1 1),(.nat .i64 2),(.nat .i64 0),(.sl k5 0 0 2 2),(.nat .i64 3),(.nat .i64 2)] 12
  143 true 0 0 0) .lf)) (tl (.nd .lf (.row [(.so k93 3 0 3 0),(.so k95 3 0 3 0),(.so k97 3 0 3 0),(.ref 0 k90)] 4 94 false 0 0 0) .lf)))) (.row [(.nat
  .i64 3)] 1 3 false 0 0 0) (tn (tr (tl (tl (.nd .lf (.row [(.sl k146 0 0 1 1),(.nat .i64 2),(.nat .i64 0),(.sl k152 0 0 1 1),(.nat .i64 3),(.nat .i64
  0),(.sl k157 0 0 1 1),(.nat .i64 1),(.nat .i64 1),(.sl k5 0 0 2 2),(.nat .i64 3),(.nat .i64 2)] 12 143 true 0 0 0) .lf)))) (tn (tr (.nd .lf (.row
  [(.nat .i64 2)] 1 3 false 0 0 0) .lf)) (tl (.nd .lf (.row [(.bool true),(.bool true),(.bool true)] 3 4 true 0 0 0) .lf))))))), k351⟩
def a0_152 : S := ⟨(tn (tn (tn (.nd .lf (.row [(.nat .i64 1),(.nat .i64 2)] 2 3 false 0 0 0) .lf) (.nd .lf (.row [(.sl k7 0 0 1 1),(.sl k8 0 0 2 2)] 2
  34 false 0 0 0) (tl (tr (.nd .lf (.row [(.nat .i64 3)] 1 3 false 0 0 0) .lf))))) (.nd (.nd .lf (.row [(.nat .i64 1),(.nat .i64 1)] 2 3 false 0 0 0)
  .lf) (.row [(.nat .i64 3)] 1 3 false 0 0 0) .lf)) (tn (.nd (.nd (tl (tl (tl (.nd .lf (.row [(.sl k122 0 0 1 1),(.nat .i64 1),(.nat .i64 1),(.sl k130
  0 0 1 1),(.nat .i64 3),(.nat .i64 0),(.sl k5 0 0 2 2),(.nat .i64 3),(.nat .i64 2)] 9 143 true 0 0 0) .lf)))) (.row [(.nat .i64 1)] 1 3 false 0 0 0)
  .lf) (.row [(.nat .i64 1),(.nat .i64 2)] 2 3 false 0 0 0) (.nd .lf (.row [(.sl k9 0 0 1 1),(.sl k10 0 0 2 2)] 2 34 false 0 0 0) (tr (tl (.nd .lf
  (.row [(.so k107 12 0 4 0),(.so k129 9 0 3 0),(.so k151 12 0 4 0)] 3 141 true 3 0 0) .lf))))) (.nd (.nd (tl (tr (.nd .lf (.row [(.nat .i64 1)] 1 3
  false 0 0 0) .lf))) (.row [(.sl k5 0 0 2 2),(.sl k6 0 0 1 1)] 2 34 false 0 0 0) (tn (tr (.nd .lf (.row [(.sl k99 0 0 1 1),(.nat .i64 1),(.nat .i64
  1),(.sl k108 0 0 1 1),(.nat .i64 3),(.nat .i64 0),(.sl k111 0 0 1 1),(.nat .i64 2),(.nat .i64 0),(.sl k5 0 0 2 2),(.nat .i64 3),(.nat .i64 2)] 12
  143 true 0 0 0) .lf)) (tl (.nd .lf (.row [(.so k93 3 0 3 0),(.so k95 3 0 3 0),(.so k97 3 0 3 0),(.ref 0 k90)] 4 94 false 0 0 0) .lf)))) (.row [(.nat
  .i64 3)] 1 3 false 0 0 0) (tn (tr (tl (tl (.nd .lf (.row [(.sl k146 0 0 1 1),(.nat .i64 2),(.nat .i64 0),(.sl k152 0 0 1 1),(.nat .i64 1),(.nat .i64
  1),(.sl k159 0 0 1 1),(.nat .i64 3),(.nat .i64 0),(.sl k5 0 0 2 2),(.nat .i64 3),(.nat .i64 2)] 12 143 true 0 0 0) .lf)))) (tn (tr (.nd .lf (.row
  [(.nat .i64 2)] 1 3 false 0 0 0) .lf)) (tl (.nd .lf (.row [(.bool true),(.bool true),(.bool true)] 3 4 true 0 0 0) .lf))))))), k352⟩
def a0_153 : S := ⟨(tn (tn (tn (.nd .lf (.row [(.nat .i64 1),(.nat .i64 2)] 2 3 false 0 0 0) .lf) (.nd .lf (.row [(.sl k7 0 0 1 1),(.sl k8 0 0 2 2)] 2
  34 false 0 0 0) (tl (tr (.nd .lf (.row [(.nat .i64 3)] 1 3 false 0 0 0) .lf))))) (.nd (.nd .lf (.row [(.nat .i64 1),(.nat .i64 1)] 2 3 false 0 0 0)
  .lf) (.row [(.nat .i64 3)] 1 3 false 0 0 0) .lf)) (tn (.nd (.nd (tl (tl (tl (.nd .lf (.row [(.sl k122 0 0 1 1),(.nat .i64 1),(.nat .i64 1),(.sl k130
  0 0 1 1),(.nat .i64 3),(.nat .i64 0),(.sl k5 0 0 2 2),(.nat .i64 3),(.nat .i64 2)] 9 143 true 0 0 0) .lf)))) (.row [(.nat .i64 1)] 1 3 false 0 0 0)
  (tr (tl (tl (.nd .lf (.row [(.sl k146 0 0 1 1),(.nat .i64 1),(.nat .i64 1),(.sl k154 0 0 1 1),(.nat .i64 3),(.nat .i64 0),(.sl k159 0 0 1 1),(.nat
  .i64 2),(.nat .i64 0),(.sl k5 0 0 2 2),(.nat .i64 3),(.nat .i64 2)] 12 143 true 0 0 0) .lf))))) (.row [(.nat .i64 1),(.nat .i64 2)] 2 3 false 0 0 0)
  (.nd .lf (.row [(.sl k9 0 0 1 1),(.sl k10 0 0 2 2)] 2 34 false 0 0 0) (tr (tl (.nd .lf (.row [(.so k107 12 0 4 0),(.so k129 9 0 3 0),(.so k153 12 0
  4 0)] 3 141 true 3 0 0) .lf))))) (.nd (.nd (tl (tr (.nd .lf (.row [(.nat .i64 1)] 1 3 false 0 0 0) .lf))) (.row [(.sl k5 0 0 2 2),(.sl k6 0 0 1 1)]
  2 34 false 0 0 0) (tn (tr (.nd .lf (.row [(.sl k99 0 0 1 1),(.nat .i64 1),(.nat .i64 1),(.sl k108 0 0 1 1),(.nat .i64 3),(.nat .i64 0),(.sl k111 0 0
  1 1),(.nat .i64 2),(.nat .i64 0),(.sl k5 0 0 2 2),(.nat .i64 3),(.nat .i64 2)] 12 143 true 0 0 0) .lf)) (tl (.nd .lf (.row [(.so k93 3 0 3 0),(.so
  k95 3 0 3 0),(.so k97 3 0 3 0),(.ref 0 k90)] 4 94 false 0 0 0) .lf)))) (.row [(.nat .i64 3)] 1 3 false 0 0 0) (tr (tn (tr (.nd .lf (.row [(.nat .i64
  2)] 1 3 false 0 0 0) .lf)) (tl (.nd .lf (.row [(.bool true),(.bool true),(.bool true)] 3 4 true 0 0 0) .lf))))))), k353⟩
def a0_154 : S := ⟨(tn (tn (tn (.nd .lf (.row [(.nat .i64 1),(.nat .i64 2)] 2 3 false 0 0 0) .lf) (.nd .lf (.row [(.sl k7 0 0 1 1),(.sl k8 0 0 2 2)] 2
  34 false 0 0 0) (tl (tr (.nd .lf (.row [(.nat .i64 3)] 1 3 false 0 0 0) .lf))))) (.nd (.nd .lf (.row [(.nat .i64 1),(.nat .i64 1)] 2 3 false 0 0 0)
  .lf) (.row [(.nat .i64 3)] 1 3 false 0 0 0) .lf)) (tn (.nd (.nd (tl (tl (tl (.nd .lf (.row [(.sl k122 0 0 1 1),(.nat .i64 1),(.nat .i64 1),(.sl k130
  0 0 1 1),(.nat .i64 3),(.nat .i64 0),(.sl k5 0 0 2 2),(.nat .i64 3),(.nat .i64 2)] 9 143 true 0 0 0) .lf)))) (.row [(.nat .i64 1)] 1 3 false 0 0 0)
  (tr (tl (tl (.nd .lf (.row [(.sl k146 0 0 1 1),(.nat .i64 1),(.nat .i64 1),(.sl k154 0 0 1 1),(.nat .i64 2),(.nat .i64 0),(.sl k159 0 0 1 1),(.nat
  .i64 3),(.nat .i64 0),(.sl k5 0 0 2 2),(.nat .i64 3),(.nat .i64 2)] 12 143 true 0 0 0) .lf))))) (.row [(.nat .i64 1),(.nat .i64 2)] 2 3 false 0 0 0)
  (.nd .lf (.row [(.sl k9 0 0 1 1),(.sl k10 0 0 2 2)] 2 34 false 0 0 0) (tr (tl (.nd .lf (.row [(.so k107 12 0 4 0),(.so k129 9 0 3 0),(.so k153 12 0
  4 0)] 3 141 true 3 0 0) .lf))))) (.nd (.nd (tl (tr (.nd .lf (.row [(.nat .i64 1)] 1 3 false 0 0 0) .lf))) (.row [(.sl k5 0 0 2 2),(.sl k6 0 0 1 1)]
  2 34 false 0 0 0) (tn (tr (.nd .lf (.row [(.sl k99 0 0 1 1),(.nat .i64 1),(.nat .i64 1),(.sl k108 0 0 1 1),(.nat .i64 3),(.nat .i64 0),(.sl k111 0 0
  1 1),(.nat .i64 2),(.nat .i64 0),(.sl k5 0 0 2 2),(.nat .i64 3),(.nat .i64 2)] 12 143 true 0 0 0) .lf)) (tl (.nd .lf (.row [(.so k93 3 0 3 0),(.so
  k95 3 0 3 0),(.so k97 3 0 3 0),(.ref 0 k90)] 4 94 false 0 0 0) .lf)))) (.row [(.nat .i64 3)] 1 3 false 0 0 0) (tr (tn (tr (.nd .lf (.row [(.nat .i64
  2)] 1 3 false 0 0 0) .lf)) (tl (.nd .lf (.row [(.bool true),(.bool true),(.bool true)] 3 4 true 0 0 0) .lf))))))), k354⟩
def a0_155 : S := ⟨(tn (tn (tn (.nd .lf (.row [(.nat .i64 1),(.nat .i64 2)] 2 3 false 0 0 0) .lf) (.nd .lf (.row [(.sl k7 0 0 1 1),(.sl k8 0 0 2 2)] 2
  34 false 0 0 0) (tl (tr (.nd .lf (.row [(.nat .i64 3)] 1 3 false 0 0 0) .lf))))) (.nd (.nd .lf (.row [(.nat .i64 1),(.nat .i64 1)] 2 3 false 0 0 0)
  .lf) (.row [(.nat .i64 3)] 1 3 false 0 0 0) .lf)) (tn (.nd (.nd (tl (tl (tl (.nd .lf (.row [(.sl k122 0 0 1 1),(.nat .i64 1),(.nat .i64 1),(.sl k130
  0 0 1 1),(.nat .i64 3),(.nat .i64 0),(.sl k5 0 0 2 2),(.nat .i64 3),(.nat .i64 2)] 9 143 true 0 0 0) .lf)))) (.row [(.nat .i64 1)] 1 3 false 0 0 0)
  .lf) (.row [(.nat .i64 1),(.nat .i64 2)] 2 3 false 0 0 0) (.nd .lf (.row [(.sl k9 0 0 1 1),(.sl k10 0 0 2 2)] 2 34 false 0 0 0) (tr (tl (.nd .lf
  (.row [(.so k107 12 0 4 0),(.so k129 9 0 3 0),(.so k151 12 0 4 0)] 3 141 true 3 0 0) .lf))))) (.nd (.nd (tl (tr (.nd .lf (.row [(.nat .i64 1)] 1 3
  false 0 0 0) .lf))) (.row [(.sl k5 0 0 2 2),(.sl k6 0 0 1 1)] 2 34 false 0 0 0) (tn (tr (.nd .lf (.row [(.sl k99 0 0 1 1),(.nat .i64 1),(.nat .i64
  1),(.sl k108 0 0 1 1),(.nat .i64 3),(.nat .i64 0),(.sl k111 0 0 1 1),(.nat .i64 2),(.nat .i64 0),(.sl k5 0 0 2 2),(.nat .i64 3),(.nat .i64 2)] 12
  143 true 0 0 0) .lf)) (tl (.nd .lf (.row [(.so k93 3 0 3 0),(.so k95 3 0 3 0),(.so k97 3 0 3 0),(.ref 0 k90)] 4 94 false 0 0 0) .lf)))) (.row [(.nat
  .i64 3)] 1 3 false 0 0 0) (tn (tr (tl (tl (.nd .lf (.row [(.sl k146 0 0 1 1),(.nat .i64 3),(.nat .i64 0),(.sl k152 0 0 1 1),(.nat .i64 2),(.nat .i64
  0),(.sl k157 0 0 1 1),(.nat .i64 1),(.nat .i64 1),(.sl k5 0 0 2 2),(.nat .i64 3),(.nat .i64 2)] 12 143 true 0 0 0) .lf)))) (tn (tr (.nd .lf (.row
  [(.nat .i64 2)] 1 3 false 0 0 0) .lf)) (tl (.nd .lf (.row [(.bool true),(.bool true),(.bool true)] 3 4 true 0 0 0) .lf))))))), k355⟩
def a0_156 : S := ⟨(tn (tn (tn (.nd .lf (.row [(.nat .i64 1),(.nat .i64 2)] 2 3 false 0 0 0) .lf) (.nd .lf (.row [(.sl k7 0 0 1 1),(.sl k8 0 0 2 2)] 2
  34 false 0 0 0) (tl (tr (.nd .lf (.row [(.nat .i64 3)] 1 3 false 0 0 0) .lf))))) (.nd (.nd .lf (.row [(.nat .i64 1),(.nat .i64 1)] 2 3 false 0 0 0)
  .lf) (.row [(.nat .i64 3)] 1 3 false 0 0 0) .lf)) (tn (.nd (.nd .lf (.row [(.nat .i64 1)] 1 3 false 0 0 0) .lf) (.row [(.nat .i64 1),(.nat .i64 2)]
  2 3 false 0 0 0) (.nd (tl (tl (tl (.nd .lf (.row [(.sl k126 0 0 1 1),(.nat .i64 1),(.nat .i64 1),(.sl k134 0 0 1 1),(.nat .i64 3),(.nat .i64 0),(.sl
  k5 0 0 2 2),(.nat .i64 3),(.nat .i64 2)] 9 143 true 0 0 0) .lf)))) (.row [(.sl k9 0 0 1 1),(.sl k10 0 0 2 2)] 2 34 false 0 0 0) (tr (tl (.nd .lf
  (.row [(.so k107 12 0 4 0),(.so k133 9 0 3 0),(.so k151 12 0 4 0)] 3 141 true 3 0 0) .lf))))) (.nd (.nd (tl (tr (.nd .lf (.row [(.nat .i64 1)] 1 3
  false 0 0 0) .lf))) (.row [(.sl k5 0 0 2 2),(.sl k6 0 0 1 1)] 2 34 false 0 0 0) (tn (tr (.nd .lf (.row [(.sl k99 0 0 1 1),(.nat .i64 1),(.nat .i64
  1),(.sl k108 0 0 1 1),(.nat .i64 3),(.nat .i64 0),(.sl k111 0 0 1 1),(.nat .i64 2),(.nat .i64 0),(.sl k5 0 0 2 2),(.nat .i64 3),(.nat .i64 2)] 12
  143 true 0 0 0) .lf)) (tl (.nd .lf (.row [(.so k93 3 0 3 0),(.so k95 3 0 3 0),(.so k97 3 0 3 0),(.ref 0 k90)] 4 94 false 0 0 0) .lf)))) (.row [(.nat
  .i64 3)] 1 3 false 0 0 0) (tn (tr (tl (tl (.nd .lf (.row [(.sl k146 0 0 1 1),(.nat .i64 3),(.nat .i64 0),(.sl k152 0 0 1 1),(.nat .i64 1),(.nat .i64
  1),(.sl k159 0 0 1 1),(.nat .i64 2),(.nat .i64 0),(.sl k5 0 0 2 2),(.nat .i64 3),(.nat .i64 2)] 12 143 true 0 0 0) .lf)))) (tn (tr (.nd .lf (.row
  [(.nat .i64 2)] 1 3 false 0 0 0) .lf)) (tl (.nd .lf (.row [(.bool true),(.bool true),(.bool true)] 3 4 true 0 0 0) .lf))))))), k356⟩
def a0_157 : S := ⟨(tn (tn (tn (.nd .lf (.row [(.nat .i64 1),(.nat .i64 2)] 2 3 false 0 0 0) .lf) (.nd .lf (.row [(.sl k7 0 0 1 1),(.sl k8 0 0 2 2)] 2
  34 false 0 0 0) (tl (tr (.nd .lf (.row [(.nat .i64 3)] 1 3 false 0 0 0) .lf))))) (.nd (.nd .lf (.row [(.nat .i64 1),(.nat .i64 1)] 2 3 false 0 0 0)
  .lf) (.row [(.nat .i64 3)] 1 3 false 0 0 0) .lf)) (tn (.nd (.nd .lf (.row [(.nat .i64 1)] 1 3 false 0 0 0) .lf) (.row [(.nat .i64 1),(.nat .i64 2)]
  2 3 false 0 0 0) (.nd (tl (tl (tl (.nd .lf (.row [(.sl k126 0 0 1 1),(.nat .i64 1),(.nat .i64 1),(.sl k134 0 0 1 1),(.nat .i64 3),(.nat .i64 0),(.sl
  k5 0 0 2 2),(.nat .i64 3),(.nat .i64 2)] 9 143 true 0 0 0) .lf)))) (.row [(.sl k9 0 0 1 1),(.sl k10 0 0 2 2)] 2 34 false 0 0 0) (tr (tl (.nd .lf
  (.row [(.so k107 12 0 4 0),(.so k133 9 0 3 0),(.so k151 12 0 4 0)] 3 141 true 3 0 0) .lf))))) (.nd (.nd (tl (tr (.nd .lf (.row [(.nat .i64 1)] 1 3
  false 0 0 0) .lf))) (.row [(.sl k5 0 0 2 2),(.sl k6 0 0 1 1)] 2 34 false 0 0 0) (tn (tr (.nd .lf (.row [(.sl k99 0 0 1 1),(.nat .i64 1),(.nat .i64
  1),(.sl k108 0 0 1 1),(.nat .i64 3),(.nat .i64 0),(.sl k111 0 0 1 1),(.nat .i64 2),(.nat .i64 0),(.sl k5 0 0 2 2),(.nat .i64 3),(.nat .i64 2)] 12
  143 true 0 0 0) .lf)) (tl (.nd .lf (.row [(.so k93 3 0 3 0),(.so k95 3 0 3 0),(.so k97 3 0 3 0),(.ref 0 k90)] 4 94 false 0 0 0) .lf)))) (.row [(.nat
  .i64 3)] 1 3 false 0 0 0) (tn (tr (tl (tl (.nd .lf (.row [(.sl k146 0 0 1 1),(.nat .i64 2),(.nat .i64 0),(.sl k152 0 0 1 1),(.nat .i64 3),(.nat .i64
  0),(.sl k157 0 0 1 1),(.nat .i64 1),(.nat .i64 1),(.sl k5 0 0 2 2),(.nat .i64 3),(.nat .i64 2)] 12 143 true 0 0 0) .lf)))) (tn (tr (.nd .lf (.row
  [(.nat .i64 2)] 1 3 false 0 0 0) .lf)) (tl (.nd .lf (.row [(.bool true),(.bool true),(.bool true)] 3 4 true 0 0 0) .lf))))))), k357⟩
def a0_158 : S := ⟨(tn (tn (tn (.nd .lf (.row [(.nat .i64 1),(.nat .i64 2)] 2 3 false 0 0 0) .lf) (.nd .lf (.row [(.sl k7 0 0 1 1),(.sl k8 0 0 2 2)] 2
  34 false 0 0 0) (tl (tr (.nd .lf (.row [(.nat .i64 3)] 1 3 false 0 0 0) .lf))))) (.nd (.nd .lf (.row [(.nat .i64 1),(.nat .i64 1)] 2 3 false 0 0 0)
  .lf) (.row [(.nat .i64 3)] 1 3 false 0 0 0) .lf)) (tn (.nd (.nd .lf (.row [(.nat .i64 1)] 1 3 false 0 0 0) .lf) (.row [(.nat .i64 1),(.nat .i64 2)]
  2 3 false 0 0 0) (.nd (tl (tl (tl (.nd .lf (.row [(.sl k126 0 0 1 1),(.nat .i64 1),(.nat .i64 1),(.sl k134 0 0 1 1),(.nat .i64 3),(.nat .i64 0),(.sl
  k5 0 0 2 2),(.nat .i64 3),(.nat .i64 2)] 9 143 true 0 0 0) .lf)))) (.row [(.sl k9 0 0 1 1),(.sl k10 0 0 2 2)] 2 34 false 0 0 0) (tr (tl (.nd .lf
  (.row [(.so k107 12 0 4 0),(.so k133 9 0 3 0),(.so k151 12 0 4 0)] 3 141 true 3 0 0) .lf))))) (.nd (.nd (tl (tr (.nd .lf (.row [(.nat .i64 1)] 1 3
  false 0 0 0) .lf))) (.row [(.sl k5 0 0 2 2),(.sl k6 0 0 1 1)] 2 34 false 0 0 0) (tn (tr (.nd .lf (.row [(.sl k99 0 0 1 1),(.nat .i64 1),(.nat .i64
  1),(.sl k108 0 0 1 1),(.nat .i64 3),(.nat .i64 0),(.sl k111 0 0 1 1),(.nat .i64 2),(.nat .i64 0),(.sl k5 0 0 2 2),(.nat .i64 3),(.nat .i64 2)] 12
  143 true 0 0 0) .lf)) (tl (.nd .lf (.row [(.so k93 3 0 3 0),(.so k95 3 0 3 0),(.so k97 3 0 3 0),(.ref 0 k90)] 4 94 false 0 0 0) .lf)))) (.row [(.nat
  .i64 3)] 1 3 false 0 0 0) (tn (tr (tl (tl (.nd .lf (.row [(.sl k146 0 0 1 1),(.nat .i64 2),(.nat .i64 0),(.sl k152 0 0 1 1),(.nat .i64 1),(.nat .i64
  1),(.sl k159 0 0 1 1),(.nat .i64 3),(.nat .i64 0),(.sl k5 0 0 2 2),(.nat .i64 3),(.nat .i64 2)] 12 143 true 0 0 0) .lf)))) (tn (tr (.nd .lf (.row
  [(.nat .i64 2)] 1 3 false 0 0 0) .lf)) (tl (.nd .lf (.row [(.bool true),(.bool true),(.bool true)] 3 4 true 0 0 0) .lf))))))), k358⟩
def a0_159 : S := ⟨(tn (tn (tn (.nd .lf (.row [(.nat .i64 1),(.nat .i64 2)] 2 3 false 0 0 0) .lf) (.nd .lf (.row [(.sl k7 0 0 1 1),(.sl k8 0 0 2 2)] 2
  34 false 0 0 0) (tl (tr (.nd .lf (.row [(.nat .i64 3)] 1 3 false 0 0 0) .lf))))) (.nd (.nd .lf (.row [(.nat .i64 1),(.nat .i64 1)] 2 3 false 0 0 0)
  .lf) (.row [(.nat .i64 3)] 1 3 false 0 0 0) .lf)) (tn (.nd (.nd .lf (.row [(.nat .i64 1)] 1 3 false 0 0 0) (tr (tl (tl (.nd .lf (.row [(.sl k146 0 0
  1 1),(.nat .i64 1),(.nat .i64 1),(.sl k154 0 0 1 1),(.nat .i64 3),(.nat .i64 0),(.sl k159 0 0 1 1),(.nat .i64 2),(.nat .i64 0),(.sl k5 0 0 2
  2),(.nat .i64 3),(.nat .i64 2)] 12 143 true 0 0 0) .lf))))) (.row [(.nat .i64 1),(.nat .i64 2)] 2 3 false 0 0 0) (.nd (tl (tl (tl (.nd .lf (.row
  [(.sl k126 0 0 1 1),(.nat .i64 1),(.nat .i64 1),(.sl k134 0 0 1 1),(.nat .i64 3),(.nat .i64 0),(.sl k5 0 0 2 2),(.nat .i64 3),(.nat .i64 2)] 9 143
  true 0 0 0) .lf)))) (.row [(.sl k9 0 0 1 1),(.sl k10 0 0 2 2)] 2 34 false 0 0 0) (tr (tl (.nd .lf (.row [(.so k107 12 0 4 0),(.so k133 9 0 3 0),(.so
  k153 12 0 4 0)] 3 141 true 3 0 0) .lf))))) (.nd (.nd (tl (tr (.nd .lf (.row [(.nat .i64 1)] 1 3 false 0 0 0) .lf))) (.row [(.sl k5 0 0 2 2),(.sl k6
  0 0 1 1)] 2 34 false 0 0 0) (tn (tr (.nd .lf (.row [(.sl k99 0 0 1 1),(.nat .i64 1),(.nat .i64 1),(.sl k108 0 0 1 1),(.nat .i64 3),(.nat .i64
  0),(.sl k111 0 0 1 1),(.nat .i64 2),(.nat .i64 0),(.sl k5 0 0 2 2),(.nat .i64 3),(.nat .i64 2)] 12 143 true 0 0 0) .lf)) (tl (.nd .lf (.row [(.so
  k93 3 0 3 0),(.so k95 3 0 3 0),(.so k97 3 0 3 0),(.ref 0 k90)] 4 94 false 0 0 0) .lf)))) (.row [(.nat .i64 3)] 1 3 false 0 0 0) (tr (tn (tr (.nd .lf
  (.row [(.nat .i64 2)] 1 3 false 0 0 0) .lf)) (tl (.nd .lf (.row [(.bool true),(.bool true),(.bool true)] 3 4 true 0 0 0) .lf))))))), k359⟩
def a0_160 : S := ⟨(tn (tn (tn (.nd .lf (.row [(.nat .i64 1),(.nat .i64 2)] 2 3 false 0 0 0) .lf) (.nd .lf (.row [(.sl k7 0 0 1 1),(.sl k8 0 0 2 2)] 2
  34 false 0 0 0) (tl (tr (.nd .lf (.row [(.nat .i64 3)] 1 3 false 0 0 0) .lf))))) (.nd (.nd .lf (.row [(.nat .i64 1),(.nat .i64 1)] 2 3 false 0 0 0)
  .lf) (.row [(.nat .i64 3)] 1 3 false 0 0 0) .lf)) (tn (.nd (.nd .lf (.row [(.nat .i64 1)] 1 3 false 0 0 0) (tr (tl (tl (.nd .lf (.row [(.sl k146 0 0
  1 1),(.nat .i64 1),(.nat .i64 1),(.sl k154 0 0 1 1),(.nat .i64 2),(.nat .i64 0),(.sl k159 0 0 1 1),(.nat .i64 3),(.nat .i64 0),(.sl k5 0 0 2
  2),(.nat .i64 3),(.nat .i64 2)] 12 143 true 0 0 0) .lf))))) (.row [(.nat .i64 1),(.nat .i64 2)] 2 3 false 0 0 0) (.nd (tl (tl (tl (.nd .lf (.row
  [(.sl k126 0 0 1 1),(.nat .i64 1),(.nat .i64 1),(.sl k134 0 0 1 1),(.nat .i64 3),(.nat .i64 0),(.sl k5 0 0 2 2),(.nat .i64 3),(.nat .i64 2)] 9 143
  true 0 0 0) .lf)))) (.row [(.sl k9 0 0 1 1),(.sl k10 0 0 2 2)] 2 34 false 0 0 0) (tr (tl (.nd .lf (.row [(.so k107 12 0 4 0),(.so k133 9 0 3 0),(.so
  k153 12 0 4 0)] 3 141 true 3 0 0) .lf))))) (.nd (.nd (tl (tr (.nd .lf (.row [(.nat .i64 1)] 1 3 false 0 0 0) .lf))) (.row [(.sl k5 0 0 2 2),(.sl k6
  0 0 1 1)] 2 34 false 0 0 0) (tn (tr (.nd .lf (.row [(.sl k99 0 0 1 1),(.nat .i64 1),(.nat .i64 1),(.sl k108 0 0 1 1),(.nat .i64 3),(.nat .i64
  0),(.sl k111 0 0 1 1),(.nat .i64 2),(.nat .i64 0),(.sl k5 0 0 2 2),(.nat .i64 3),(.nat .i64 2)] 12 143 true 0 0 0) .lf)) (tl (.nd .lf (.row [(.so
  k93 3 0 3 0),(.so k95 3 0 3 0),(.so k97 3 0 3 0),(.ref 0 k90)] 4 94 false 0 0 0) .lf)))) (.row [(.nat .i64 3)] 1 3 false 0 0 0) (tr (tn (tr (.nd .lf
  (.row [(.nat .i64 2)] 1 3 false 0 0 0) .lf)) (tl (.nd .lf (.row [(.bool true),(.bool true),(.bool true)] 3 4 true 0 0 0) .lf))))))), k360⟩
def a0_161 : S := ⟨(tn (tn (tn (.nd .lf (.row [(.nat .i64 1),(.nat .i64 2)] 2 3 false 0 0 0) .lf) (.nd .lf (.row [(.sl k7 0 0 1 1),(.sl k8 0 0 2 2)] 2
  34 false 0 0 0) (tl (tr (.nd .lf (.row [(.nat .i64 3)] 1 3 false 0 0 0) .lf))))) (.nd (.nd .lf (.row [(.nat .i64 1),(.nat .i64 1)] 2 3 false 0 0 0)
  .lf) (.row [(.nat .i64 3)] 1 3 false 0 0 0) .lf)) (tn (.nd (.nd .lf (.row [(.nat .i64 1)] 1 3 false 0 0 0) .lf) (.row [(.nat .i64 1),(.nat .i64 2)]
  2 3 false 0 0 0) (.nd (tl (tl (tl (.nd .lf (.row [(.sl k126 0 0 1 1),(.nat .i64 1),(.nat .i64 1),(.sl k134 0 0 1 1),(.nat .i64 3),(.nat .i64 0),(.sl
  k5 0 0 2 2),(.nat .i64 3),(.nat .i64 2)] 9 143 true 0 0 0) .lf)))) (.row [(.sl k9 0 0 1 1),(.sl k10 0 0 2 2)] 2 34 false 0 0 0) (tr (tl (.nd .lf
  (.row [(.so k107 12 0 4 0),(.so k133 9 0 3 0),(.so k151 12 0 4 0)] 3 141 true 3 0 0) .lf))))) (.nd (.nd (tl (tr (.nd .lf (.row [(.nat .i64 1)] 1 3
  false 0 0 0) .lf))) (.row [(.sl k5 0 0 2 2),(.sl k6 0 0 1 1)] 2 34 false 0 0 0) (tn (tr (.nd .lf (.row [(.sl k99 0 0 1 1),(.nat .i64 1),(.nat .i64
  1),(.sl k108 0 0 1 1),(.nat .i64 3),(.nat .i64 0),(.sl k111 0 0 1 1),(.nat .i64 2),(.nat .i64 0),(.sl k5 0 0 2 2),(.nat .i64 3),(.nat .i64 2)] 12
  143 true 0 0 0) .lf)) (tl (.nd .lf (.row [(.so k93 3 0 3 0),(.so k95 3 0 3 0),(.so k97 3 0 3 0),(.ref 0 k90)] 4 94 false 0 0 0) .lf)))) (.row [(.nat
  .i64 3)] 1 3 false 0 0 0) (tn (tr (tl (tl (.nd .lf (.row [(.sl k146 0 0 1 1),(.nat .i64 3),(.nat .i64 0),(.sl k152 0 0 1 1),(.nat .i64 2),(.nat .i64
  0),(.sl k157 0 0 1 1),(.nat .i64 1),(.nat .i64 1),(.sl k5 0 0 2 2),(.nat .i64 3),(.nat .i64 2)] 12 143 true 0 0 0) .lf)))) (tn (tr (.nd .lf (.row
  [(.nat .i64 2)] 1 3 false 0 0 0) .lf)) (tl (.nd .lf (.row [(.bool true),(.bool true),(.bool true)] 3 4 true 0 0 0) .lf))))))), k361⟩
def a0_162 : S := ⟨(tn (tn (tn (.nd .lf (.row [(.nat .i64 1),(.nat .i64 2)] 2 3 false 0 0 0) .lf) (.nd .lf (.row [(.sl k7 0 0 1 1),(.sl k8 0 0 2 2)] 2
  34 false 0 0 0) (tl (tr (.nd .lf (.row [(.nat .i64 3)] 1 3 false 0 0 0) .lf))))) (.nd (.nd .lf (.row [(.nat .i64 1),(.nat .i64 1)] 2 3 false 0 0 0)
  .lf) (.row [(.nat .i64 3)] 1 3 false 0 0 0) .lf)) (tn (.nd (.nd .lf (.row [(.nat .i64 1)] 1 3 false 0 0 0) .lf) (.row [(.nat .i64 1),(.nat .i64 2)]
  2 3 false 0 0 0) (.nd .lf (.row [(.sl k9 0 0 1 1),(.sl k10 0 0 2 2)] 2 34 false 0 0 0) (tr (tl (.nd .lf (.row [(.so k107 12 0 4 0),(.so k131 9 0 3
  0),(.so k151 12 0 4 0)] 3 141 true 3 0 0) .lf))))) (.nd (.nd (tl (tn (tl (.nd .lf (.row [(.sl k126 0 0 1 1),(.nat .i64 3),(.nat .i64 0),(.sl k132 0
  0 1 1),(.nat .i64 1),(.nat .i64 1),(.sl k5 0 0 2 2),(.nat .i64 3),(.nat .i64 2)] 9 143 true 0 0 0) .lf)) (.nd .lf (.row [(.nat .i64 1)] 1 3 false 0
  0 0) .lf))) (.row [(.sl k5 0 0 2 2),(.sl k6 0 0 1 1)] 2 34 false 0 0 0) (tn (tr (.nd .lf (.row [(.sl k99 0 0 1 1),(.nat .i64 1),(.nat .i64 1),(.sl
  k108 0 0 1 1),(.nat .i64 3),(.nat .i64 0),(.sl k111 0 0 1 1),(.nat .i64 2),(.nat .i64 0),(.sl k5 0 0 2 2),(.nat .i64 3),(.nat .i64 2)] 12 143 true 0
  0 0) .lf)) (tl (.nd .lf (.row [(.so k93 3 0 3 0),(.so k95 3 0 3 0),(.so k97 3 0 3 0),(.ref 0 k90)] 4 94 false 0 0 0) .lf)))) (.row [(.nat .i64 3)] 1
  3 false 0 0 0) (tn (tr (tl (tl (.nd .lf (.row [(.sl k146 0 0 1 1),(.nat .i64 3),(.nat .i64 0),(.sl k152 0 0 1 1),(.nat .i64 1),(.nat .i64 1),(.sl
  k159 0 0 1 1),(.nat .i64 2),(.nat .i64 0),(.sl k5 0 0 2 2),(.nat .i64 3),(.nat .i64 2)] 12 143 true 0 0 0) .lf)))) (tn (tr (.nd .lf (.row [(.nat
  .i64 2)] 1 3 false 0 0 0) .lf)) (tl (.nd .lf (.row [(.bool true),(.bool true),(.bool true)] 3 4 true 0 0 0) .lf))))))), k362⟩
def a0_163 : S := ⟨(tn (tn (tn (.nd .lf (.row [(.nat .i64 1),(.nat .i64 2)] 2 3 false 0 0 0) .lf) (.nd .lf (.row [(.sl k7 0 0 1 1),(.sl k8 0 0 2 2)] 2
  34 false 0 0 0) (tl (tr (.nd .lf (.row [(.nat .i64 3)] 1 3 false 0 0 0) .lf))))) (.nd (.nd .lf (.row [(.nat .i64 1),(.nat .i64 1)] 2 3 false 0 0 0)
  .lf) (.row [(.nat .i64 3)] 1 3 false 0 0 0) .lf)) (tn (.nd (.nd .lf (.row [(.nat .i64 1)] 1 3 false 0 0 0) .lf) (.row [(.nat .i64 1),(.nat .i64 2)]
  2 3 false 0 0 0) (.nd .lf (.row [(.sl k9 0 0 1 1),(.sl k10 0 0 2 2)] 2 34 false 0 0 0) (tr (tl (.nd .lf (.row [(.so k107 12 0 4 0),(.so k131 9 0 3
  0),(.so k151 12 0 4 0)] 3 141 true 3 0 0) .lf))))) (.nd (.nd (tl (tn (tl (.nd .lf (.row [(.sl k126 0 0 1 1),(.nat .i64 3),(.nat .i64 0),(.sl k132 0
  0 1 1),(.nat .i64 1),(.nat .i64 1),(.sl k5 0 0 2 2),(.nat .i64 3),(.nat .i64 2)] 9 143 true 0 0 0) .lf)) (.nd .lf (.row [(.nat .i64 1)] 1 3 false 0
  0 0) .lf))) (.row [(.sl k5 0 0 2 2),(.sl k6 0 0 1 1)] 2 34 false 0 0 0) (tn (tr (.nd .lf (.row [(.sl k99 0 0 1 1),(.nat .i64 1),(.nat .i64 1),(.sl
  k108 0 0 1 1),(.nat .i64 3),(.nat .i64 0),(.sl k111 0 0 1 1),(.nat .i64 2),(.nat .i64 0),(.sl k5 0 0 2 2),(.nat .i64 3),(.nat .i64 2)] 12 143 true 0
  0 0) .lf)) (tl (.nd .lf (.row [(.so k93 3 0 3 0),(.so k95 3 0 3 0),(.so k97 3 0 3 0),(.ref 0 k90)] 4 94 false 0 0 0) .lf)))) (.row [(.nat .i64 3)] 1
  3 false 0 0 0) (tn (tr (tl (tl (.nd .lf (.row [(.sl k146 0 0 1 1),(.nat .i64 2),(.nat .i64 0),(.sl k152 0 0 1 1),(.nat .i64 3),(.nat .i64 0),(.sl
  k157 0 0 1 1),(.nat .i64 1),(.nat .i64 1),(.sl k5 0 0 2 2),(.nat .i64 3),(.nat .i64 2)] 12 143 true 0 0 0) .lf)))) (tn (tr (.nd .lf (.row [(.nat
  .i64 2)] 1 3 false 0 0 0) .lf)) (tl (.nd .lf (.row [(.bool true),(.bool true),(.bool true)] 3 4 true 0 0 0) .lf))))))), k363⟩
def a0_164 : S := ⟨(tn (tn (tn (.nd .lf (.row [(.nat .i64 1),(.nat .i64 2)] 2 3 false 0 0 0) .lf) (.nd .lf (.row [(.sl k7 0 0 1 1),(.sl k8 0 0 2 2)] 2
  34 false 0 0 0) (tl (tr (.nd .lf (.row [(.nat .i64 3)] 1 3 false 0 0 0) .lf))))) (.nd (.nd .lf (.row [(.nat .i64 1),(.nat .i64 1)] 2 3 false 0 0 0)
  .lf) (.row [(.nat .i64 3)] 1 3 false 0 0 0) .lf)) (tn (.nd (.nd .lf (.row [(.nat .i64 1)] 1 3 false 0 0 0) .lf) (.row [(.nat .i64 1),(.nat .i64 2)]
  2 3 false 0 0 0) (.nd .lf (.row [(.sl k9 0 0 1 1),(.sl k10 0 0 2 2)] 2 34 false 0 0 0) (tr (tl (.nd .lf (.row [(.so k107 12 0 4 0),(.so k131 9 0 3
  0),(.so k151 12 0 4 0)] 3 141 true 3 0 0) .lf))))) (.nd (.nd (tl (tn (tl (.nd .lf (.row [(.sl k126 0 0 1 1),(.nat .i64 3),(.nat .i64 0),(.sl k132 0
  0 1 1),(.nat .i64 1),(.nat .i64 1),(.sl k5 0 0 2 2),(.nat .i64 3),(.nat .i64 2)] 9 143 true 0 0 0) .lf)) (.nd .lf (.row [(.nat .i64 1)] 1 3 false 0
  0 0) .lf))) (.row [(.sl k5 0 0 2 2),(.sl k6 0 0 1 1)] 2 34 false 0 0 0) (tn (tr (.nd .lf (.row [(.sl k99 0 0 1 1),(.nat .i64 1),(.nat .i64 1),(.sl
  k108 0 0 1 1),(.nat .i64 3),(.nat .i64 0),(.sl k111 0 0 1 1),(.nat .i64 2),(.nat .i64 0),(.sl k5 0 0 2 2),(.nat .i64 3),(.nat .i64 2)] 12 143 true 0
  0 0) .lf)) (tl (.nd .lf (.row [(.so k93 3 0 3 0),(.so k95 3 0 3 0),(.so k97 3 0 3 0),(.ref 0 k90)] 4 94 false 0 0 0) .lf)))) (.row [(.nat .i64 3)] 1
  3 false 0 0 0) (tn (tr (tl (tl (.nd .lf (.row [(.sl k146 0 0 1 1),(.nat .i64 2),(.nat .i64 0),(.sl k152 0 0 1 1),(.nat .i64 1),(.nat .i64 1),(.sl
  k159 0 0 1 1),(.nat .i64 3),(.nat .i64 0),(.sl k5 0 0 2 2),(.nat .i64 3),(.nat .i64 2)] 12 143 true 0 0 0) .lf)))) (tn (tr (.nd .lf (.row [(.nat
  .i64 2)] 1 3 false 0 0 0) .lf)) (tl (.nd .lf (.row [(.bool true),(.bool true),(.bool true)] 3 4 true 0 0 0) .lf))))))), k364⟩
def a0_165 : S := ⟨(tn (tn (tn (.nd .lf (.row [(.nat .i64 1),(.nat .i64 2)] 2 3 false 0 0 0) .lf) (.nd .lf (.row [(.sl k7 0 0 1 1),(.sl k8 0 0 2 2)] 2
  34 false 0 0 0) (tl (tr (.nd .lf (.row [(.nat .i64 3)] 1 3 false 0 0 0) .lf))))) (.nd (.nd .lf (.row [(.nat .i64 1),(.nat .i64 1)] 2 3 false 0 0 0)
  .lf) (.row [(.nat .i64 3)] 1 3 false 0 0 0) .lf)) (tn (.nd (.nd .lf (.row [(.nat .i64 1)] 1 3 false 0 0 0) (tr (tl (tl (.nd .lf (.row [(.sl k146 0 0
  1 1),(.nat .i64 1),(.nat .i64 1),(.sl k154 0 0 1 1),(.nat .i64 3),(.nat .i64 0),(.sl k159 0 0 1 1),(.nat .i64 2),(.nat .i64 0),(.sl k5 0 0 2
  2),(.nat .i64 3),(.nat .i64 2)] 12 143 true 0 0 0) .lf))))) (.row [(.nat .i64 1),(.nat .i64 2)] 2 3 false 0 0 0) (.nd .lf (.row [(.sl k9 0 0 1
  1),(.sl k10 0 0 2 2)] 2 34 false 0 0 0) (tr (tl (.nd .lf (.row [(.so k107 12 0 4 0),(.so k131 9 0 3 0),(.so k153 12 0 4 0)] 3 141 true 3 0 0)
  .lf))))) (.nd (.nd (tl (tn (tl (.nd .lf (.row [(.sl k126 0 0 1 1),(.nat .i64 3),(.nat .i64 0),(.sl k132 0 0 1 1),(.nat .i64 1),(.nat .i64 1),(.sl k5
  0 0 2 2),(.nat .i64 3),(.nat .i64 2)] 9 143 true 0 0 0) .lf)) (.nd .lf (.row [(.nat .i64 1)] 1 3 false 0 0 0) .lf))) (.row [(.sl k5 0 0 2 2),(.sl k6
  0 0 1 1)] 2 34 false 0 0 0) (tn (tr (.nd .lf (.row [(.sl k99 0 0 1 1),(.nat .i64 1),(.nat .i64 1),(.sl k108 0 0 1 1),(.nat .i64 3),(.nat .i64
  0),(.sl k111 0 0 1 1),(.nat .i64 2),(.nat .i64 0),(.sl k5 0 0 2 2),(.nat .i64 3),(.nat .i64 2)] 12 143 true 0 0 0) .lf)) (tl (.nd .lf (.row [(.so
  k93 3 0 3 0),(.so k95 3 0 3 0),(.so k97 3 0 3 0),(.ref 0 k90)] 4 94 false 0 0 0) .lf)))) (.row [(.nat .i64 3)] 1 3 false 0 0 0) (tr (tn (tr (.nd .lf
  (.row [(.nat .i64 2)] 1 3 false 0 0 0) .lf)) (tl (.nd .lf (.row [(.bool true),(.bool true),(.bool true)] 3 4 true 0 0 0) .lf))))))), k365⟩
def a0_166 : S := ⟨(tn (tn (tn (.nd .lf (.row [(.nat .i64 1),(.nat .i64 2)] 2 3 false 0 0 0) .lf) (.nd .lf (.row [(.sl k7 0 0 1 1),(.sl k8 0 0 2 2)] 2
  34 false 0 0 0) (tl (tr (.nd .lf (.row [(.nat .i64 3)] 1 3 false 0 0 0) .lf))))) (.nd (.nd .lf (.row [(.nat .i64 1),(.nat .i64 1)] 2 3 false 0 0 0)
  .lf) (.row [(.nat .i64 3)] 1 3 false 0 0 0) .lf)) (tn (.nd (.nd .lf (.row [(.nat .i64 1)] 1 3 false 0 0 0) (tr (tl (tl (.nd .lf (.row [(.sl k146 0 0
  1 1),(.nat .i64 1),(.nat .i64 1),(.sl k154 0 0 1 1),(.nat .i64 2),(.nat .i64 0),(.sl k159 0 0 1 1),(.nat .i64 3),(.nat .i64 0),(.sl k5 0 0 2
  2),(.nat .i64 3),(.nat .i64 2)] 12 143 true 0 0 0) .lf))))) (.row [(.nat .i64 1),(.nat .i64 2)] 2 3 false 0 0 0) (.nd .lf (.row [(.sl k9 0 0 1
  1),(.sl k10 0 0 2 2)] 2 34 false 0 0 0) (tr (tl (.nd .lf (.row [(.so k107 12 0 4 0),(.so k131 9 0 3 0),(.so k153 12 0 4 0)] 3 141 true 3 0 0)
  .lf))))) (.nd (.nd (tl (tn (tl (.nd .lf (.row [(.sl k126 0 0 1 1),(.nat .i64 3),(.nat .i64 0),(.sl k132 0 0 1 1),(.nat .i64 1),(.nat .i64 1),(.sl k5
  0 0 2 2),(.nat .i64 3),(.nat .i64 2)] 9 143 true 0 0 0) .lf)) (.nd .lf (.row [(.nat .i64 1)] 1 3 false 0 0 0) .lf))) (.row [(.sl k5 0 0 2 2),(.sl k6
  0 0 1 1)] 2 34 false 0 0 0) (tn (tr (.nd .lf (.row [(.sl k99 0 0 1 1),(.nat .i64 1),(.nat .i64 1),(.sl k108 0 0 1 1),(.nat .i64 3),(.nat .i64
  0),(.sl k111 0 0 1 1),(.nat .i64 2),(.nat .i64 0),(.sl k5 0 0 2 2),(.nat .i64 3),(.nat .i64 2)] 12 143 true 0 0 0) .lf)) (tl (.nd .lf (.row [(.so
  k93 3 0 3 0),(.so k95 3 0 3 0),(.so k97 3 0 3 0),(.ref 0 k90)] 4 94 false 0 0 0) .lf)))) (.row [(.nat .i64 3)] 1 3 false 0 0 0) (tr (tn (tr (.nd .lf
  (.row [(.nat .i64 2)] 1 3 false 0 0 0) .lf)) (tl (.nd .lf (.row [(.bool true),(.bool true),(.bool true)] 3 4 true 0 0 0) .lf))))))), k366⟩
def a0_167 : S := ⟨(tn (tn (tn (.nd .lf (.row [(.nat .i64 1),(.nat .i64 2)] 2 3 false 0 0 0) .lf) (.nd .lf (.row [(.sl k7 0 0 1 1),(.sl k8 0 0 2 2)] 2
  34 false 0 0 0) (tl (tr (.nd .lf (.row [(.nat .i64 3)] 1 3 false 0 0 0) .lf))))) (.nd (.nd .lf (.row [(.nat .i64 1),(.nat .i64 1)] 2 3 false 0 0 0)
  .lf) (.row [(.nat .i64 3)] 1 3 false 0 0 0) .lf)) (tn (.nd (.nd .lf (.row [(.nat .i64 1)] 1 3 false 0 0 0) .lf) (.row [(.nat .i64 1),(.nat .i64 2)]
  2 3 false 0 0 0) (.nd .lf (.row [(.sl k9 0 0 1 1),(.sl k10 0 0 2 2)] 2 34 false 0 0 0) (tr (tl (.nd .lf (.row [(.so k107 12 0 4 0),(.so k131 9 0 3
  0),(.so k151 12 0 4 0)] 3 141 true 3 0 0) .lf))))) (.nd (.nd (tl (tn (tl (.nd .lf (.row [(.sl k126 0 0 1 1),(.nat .i64 3),(.nat .i64 0),(.sl k132 0
  0 1 1),(.nat .i64 1),(.nat .i64 1),(.sl k5 0 0 2 2),(.nat .i64 3),(.nat .i64 2)] 9 143 true 0 0 0) .lf)) (.nd .lf (.row [(.nat .i64 1)] 1 3 false 0
  0 0) .lf))) (.row [(.sl k5 0 0 2 2),(.sl k6 0 0 1 1)] 2 34 false 0 0 0) (tn (tr (.nd .lf (.row [(.sl k99 0 0 1 1),(.nat .i64 1),(.nat .i64 1),(.sl
  k108 0 0 1 1),(.nat .i64 3),(.nat .i64 0),(.sl k111 0 0 1 1),(.nat .i64 2),(.nat .i64 0),(.sl k5 0 0 2 2),(.nat .i64 3),(.nat .i64 2)] 12 143 true 0
  0 0) .lf)) (tl (.nd .lf (.row [(.so k93 3 0 3 0),(.so k95 3 0 3 0),(.so k97 3 0 3 0),(.ref 0 k90)] 4 94 false 0 0 0) .lf)))) (.row [(.nat .i64 3)] 1
  3 false 0 0 0) (tn (tr (tl (tl (.nd .lf (.row [(.sl k146 0 0 1 1),(.nat .i64 3),(.nat .i64 0),(.sl k152 0 0 1 1),(.nat .i64 2),(.nat .i64 0),(.sl
  k157 0 0 1 1),(.nat .i64 1),(.nat .i64 1),(.sl k5 0 0 2 2),(.nat .i64 3),(.nat .i64 2)] 12 143 true 0 0 0) .lf)))) (tn (tr (.nd .lf (.row [(.nat
  .i64 2)] 1 3 false 0 0 0) .lf)) (tl (.nd .lf (.row [(.bool true),(.bool true),(.bool true)] 3 4 true 0 0 0) .lf))))))), k367⟩
def a0_168 : S := ⟨(tn (tn (tn (.nd .lf (.row [(.nat .i64 1),(.nat .i64 2)] 2 3 false 0 0 0) .lf) (.nd .lf (.row [(.sl k7 0 0 1 1),(.sl k8 0 0 2 2)] 2
  34 false 0 0 0) (tl (tr (.nd .lf (.row [(.nat .i64 3)] 1 3 false 0 0 0) .lf))))) (.nd (.nd .lf (.row [(.nat .i64 1),(.nat .i64 1)] 2 3 false 0 0 0)
  .lf) (.row [(.nat .i64 3)] 1 3 false 0 0 0) .lf)) (tn (.nd (.nd .lf (.row [(.nat .i64 1)] 1 3 false 0 0 0) .lf) (.row [(.nat .i64 1),(.nat .i64 2)]
  2 3 false 0 0 0) (.nd .lf (.row [(.sl k9 0 0 1 1),(.sl k10 0 0 2 2)] 2 34 false 0 0 0) (tr (tl (.nd .lf (.row [(.so k107 12 0 4 0),(.so k127 9 0 3
  0),(.so k151 12 0 4 0)] 3 141 true 3 0 0) .lf))))) (.nd (.nd (tl (tr (.nd .lf (.row [(.nat .i64 1)] 1 3 false 0 0 0) .lf))) (.row [(.sl k5 0 0 2
  2),(.sl k6 0 0 1 1)] 2 34 false 0 0 0) (tn (tr (.nd .lf (.row [(.sl k99 0 0 1 1),(.nat .i64 1),(.nat .i64 1),(.sl k108 0 0 1 1),(.nat .i64 3),(.nat
  .i64 0),(.sl k111 0 0 1 1),(.nat .i64 2),(.nat .i64 0),(.sl k5 0 0 2 2),(.nat .i64 3),(.nat .i64 2)] 12 143 true 0 0 0) .lf)) (tl (.nd .lf (.row
  [(.so k93 3 0 3 0),(.so k95 3 0 3 0),(.so k97 3 0 3 0),(.ref 0 k90)] 4 94 false 0 0 0) .lf)))) (.row [(.nat .i64 3)] 1 3 false 0 0 0) (tn (tr (tl
  (tl (.nd .lf (.row [(.sl k146 0 0 1 1),(.nat .i64 3),(.nat .i64 0),(.sl k152 0 0 1 1),(.nat .i64 1),(.nat .i64 1),(.sl k159 0 0 1 1),(.nat .i64
  2),(.nat .i64 0),(.sl k5 0 0 2 2),(.nat .i64 3),(.nat .i64 2)] 12 143 true 0 0 0) .lf)))) (tn (tr (.nd .lf (.row [(.nat .i64 2)] 1 3 false 0 0 0)
  .lf)) (tn (.nd .lf (.row [(.bool true),(.bool true),(.bool true)] 3 4 true 0 0 0) .lf) (.nd .lf (.row [(.sl k122 0 0 1 1),(.nat .i64 3),(.nat .i64
  0),(.sl k128 0 0 1 1),(.nat .i64 1),(.nat .i64 1),(.sl k5 0 0 2 2),(.nat .i64 3),(.nat .i64 2)] 9 143 true 0 0 0) .lf))))))), k368⟩
def a0_169 : S := ⟨(tn (tn (tn (.nd .lf (.row [(.nat .i64 1),(.nat .i64 2)] 2 3 false 0 0 0) .lf) (.nd .lf (.row [(.sl k7 0 0 1 1),(.sl k8 0 0 2 2)] 2
  34 false 0 0 0) (tl (tr (.nd .lf (.row [(.nat .i64 3)] 1 3 false 0 0 0) .lf))))) (.nd (.nd .lf (.row [(.nat .i64 1),(.nat .i64 1)] 2 3 false 0 0 0)
  .lf) (.row [(.nat .i64 3)] 1 3 false 0 0 0) .lf)) (tn (.nd (.nd .lf (.row [(.nat .i64 1)] 1 3 false 0 0 0) .lf) (.row [(.nat .i64 1),(.nat .i64 2)]
  2 3 false 0 0 0) (.nd .lf (.row [(.sl k9 0 0 1 1),(.sl k10 0 0 2 2)] 2 34 false 0 0 0) (tr (tl (.nd .lf (.row [(.so k107 12 0 4 0),(.so k127 9 0 3
  0),(.so k151 12 0 4 0)] 3 141 true 3 0 0) .lf))))) (.nd (.nd (tl (tr (.nd .lf (.row [(.nat .i64 1)] 1 3 false 0 0 0) .lf))) (.row [(.sl k5 0 0 2
  2),(.sl k6 0 0 1 1)] 2 34 false 0 0 0) (tn (tr (.nd .lf (.row [(.sl k99 0 0 1 1),(.nat .i64 1),(.nat .i64 1),(.sl k108 0 0 1 1),(.nat .i64 3),(.nat
  .i64 0),(.sl k111 0 0 1 1),(.nat .i64 2),(.nat .i64 0),(.sl k5 0 0 2 2),(.nat .i64 3),(.nat .i64 2)] 12 143 true 0 0 0) .lf)) (tl (.nd .lf (.row
  [(.so k93 3 0 3 0),(.so k95 3 0 3 0),(.so k97 3 0 3 0),(.ref 0 k90)] 4 94 false 0 0 0) .lf)))) (.row [(.nat .i64 3)] 1 3 false 0 0 0) (tn (tr (tl
  (tl (.nd .lf (.row [(.sl k146 0 0 1 1),(.nat .i64 2),(.nat .i64 0),(.sl k152 0 0 1 1),(.nat .i64 3),(.nat .i64 0),(.sl k157 0 0 1 1),(.nat .i64
  1),(.nat .i64 1),(.sl k5 0 0 2 2),(.nat .i64 3),(.nat .i64 2)] 12 143 true 0 0 0) .lf)))) (tn (tr (.nd .lf (.row [(.nat .i64 2)] 1 3 false 0 0 0)
  .lf)) (tn (.nd .lf (.row [(.bool true),(.bool true),(.bool true)] 3 4 true 0 0 0) .lf) (.nd .lf (.row [(.sl k122 0 0 1 1),(.nat .i64 3),(.nat .i64
  0),(.sl k128 0 0 1 1),(.nat .i64 1),(.nat .i64 1),(.sl k5 0 0 2 2),(.nat .i64 3),(.nat .i64 2)] 9 143 true 0 0 0) .lf))))))), k369⟩
def a0_170 : S := ⟨(tn (tn (tn (.nd .lf (.row [(.nat .i64 1),(.nat .i64 2)] 2 3 false 0 0 0) .lf) (.nd .lf (.row [(.sl k7 0 0 1 1),(.sl k8 0 0 2 2)] 2
  34 false 0 0 0) (tl (tr (.nd .lf (.row [(.nat .i64 3)] 1 3 false 0 0 0) .lf))))) (.nd (.nd .lf (.row [(.nat .i64 1),(.nat .i64 1)] 2 3 false 0 0 0)
  .lf) (.row [(.nat .i64 3)] 1 3 false 0 0 0) .lf)) (tn (.nd (.nd .lf (.row [(.nat .i64 1)] 1 3 false 0 0 0) .lf) (.row [(.nat .i64 1),(.nat .i64 2)]
  2 3 false 0 0 0) (.nd .lf (.row [(.sl k9 0 0 1 1),(.sl k10 0 0 2 2)] 2 34 false 0 0 0) (tr (tl (.nd .lf (.row [(.so k107 12 0 4 0),(.so k127 9 0 3
  0),(.so k151 12 0 4 0)] 3 141 true 3 0 0) .lf))))) (.nd (.nd (tl (tr (.nd .lf (.row [(.nat .i64 1)] 1 3 false 0 0 0) .lf))) (.row [(.sl k5 0 0 2
  2),(.sl k6 0 0 1 1)] 2 34 false 0 0 0) (tn (tr (.nd .lf (.row [(.sl k99 0 0 1 1),(.nat .i64 1),(.nat .i64 1),(.sl k108 0 0 1 1),(.nat .i64 3),(.nat
  .i64 0),(.sl k111 0 0 1 1),(.nat .i64 2),(.nat .i64 0),(.sl k5 0 0 2 2),(.nat .i64 3),(.nat .i64 2)] 12 143 true 0 0 0) .lf)) (tl (.nd .lf (.row
  [(.so k93 3 0 3 0),(.so k95 3 0 3 0),(.so k97 3 0 3 0),(.ref 0 k90)] 4 94 false 0 0 0) .lf)))) (.row [(.nat .i64 3)] 1 3 false 0 0 0) (tn (tr (tl
  (tl (.nd .lf (.row [(.sl k146 0 0 1 1),(.nat .i64 2),(.nat .i64 0),(.sl k152 0 0 1 1),(.nat .i64 1),(.nat .i64 1),(.sl k159 0 0 1 1),(.nat .i64
  3),(.nat .i64 0),(.sl k5 0 0 2 2),(.nat .i64 3),(.nat .i64 2)] 12 143 true 0 0 0) .lf)))) (tn (tr (.nd .lf (.row [(.nat .i64 2)] 1 3 false 0 0 0)
  .lf)) (tn (.nd .lf (.row [(.bool true),(.bool true),(.bool true)] 3 4 true 0 0 0) .lf) (.nd .lf (.row [(.sl k122 0 0 1 1),(.nat .i64 3),(.nat .i64
  0),(.sl k128 0 0 1 1),(.nat .i64 1),(.nat .i64 1),(.sl k5 0 0 2 2),(.nat .i64 3),(.nat .i64 2)] 9 143 true 0 0 0) .lf))))))), k370⟩
def a0_171 : S := ⟨(tn (tn (tn (.nd .lf (.row [(.nat .i64 1),(.nat .i64 2)] 2 3 false 0 0 0) .lf) (.nd .lf (.row [(.sl k7 0 0 1 1),(.sl k8 0 0 2 2)] 2
  34 false 0 0 0) (tl (tr (.nd .lf (.row [(.nat .i64 3)] 1 3 false 0 0 0) .lf))))) (.nd (.nd .lf (.row [(.nat .i64 1),(.nat .i64 1)] 2 3 false 0 0 0)
  .lf) (.row [(.nat .i64 3)] 1 3 false 0 0 0) .lf)) (tn (.nd (.nd .lf (.row [(.nat .i64 1)] 1 3 false 0 0 0) (tr (tl (tl (.nd .lf (.row [(.sl k146 0 0
  1 1),(.nat .i64 1),(.nat .i64 1),(.sl k154 0 0 1 1),(.nat .i64 3),(.nat .i64 0),(.sl k159 0 0 1 1),(.nat .i64 2),(.nat .i64 0),(.sl k5 0 0 2
  2),(.nat .i64 3),(.nat .i64 2)] 12 143 true 0 0 0) .lf))))) (.row [(.nat .i64 1),(.nat .i64 2)] 2 3 false 0 0 0) (.nd .lf (.row [(.sl k9 0 0 1
  1),(.sl k10 0 0 2 2)] 2 34 false 0 0 0) (tr (tl (.nd .lf (.row [(.so k107 12 0 4 0),(.so k127 9 0 3 0),(.so k153 12 0 4 0)] 3 141 true 3 0 0)
  .lf))))) (.nd (.nd (tl (tr (.nd .lf (.row [(.nat .i64 1)] 1 3 false 0 0 0) .lf))) (.row [(.sl k5 0 0 2 2),(.sl k6 0 0 1 1)] 2 34 false 0 0 0) (tn
  (tr (.nd .lf (.row [(.sl k99 0 0 1 1),(.nat .i64 1),(.nat .i64 1),(.sl k108 0 0 1 1),(.nat .i64 3),(.nat .i64 0),(.sl k111 0 0 1 1),(.nat .i64
  2),(.nat .i64 0),(.sl k5 0 0 2 2),(.nat .i64 3),(.nat .i64 2)] 12 143 true 0 0 0) .lf)) (tl (.nd .lf (.row [(.so k93 3 0 3 0),(.so k95 3 0 3 0),(.so
  k97 3 0 3 0),(.ref 0 k90)] 4 94 false 0 0 0) .lf)))) (.row [(.nat .i64 3)] 1 3 false 0 0 0) (tr (tn (tr (.nd .lf (.row [(.nat .i64 2)] 1 3 false 0 0
  0) .lf)) (tn (.nd .lf (.row [(.bool true),(.bool true),(.bool true)] 3 4 true 0 0 0) .lf) (.nd .lf (.row [(.sl k122 0 0 1 1),(.nat .i64 3),(.nat
  .i64 0),(.sl k128 0 0 1 1),(.nat .i64 1),(.nat .i64 1),(.sl k5 0 0 2 2),(.nat .i64 3),(.nat .i64 2)] 9 143 true 0 0 0) .lf))))))), k371⟩
def a0_172 : S := ⟨(tn (tn (tn (.nd .lf (.row [(.nat .i64 1),(.nat .i64 2)] 2 3 false 0 0 0) .lf) (.nd .lf (.row [(.sl k7 0 0 1 1),(.sl k8 0 0 2 2)] 2
  34 false 0 0 0) (tl (tr (.nd .lf (.row [(.nat .i64 3)] 1 3 false 0 0 0) .lf))))) (.nd (.nd .lf (.row [(.nat .i64 1),(.nat .i64 1)] 2 3 false 0 0 0)
  .lf) (.row [(.nat .i64 3)] 1 3 false 0 0 0) .lf)) (tn (.nd (.nd .lf (.row [(.nat .i64 1)] 1 3 false 0 0 0) (tr (tl (tl (.nd .lf (.row [(.sl k146 0 0
  1 1),(.nat .i64 1),(.nat .i64 1),(.sl k154 0 0 1 1),(.nat .i64 2),(.nat .i64 0),(.sl k159 0 0 1 1),(.nat .i64 3),(.nat .i64 0),(.sl k5 0 0 2
  2),(.nat .i64 3),(.nat .i64 2)] 12 143 true 0 0 0) .lf))))) (.row [(.nat .i64 1),(.nat .i64 2)] 2 3 false 0 0 0) (.nd .lf (.row [(.sl k9 0 0 1
  1),(.sl k10 0 0 2 2)] 2 34 false 0 0 0) (tr (tl (.nd .lf (.row [(.so k107 12 0 4 0),(.so k127 9 0 3 0),(.so k153 12 0 4 0)] 3 141 true 3 0 0)
  .lf))))) (.nd (.nd (tl (tr (.nd .lf (.row [(.nat .i64 1)] 1 3 false 0 0 0) .lf))) (.row [(.sl k5 0 0 2 2),(.sl k6 0 0 1 1)] 2 34 false 0 0 0) (tn
  (tr (.nd .lf (.row [(.sl k99 0 0 1 1),(.nat .i64 1),(.nat .i64 1),(.sl k108 0 0 1 1),(.nat .i64 3),(.nat .i64 0),(.sl k111 0 0 1 1),(.nat .i64
  2),(.nat .i64 0),(.sl k5 0 0 2 2),(.nat .i64 3),(.nat .i64 2)] 12 143 true 0 0 0) .lf)) (tl (.nd .lf (.row [(.so k93 3 0 3 0),(.so k95 3 0 3 0),(.so
  k97 3 0 3 0),(.ref 0 k90)] 4 94 false 0 0 0) .lf)))) (.row [(.nat .i64 3)] 1 3 false 0 0 0) (tr (tn (tr (.nd .lf (.row [(.nat .i64 2)] 1 3 false 0 0
  0) .lf)) (tn (.nd .lf (.row [(.bool true),(.bool true),(.bool true)] 3 4 true 0 0 0) .lf) (.nd .lf (.row [(.sl k122 0 0 1 1),(.nat .i64 3),(.nat
  .i64 0),(.sl k128 0 0 1 1),(.nat .i64 1),(.nat .i64 1),(.sl k5 0 0 2 2),(.nat .i64 3),(.nat .i64 2)] 9 143 true 0 0 0) .lf))))))), k372⟩
def a0_173 : S := ⟨(tn (tn (tn (.nd .lf (.row [(.nat .i64 1),(.nat .i64 2)] 2 3 false 0 0 0) .lf) (.nd .lf (.row [(.sl k7 0 0 1 1),(.sl k8 0 0 2 2)] 2
  34 false 0 0 0) (tl (tr (.nd .lf (.row [(.nat .i64 3)] 1 3 false 0 0 0) .lf))))) (.nd (.nd .lf (.row [(.nat .i64 1),(.nat .i64 1)] 2 3 false 0 0 0)
  .lf) (.row [(.nat .i64 3)] 1 3 false 0 0 0) .lf)) (tn (.nd (.nd .lf (.row [(.nat .i64 1)] 1 3 false 0 0 0) .lf) (.row [(.nat .i64 1),(.nat .i64 2)]
  2 3 false 0 0 0) (.nd .lf (.row [(.sl k9 0 0 1 1),(.sl k10 0 0 2 2)] 2 34 false 0 0 0) (tr (tl (.nd .lf (.row [(.so k107 12 0 4 0),(.so k127 9 0 3
  0),(.so k151 12 0 4 0)] 3 141 true 3 0 0) .lf))))) (.nd (.nd (tl (tr (.nd .lf (.row [(.nat .i64 1)] 1 3 false 0 0 0) .lf))) (.row [(.sl k5 0 0 2
  2),(.sl k6 0 0 1 1)] 2 34 false 0 0 0) (tn (tr (.nd .lf (.row [(.sl k99 0 0 1 1),(.nat .i64 1),(.nat .i64 1),(.sl k108 0 0 1 1),(.nat .i64 3),(.nat
  .i64 0),(.sl k111 0 0 1 1),(.nat .i64 2),(.nat .i64 0),(.sl k5 0 0 2 2),(.nat .i64 3),(.nat .i64 2)] 12 143 true 0 0 0) .lf)) (tl (.nd .lf (.row
  [(.so k93 3 0 3 0),(.so k95 3 0 3 0),(.so k97 3 0 3 0),(.ref 0 k90)] 4 94 false 0 0 0) .lf)))) (.row [(.nat .i64 3)] 1 3 false 0 0 0) (tn (tr (tl
  (tl (.nd .lf (.row [(.sl k146 0 0 1 1),(.nat .i64 3),(.nat .i64 0),(.sl k152 0 0 1 1),(.nat .i64 2),(.nat .i64 0),(.sl k157 0 0 1 1),(.nat .i64
  1),(.nat .i64 1),(.sl k5 0 0 2 2),(.nat .i64 3),(.nat .i64 2)] 12 143 true 0 0 0) .lf)))) (tn (tr (.nd .lf (.row [(.nat .i64 2)] 1 3 false 0 0 0)
  .lf)) (tn (.nd .lf (.row [(.bool true),(.bool true),(.bool true)] 3 4 true 0 0 0) .lf) (.nd .lf (.row [(.sl k122 0 0 1 1),(.nat .i64 3),(.nat .i64
  0),(.sl k128 0 0 1 1),(.nat .i64 1),(.nat .i64 1),(.sl k5 0 0 2 2),(.nat .i64 3),(.nat .i64 2)] 9 143 true 0 0 0) .lf))))))), k373⟩
def a0_174 : S := ⟨(tn (tn (tn (.nd .lf (.row [(.nat .i64 1),(.nat .i64 2)] 2 3 false 0 0 0) .lf) (.nd .lf (.row [(.sl k7 0 0 1 1),(.sl k8 0 0 2 2)] 2
  34 false 0 0 0) (tl (tr (.nd .lf (.row [(.nat .i64 3)] 1 3 false 0 0 0) .lf))))) (.nd (.nd .lf (.row [(.nat .i64 1),(.nat .i64 1)] 2 3 false 0 0 0)
  .lf) (.row [(.nat .i64 3)] 1 3 false 0 0 0) .lf)) (tn (.nd (.nd .lf (.row [(.nat .i64 1)] 1 3 false 0 0 0) (tr (tl (tl (.nd .lf (.row [(.sl k146 0 0
  1 1),(.nat .i64 1),(.nat .i64 1),(.sl k154 0 0 1 1),(.nat .i64 2),(.nat .i64 0),(.sl k159 0 0 1 1),(.nat .i64 3),(.nat .i64 0),(.sl k5 0 0 2
  2),(.nat .i64 3),(.nat .i64 2)] 12 143 true 0 0 0) .lf))))) (.row [(.nat .i64 1),(.nat .i64 2)] 2 3 false 0 0 0) (.nd .lf (.row [(.sl k9 0 0 1
  1),(.sl k10 0 0 2 2)] 2 34 false 0 0 0) (tr (tl (.nd .lf (.row [(.so k107 12 0 4 0),(.so k127 9 0 3 0),(.so k153 12 0 4 0)] 3 141 true 3 0 0)
  .lf))))) (.nd (.nd (tl (tr (.nd .lf (.row [(.nat .i64 1)] 1 3 false 0 0 0) .lf))) (.row [(.sl k5 0 0 2 2),(.sl k6 0 0 1 1)] 2 34 false 0 0 0) (tn
  (tr (.nd .lf (.row [(.sl k99 0 0 1 1),(.nat .i64 1),(.nat .i64 1),(.sl k108 0 0 1 1),(.nat .i64 3),(.nat .i64 0),(.sl k111 0 0 1 1),(.nat .i64
  2),(.nat .i64 0),(.sl k5 0 0 2 2),(.nat .i64 3),(.nat .i64 2)] 12 143 true 0 0 0) .lf)) (tl (.nd .lf (.row [(.so k93 3 0 3 0),(.so k95 3 0 3 0),(.so
  k97 3 0 3 0),(.ref 0 k90)] 4 94 false 0 0 0) .lf)))) (.row [(.nat .i64 3)] 1 3 false 0 0 0) (tr (tn (tr (.nd .lf (.row [(.nat .i64 2)] 1 3 false 0 0
  0) .lf)) (tn (.nd .lf (.row [(.bool true),(.bool true),(.bool true)] 3 4 true 0 0 0) .lf) (.nd .lf (.row [(.sl k122 0 0 1 1),(.nat .i64 3),(.nat
  .i64 0),(.sl k132 0 0 1 1),(.nat .i64 1),(.nat .i64 1),(.sl k5 0 0 2 2),(.nat .i64 3),(.nat .i64 2)] 9 143 true 0 0 0) .lf))))))), k374⟩
def a0_175 : S := ⟨(tn (tn (tn (.nd .lf (.row [(.nat .i64 1),(.nat .i64 2)] 2 3 false 0 0 0) .lf) (.nd .lf (.row [(.sl k7 0 0 1 1),(.sl k8 0 0 2 2)] 2
  34 false 0 0 0) (tl (tr (.nd .lf (.row [(.nat .i64 3)] 1 3 false 0 0 0) .lf))))) (.nd (.nd .lf (.row [(.nat .i64 1),(.nat .i64 1)] 2 3 false 0 0 0)
  .lf) (.row [(.nat .i64 3)] 1 3 false 0 0 0) .lf)) (tn (.nd (.nd .lf (.row [(.nat .i64 1)] 1 3 false 0 0 0) (tr (tl (tl (.nd .lf (.row [(.sl k146 0 0
  1 1),(.nat .i64 1),(.nat .i64 1),(.sl k154 0 0 1 1),(.nat .i64 3),(.nat .i64 0),(.sl k159 0 0 1 1),(.nat .i64 2),(.nat .i64 0),(.sl k5 0 0 2
  2),(.nat .i64 3),(.nat .i64 2)] 12 143 true 0 0 0) .lf))))) (.row [(.nat .i64 1),(.nat .i64 2)] 2 3 false 0 0 0) (.nd .lf (.row [(.sl k9 0 0 1
  1),(.sl k10 0 0 2 2)] 2 34 false 0 0 0) (tr (tl (.nd .lf (.row [(.so k107 12 0 4 0),(.so k127 9 0 3 0),(.so k153 12 0 4 0)] 3 141 true 3 0 0)
  .lf))))) (.nd (.nd (tl (tr (.nd .lf (.row [(.nat .i64 1)] 1 3 false 0 0 0) .lf))) (.row [(.sl k5 0 0 2 2),(.sl k6 0 0 1 1)] 2 34 false 0 0 0) (tn
  (tr (.nd .lf (.row [(.sl k99 0 0 1 1),(.nat .i64 1),(.nat .i64 1),(.sl k108 0 0 1 1),(.nat .i64 3),(.nat .i64 0),(.sl k111 0 0 1 1),(.nat .i64
  2),(.nat .i64 0),(.sl k5 0 0 2 2),(.nat .i64 3),(.nat .i64 2)] 12 143 true 0 0 0) .lf)) (tl (.nd .lf (.row [(.so k93 3 0 3 0),(.so k95 3 0 3 0),(.so
  k97 3 0 3 0),(.ref 0 k90)] 4 94 false 0 0 0) .lf)))) (.row [(.nat .i64 3)] 1 3 false 0 0 0) (tr (tn (tr (.nd .lf (.row [(.nat .i64 2)] 1 3 false 0 0
  0) .lf)) (tn (.nd .lf (.row [(.bool true),(.bool true),(.bool true)] 3 4 true 0 0 0) .lf) (.nd .lf (.row [(.sl k122 0 0 1 1),(.nat .i64 3),(.nat
  .i64 0),(.sl k132 0 0 1 1),(.nat .i64 1),(.nat .i64 1),(.sl k5 0 0 2 2),(.nat .i64 3),(.nat .i64 2)] 9 143 true 0 0 0) .lf))))))), k375⟩
def a0_176 : S := ⟨(tn (tn (tn (.nd .lf (.row [(.nat .i64 1),(.nat .i64 2)] 2 3 false 0 0 0) .lf) (.nd .lf (.row [(.sl k7 0 0 1 1),(.sl k8 0 0 2 2)] 2
  34 false 0 0 0) (tl (tr (.nd .lf (.row [(.nat .i64 3)] 1 3 false 0 0 0) .lf))))) (.nd (.nd .lf (.row [(.nat .i64 1),(.nat .i64 1)] 2 3 false 0 0 0)
  .lf) (.row [(.nat .i64 3)] 1 3 false 0 0 0) .lf)) (tn (.nd (.nd .lf (.row [(.nat .i64 1)] 1 3 false 0 0 0) .lf) (.row [(.nat .i64 1),(.nat .i64 2)]
  2 3 false 0 0 0) (.nd .lf (.row [(.sl k9 0 0 1 1),(.sl k10 0 0 2 2)] 2 34 false 0 0 0) (tr (tl (.nd .lf (.row [(.so k107 12 0 4 0),(.so k127 9 0 3
  0),(.so k151 12 0 4 0)] 3 141 true 3 0 0) .lf))))) (.nd (.nd (tl (tr (.nd .lf (.row [(.nat .i64 1)] 1 3 false 0 0 0) .lf))) (.row [(.sl k5 0 0 2
  2),(.sl k6 0 0 1 1)] 2 34 false 0 0 0) (tn (tr (.nd .lf (.row [(.sl k99 0 0 1 1),(.nat .i64 1),(.nat .i64 1),(.sl k108 0 0 1 1),(.nat .i64 3),(.nat
  .i64 0),(.sl k111 0 0 1 1),(.nat .i64 2),(.nat .i64 0),(.sl k5 0 0 2 2),(.nat .i64 3),(.nat .i64 2)] 12 143 true 0 0 0) .lf)) (tl (.nd .lf (.row
  [(.so k93 3 0 3 0),(.so k95 3 0 3 0),(.so k97 3 0 3 0),(.ref 0 k90)] 4 94 false 0 0 0) .lf)))) (.row [(.nat .i64 3)] 1 3 false 0 0 0) (tn (tr (tl
  (tl (.nd .lf (.row [(.sl k146 0 0 1 1),(.nat .i64 2),(.nat .i64 0),(.sl k152 0 0 1 1),(.nat .i64 1),(.nat .i64 1),(.sl k159 0 0 1 1),(.nat .i64
  3),(.nat .i64 0),(.sl k5 0 0 2 2),(.nat .i64 3),(.nat .i64 2)] 12 143 true 0 0 0) .lf)))) (tn (tr (.nd .lf (.row [(.nat .i64 2)] 1 3 false 0 0 0)
  .lf)) (tn (.nd .lf (.row [(.bool true),(.bool true),(.bool true)] 3 4 true 0 0 0) .lf) (.nd .lf (.row [(.sl k122 0 0 1 1),(.nat .i64 3),(.nat .i64
  0),(.sl k132 0 0 1 1),(.nat .i64 1),(.nat .i64 1),(.sl k5 0 0 2 2),(.nat .i64 3),(.nat .i64 2)] 9 143 true 0 0 0) .lf))))))), k376⟩
def a0_177 : S := ⟨(tn (tn (tn (.nd .lf (.row [(.nat .i64 1),(.nat .i64 2)] 2 3 false 0 0 0) .lf) (.nd .lf (.row [(.sl k7 0 0 1 1),(.sl k8 0 0 2 2)] 2
  34 false 0 0 0) (tl (tr (.nd .lf (.row [(.nat .i64 3)] 1 3 false 0 0 0) .lf))))) (.nd (.nd .lf (.row [(.nat .i64 1),(.nat .i64 1)] 2 3 false 0 0 0)
  .lf) (.row [(.nat .i64 3)] 1 3 false 0 0 0) .lf)) (tn (.nd (.nd .lf (.row [(.nat .i64 1)] 1 3 false 0 0 0) .lf) (.row [(.nat .i64 1),(.nat .i64 2)]
  2 3 false 0 0 0) (.nd .lf (.row [(.sl k9 0 0 1 1),(.sl k10 0 0 2 2)] 2 34 false 0 0 0) (tr (tl (.nd .lf (.row [(.so k107 12 0 4 0),(.so k127 9 0 3
  0),(.so k151 12 0 4 0)] 3 141 true 3 0 0) .lf))))) (.nd (.nd (tl (tr (.nd .lf (.row [(.nat .i64 1)] 1 3 false 0 0 0) .lf))) (.row [(.sl k5 0 0 2
  2),(.sl k6 0 0 1 1)] 2 34 false 0 0 0) (tn (tr (.nd .lf (.row [(.sl k99 0 0 1 1),(.nat .i64 1),(.nat .i64 1),(.sl k108 0 0 1 1),(.nat .i64 3),(.nat
  .i64 0),(.sl k111 0 0 1 1),(.nat .i64 2),(.nat .i64 0),(.sl k5 0 0 2 2),(.nat .i64 3),(.nat .i64 2)] 12 143 true 0 0 0) .lf)) (tl (.nd .lf (.row
  [(.so k93 3 0 3 0),(.so k95 3 0 3 0),(.so k97 3 0 3 0),(.ref 0 k90)] 4 94 false 0 0 0) .lf)))) (.row [(.nat .i64 3)] 1 3 false 0 0 0) (tn (tr (tl
  (tl (.nd .lf (.row [(.sl k146 0 0 1 1),(.nat .i64 2),(.nat .i64 0),(.sl k152 0 0 1 1),(.nat .i64 3),(.nat .i64 0),(.sl k157 0 0 1 1),(.nat .i64
  1),(.nat .i64 1),(.sl k5 0 0 2 2),(.nat .i64 3),(.nat .i64 2)] 12 143 true 0 0 0) .lf)))) (tn (tr (.nd .lf (.row [(.nat .i64 2)] 1 3 false 0 0 0)
  .lf)) (tn (.nd .lf (.row [(.bool true),(.bool true),(.bool true)] 3 4 true 0 0 0) .lf) (.nd .lf (.row [(.sl k122 0 0 1 1),(.nat .i64 3),(.nat .i64
  0),(.sl k132 0 0 1 1),(.nat .i64 1),(.nat .i64 1),(.sl k5 0 0 2 2),(.nat .i64 3),(.nat .i64 2)] 9 143 true 0 0 0) .lf))))))), k377⟩
def a0_178 : S := ⟨(tn (tn (tn (.nd .lf (.row [(.nat .i64 1),(.nat .i64 2)] 2 3 false 0 0 0) .lf) (.nd .lf (.row [(.sl k7 0 0 1 1),(.sl k8 0 0 2 2)] 2
  34 false 0 0 0) (tl (tr (.nd .lf (.row [(.nat .i64 3)] 1 3 false 0 0 0) .lf))))) (.nd (.nd .lf (.row [(.nat .i64 1),(.nat .i64 1)] 2 3 false 0 0 0)
  .lf) (.row [(.nat .i64 3)] 1 3 false 0 0 0) .lf)) (tn (.nd (.nd .lf (.row [(.nat .i64 1)] 1 3 false 0 0 0) .lf) (.row [(.nat .i64 1),(.nat .i64 2)]
  2 3 false 0 0 0) (.nd .lf (.row [(.sl k9 0 0 1 1),(.sl k10 0 0 2 2)] 2 34 false 0 0 0) (tr (tl (.nd .lf (.row [(.so k107 12 0 4 0),(.so k127 9 0 3
  0),(.so k151 12 0 4 0)] 3 141 true 3 0 0) .lf))))) (.nd (.nd (tl (tr (.nd .lf (.row [(.nat .i64 1)] 1 3 false 0 0 0) .lf))) (.row [(.sl k5 0 0 2
  2),(.sl k6 0 0 1 1)] 2 34 false 0 0 0) (tn (tr (.nd .lf (.row [(.sl k99 0 0 1 1),(.nat .i64 1),(.nat .i64 1),(.sl k108 0 0 1 1),(.nat .i64 3),(.nat
  .i64 0),(.sl k111 0 0 1 1),(.nat .i64 2),(.nat .i64 0),(.sl k5 0 0 2 2),(.nat .i64 3),(.nat .i64 2)] 12 143 true 0 0 0) .lf)) (tl (.nd .lf (.row
  [(.so k93 3 0 3 0),(.so k95 3 0 3 0),(.so k97 3 0 3 0),(.ref 0 k90)] 4 94 false 0 0 0) .lf)))) (.row [(.nat .i64 3)] 1 3 false 0 0 0) (tn (tr (tl
  (tl (.nd .lf (.row [(.sl k146 0 0 1 1),(.nat .i64 3),(.nat .i64 0),(.sl k152 0 0 1 1),(.nat .i64 1),(.nat .i64 1),(.sl k159 0 0 1 1),(.nat .i64
  2),(.nat .i64 0),(.sl k5 0 0 2 2),(.nat .i64 3),(.nat .i64 2)] 12 143 true 0 0 0) .lf)))) (tn (tr (.nd .lf (.row [(.nat .i64 2)] 1 3 false 0 0 0)
  .lf)) (tn (.nd .lf (.row [(.bool true),(.bool true),(.bool true)] 3 4 true 0 0 0) .lf) (.nd .lf (.row [(.sl k122 0 0 1 1),(.nat .i64 3),(.nat .i64
  0),(.sl k132 0 0 1 1),(.nat .i64 1),(.nat .i64 1),(.sl k5 0 0 2 2),(.nat .i64 3),(.nat .i64 2)] 9 143 true 0 0 0) .lf))))))), k378⟩
def a0_179 : S := ⟨(tn (tn (tn (.nd .lf (.row [(.nat .i64 1),(.nat .i64 2)] 2 3 false 0 0 0) .lf) (.nd .lf (.row [(.sl k7 0 0 1 1),(.sl k8 0 0 2 2)] 2
  34 false 0 0 0) (tl (tr (.nd .lf (.row [(.nat .i64 2)] 1 3 false 0 0 0) .lf))))) (.nd (.nd .lf (.row [(.nat .i64 1),(.nat .i64 1)] 2 3 false 0 0 0)
  .lf) (.row [(.nat .i64 3)] 1 3 false 0 0 0) .lf)) (tn (.nd (.nd .lf (.row [(.nat .i64 1)] 1 3 false 0 0 0) .lf) (.row [(.nat .i64 1),(.nat .i64 2)]
  2 3 false 0 0 0) (.nd .lf (.row [(.sl k9 0 0 1 1),(.sl k10 0 0 2 2)] 2 34 false 0 0 0) (tr (tl (.nd .lf (.row [(.so k107 12 0 4 0),(.so k127 9 0 3
  0),(.so k151 12 0 4 0)] 3 141 true 3 0 0) .lf))))) (.nd (.nd (tl (tr (.nd .lf (.row [(.nat .i64 1)] 1 3 false 0 0 0) .lf))) (.row [(.sl k5 0 0 2
  2),(.sl k6 0 0 1 1)] 2 34 false 0 0 0) (tn (tr (.nd .lf (.row [(.sl k99 0 0 1 1),(.nat .i64 1),(.nat .i64 1),(.sl k108 0 0 1 1),(.nat .i64 2),(.nat
  .i64 0),(.sl k111 0 0 1 1),(.nat .i64 3),(.nat .i64 0),(.sl k5 0 0 2 2),(.nat .i64 3),(.nat .i64 2)] 12 143 true 0 0 0) .lf)) (tl (.nd .lf (.row
  [(.so k93 3 0 3 0),(.so k95 3 0 3 0),(.so k97 3 0 3 0),(.ref 0 k90)] 4 94 false 0 0 0) .lf)))) (.row [(.nat .i64 3)] 1 3 false 0 0 0) (tn (tr (tl
  (tl (.nd .lf (.row [(.sl k146 0 0 1 1),(.nat .i64 3),(.nat .i64 0),(.sl k152 0 0 1 1),(.nat .i64 2),(.nat .i64 0),(.sl k157 0 0 1 1),(.nat .i64
  1),(.nat .i64 1),(.sl k5 0 0 2 2),(.nat .i64 3),(.nat .i64 2)] 12 143 true 0 0 0) .lf)))) (tn (tr (.nd .lf (.row [(.nat .i64 3)] 1 3 false 0 0 0)
  .lf)) (tn (.nd .lf (.row [(.bool true),(.bool true),(.bool true)] 3 4 true 0 0 0) .lf) (.nd .lf (.row [(.sl k122 0 0 1 1),(.nat .i64 3),(.nat .i64
  0),(.sl k132 0 0 1 1),(.nat .i64 1),(.nat .i64 1),(.sl k5 0 0 2 2),(.nat .i64 3),(.nat .i64 2)] 9 143 true 0 0 0) .lf))))))), k379⟩
def a0_180 : S := ⟨(tn (tn (tn (.nd .lf (.row [(.nat .i64 1),(.nat .i64 2)] 2 3 false 0 0 0) .lf) (.nd .lf (.row [(.sl k7 0 0 1 1),(.sl k8 0 0 2 2)] 2
  34 false 0 0 0) (tl (tr (.nd .lf (.row [(.nat .i64 2)] 1 3 false 0 0 0) .lf))))) (.nd (.nd .lf (.row [(.nat .i64 1),(.nat .i64 1)] 2 3 false 0 0 0)
  .lf) (.row [(.nat .i64 3)] 1 3 false 0 0 0) .lf)) (tn (.nd (.nd (tl (tl (tl (.nd .lf (.row [(.sl k122 0 0 1 1),(.nat .i64 1),(.nat .i64 1),(.sl k134
  0 0 1 1),(.nat .i64 3),(.nat .i64 0),(.sl k5 0 0 2 2),(.nat .i64 3),(.nat .i64 2)] 9 143 true 0 0 0) .lf)))) (.row [(.nat .i64 1)] 1 3 false 0 0 0)
  .lf) (.row [(.nat .i64 1),(.nat .i64 2)] 2 3 false 0 0 0) (.nd .lf (.row [(.sl k9 0 0 1 1),(.sl k10 0 0 2 2)] 2 34 false 0 0 0) (tr (tl (.nd .lf
  (.row [(.so k107 12 0 4 0),(.so k129 9 0 3 0),(.so k151 12 0 4 0)] 3 141 true 3 0 0) .lf))))) (.nd (.nd (tl (tr (.nd .lf (.row [(.nat .i64 1)] 1 3
  false 0 0 0) .lf))) (.row [(.sl k5 0 0 2 2),(.sl k6 0 0 1 1)] 2 34 false 0 0 0) (tn (tr (.nd .lf (.row [(.sl k99 0 0 1 1),(.nat .i64 1),(.nat .i64
  1),(.sl k108 0 0 1 1),(.nat .i64 2),(.nat .i64 0),(.sl k111 0 0 1 1),(.nat .i64 3),(.nat .i64 0),(.sl k5 0 0 2 2),(.nat .i64 3),(.nat .i64 2)] 12
  143 true 0 0 0) .lf)) (tl (.nd .lf (.row [(.so k93 3 0 3 0),(.so k95 3 0 3 0),(.so k97 3 0 3 0),(.ref 0 k90)] 4 94 false 0 0 0) .lf)))) (.row [(.nat
  .i64 3)] 1 3 false 0 0 0) (tn (tr (tl (tl (.nd .lf (.row [(.sl k146 0 0 1 1),(.nat .i64 3),(.nat .i64 0),(.sl k152 0 0 1 1),(.nat .i64 1),(.nat .i64
  1),(.sl k159 0 0 1 1),(.nat .i64 2),(.nat .i64 0),(.sl k5 0 0 2 2),(.nat .i64 3),(.nat .i64 2)] 12 143 true 0 0 0) .lf)))) (tn (tr (.nd .lf (.row
  [(.nat .i64 3)] 1 3 false 0 0 0) .lf)) (tl (.nd .lf (.row [(.bool true),(.bool true),(.bool true)] 3 4 true 0 0 0) .lf))))))), k380⟩
def a0_181 : S := ⟨(tn (tn (tn (.nd .lf (.row [(.nat .i64 1),(.nat .i64 2)] 2 3 false 0 0 0) .lf) (.nd .lf (.row [(.sl k7 0 0 1 1),(.sl k8 0 0 2 2)] 2
  34 false 0 0 0) (tl (tr (.nd .lf (.row [(.nat .i64 2)] 1 3 false 0 0 0) .lf))))) (.nd (.nd .lf (.row [(.nat .i64 1),(.nat .i64 1)] 2 3 false 0 0 0)
  .lf) (.row [(.nat .i64 3)] 1 3 false 0 0 0) .lf)) (tn (.nd (.nd (tl (tl (tl (.nd .lf (.row [(.sl k122 0 0 1 1),(.nat .i64 1),(.nat .i64 1),(.sl k134
  0 0 1 1),(.nat .i64 3),(.nat .i64 0),(.sl k5 0 0 2 2),(.nat .i64 3),(.nat .i64 2)] 9 143 true 0 0 0) .lf)))) (.row [(.nat .i64 1)] 1 3 false 0 0 0)
  .lf) (.row [(.nat .i64 1),(.nat .i64 2)] 2 3 false 0 0 0) (.nd .lf (.row [(.sl k9 0 0 1 1),(.sl k10 0 0 2 2)] 2 34 false 0 0 0) (tr (tl (.nd .lf
  (.row [(.so k107 12 0 4 0),(.so k129 9 0 3 0),(.so k151 12 0 4 0)] 3 141 true 3 0 0) .lf))))) (.nd (.nd (tl (tr (.nd .lf (.row [(.nat .i64 1)] 1 3
  false 0 0 0) .lf))) (.row [(.sl k5 0 0 2 2),(.sl k6 0 0 1 1)] 2 34 false 0 0 0) (tn (tr (.nd .lf (.row [(.sl k99 0 0 1 1),(.nat .i64 1),(.nat .i64
  1),(.sl k108 0 0 1 1),(.nat .i64 2),(.nat .i64 0),(.sl k111 0 0 1 1),(.nat .i64 3),(.nat .i64 0),(.sl k5 0 0 2 2),(.nat .i64 3),(.nat .i64 2)] 12
  143 true 0 0 0) .lf)) (tl (.nd .lf (.row [(.so k93 3 0 3 0),(.so k95 3 0 3 0),(.so k97 3 0 3 0),(.ref 0 k90)] 4 94 false 0 0 0) .lf)))) (.row [(.nat
  .i64 3)] 1 3 false 0 0 0) (tn (tr (tl (tl (.nd .lf (.row [(.sl k146 0 0 1 1),(.nat .i64 2),(.nat .i64 0),(.sl k152 0 0 1 1),(.nat .i64 3),(.nat .i64
  0),(.sl k157 0 0 1 1),(.nat .i64 1),(.nat .i64 1),(.sl k5 0 0 2 2),(.nat .i64 3),(.nat .i64 2)] 12 143 true 0 0 0) .lf)))) (tn (tr (.nd .lf (.row
  [(.nat .i64 3)] 1 3 false 0 0 0) .lf)) (tl (.nd .lf (.row [(.bool true),(.bool true),(.bool true)] 3 4 true 0 0 0) .lf))))))), k381⟩
def a0_182 : S := ⟨(tn (tn (tn (.nd .lf (.row [(.nat .i64 1),(.nat .i64 2)] 2 3 false 0 0 0) .lf) (.nd .lf (.row [(.sl k7 0 0 1 1),(.sl k8 0 0 2 2)] 2
  34 false 0 0 0) (tl (tr (.nd .lf (.row [(.nat .i64 2)] 1 3 false 0 0 0) .lf))))) (.nd (.nd .lf (.row [(.nat .i64 1),(.nat .i64 1)] 2 3 false 0 0 0)
  .lf) (.row [(.nat .i64 3)] 1 3 false 0 0 0) .lf)) (tn (.nd (.nd (tl (tl (tl (.nd .lf (.row [(.sl k122 0 0 1 1),(.nat .i64 1),(.nat .i64 1),(.sl k134
  0 0 1 1),(.nat .i64 3),(.nat .i64 0),(.sl k5 0 0 2 2),(.nat .i64 3),(.nat .i64 2)] 9 143 true 0 0 0) .lf)))) (.row [(.nat .i64 1)] 1 3 false 0 0 0)
  .lf) (.row [(.nat .i64 1),(.nat .i64 2)] 2 3 false 0 0 0) (.nd .lf (.row [(.sl k9 0 0 1 1),(.sl k10 0 0 2 2)] 2 34 false 0 0 0) (tr (tl (.nd .lf
  (.row [(.so k107 12 0 4 0),(.so k129 9 0 3 0),(.so k151 12 0 4 0)] 3 141 true 3 0 0) .lf))))) (.nd (.nd (tl (tr (.nd .lf (.row [(.nat .i64 1)] 1 3
  false 0 0 0) .lf))) (.row [(.sl k5 0 0 2 2),(.sl k6 0 0 1 1)] 2 34 false 0 0 0) (tn (tr (.nd .lf (.row [(.sl k99 0 0 1 1),(.nat .i64 1),(.nat .i64
  1),(.sl k108 0 0 1 1),(.nat .i64 2),(.nat .i64 0),(.sl k111 0 0 1 1),(.nat .i64 3),(.nat .i64 0),(.sl k5 0 0 2 2),(.nat .i64 3),(.nat .i64 2)] 12
  143 true 0 0 0) .lf)) (tl (.nd .lf (.row [(.so k93 3 0 3 0),(.so k95 3 0 3 0),(.so k97 3 0 3 0),(.ref 0 k90)] 4 94 false 0 0 0) .lf)))) (.row [(.nat
  .i64 3)] 1 3 false 0 0 0) (tn (tr (tl (tl (.nd .lf (.row [(.sl k146 0 0 1 1),(.nat .i64 2),(.nat .i64 0),(.sl k152 0 0 1 1),(.nat .i64 1),(.nat .i64
  1),(.sl k159 0 0 1 1),(.nat .i64 3),(.nat .i64 0),(.sl k5 0 0 2 2),(.nat .i64 3),(.nat .i64 2)] 12 143 true 0 0 0) .lf)))) (tn (tr (.nd .lf (.row
  [(.nat .i64 3)] 1 3 false 0 0 0) .lf)) (tl (.nd .lf (.row [(.bool true),(.bool true),(.bool true)] 3 4 true 0 0 0) .lf))))))), k382⟩
def a0_183 : S := ⟨(tn (tn (tn (.nd .lf (.row [(.nat .i64 1),(.nat .i64 2)] 2 3 false 0 0 0) .lf) (.nd .lf (.row [(.sl k7 0 0 1 1),(.sl k8 0 0 2 2)] 2
  34 false 0 0 0) (tl (tr (.nd .lf (.row [(.nat .i64 2)] 1 3 false 0 0 0) .lf))))) (.nd (.nd .lf (.row [(.nat .i64 1),(.nat .i64 1)] 2 3 false 0 0 0)
  .lf) (.row [(.nat .i64 3)] 1 3 false 0 0 0) .lf)) (tn (.nd (.nd (tl (tl (tl (.nd .lf (.row [(.sl k122 0 0 1 1),(.nat .i64 1),(.nat .i64 1),(.sl k134
  0 0 1 1),(.nat .i64 3),(.nat .i64 0),(.sl k5 0 0 2 2),(.nat .i64 3),(.nat .i64 2)] 9 143 true 0 0 0) .lf)))) (.row [(.nat .i64 1)] 1 3 false 0 0 0)
  (tr (tl (tl (.nd .lf (.row [(.sl k146 0 0 1 1),(.nat .i64 1),(.nat .i64 1),(.sl k154 0 0 1 1),(.nat .i64 3),(.nat .i64 0),(.sl k159 0 0 1 1),(.nat
  .i64 2),(.nat .i64 0),(.sl k5 0 0 2 2),(.nat .i64 3),(.nat .i64 2)] 12 143 true 0 0 0) .lf))))) (.row [(.nat .i64 1),(.nat .i64 2)] 2 3 false 0 0 0)
  (.nd .lf (.row [(.sl k9 0 0 1 1),(.sl k10 0 0 2 2)] 2 34 false 0 0 0) (tr (tl (.nd .lf (.row [(.so k107 12 0 4 0),(.so k129 9 0 3 0),(.so k153 12 0
  4 0)] 3 141 true 3 0 0) .lf))))) (.nd (.nd (tl (tr (.nd .lf (.row [(.nat .i64 1)] 1 3 false 0 0 0) .lf))) (.row [(.sl k5 0 0 2 2),(.sl k6 0 0 1 1)]
  2 34 false 0 0 0) (tn (tr (.nd .lf (.row [(.sl k99 0 0 1 1),(.nat .i64 1),(.nat .i64 1),(.sl k108 0 0 1 1),(.nat .i64 2),(.nat .i64 0),(.sl k111 0 0
  1 1),(.nat .i64 3),(.nat .i64 0),(.sl k5 0 0 2 2),(.nat .i64 3),(.nat .i64 2)] 12 143 true 0 0 0) .lf)) (tl (.nd .lf (.row [(.so k93 3 0 3 0),(.so
  k95 3 0 3 0),(.so k97 3 0 3 0),(.ref 0 k90)] 4 94 false 0 0 0) .lf)))) (.row [(.nat .i64 3)] 1 3 false 0 0 0) (tr (tn (tr (.nd .lf (.row [(.nat .i64
  3)] 1 3 false 0 0 0) .lf)) (tl (.nd .lf (.row [(.bool true),(.bool true),(.bool true)] 3 4 true 0 0 0) .lf))))))), k383⟩
def a0_184 : S := ⟨(tn (tn (tn (.nd .lf (.row [(.nat .i64 1),(.nat .i64 2)] 2 3 false 0 0 0) .lf) (.nd .lf (.row [(.sl k7 0 0 1 1),(.sl k8 0 0 2 2)] 2
  34 false 0 0 0) (tl (tr (.nd .lf (.row [(.nat .i64 2)] 1 3 false 0 0 0) .lf))))) (.nd (.nd .lf (.row [(.nat .i64 1),(.nat .i64 1)] 2 3 false 0 0 0)
  .lf) (.row [(.nat .i64 3)] 1 3 false 0 0 0) .lf)) (tn (.nd (.nd (tl (tl (tl (.nd .lf (.row [(.sl k122 0 0 1 1),(.nat .i64 1),(.nat .i64 1),(.sl k134
  0 0 1 1),(.nat .i64 3),(.nat .i64 0),(.sl k5 0 0 2 2),(.nat .i64 3),(.nat .i64 2)] 9 143 true 0 0 0) .lf)))) (.row [(.nat .i64 1)] 1 3 false 0 0 0)
  (tr (tl (tl (.nd .lf (.row [(.sl k146 0 0 1 1),(.nat .i64 1),(.nat .i64 1),(.sl k154 0 0 1 1),(.nat .i64 2),(.nat .i64 0),(.sl k159 0 0 1 1),(.nat
  .i64 3),(.nat .i64 0),(.sl k5 0 0 2 2),(.nat .i64 3),(.nat .i64 2)] 12 143 true 0 0 0) .lf))))) (.row [(.nat .i64 1),(.nat .i64 2)] 2 3 false 0 0 0)
  (.nd .lf (.row [(.sl k9 0 0 1 1),(.sl k10 0 0 2 2)] 2 34 false 0 0 0) (tr (tl (.nd .lf (.row [(.so k107 12 0 4 0),(.so k129 9 0 3 0),(.so k153 12 0
  4 0)] 3 141 true 3 0 0) .lf))))) (.nd (.nd (tl (tr (.nd .lf (.row [(.nat .i64 1)] 1 3 false 0 0 0) .lf))) (.row [(.sl k5 0 0 2 2),(.sl k6 0 0 1 1)]
  2 34 false 0 0 0) (tn (tr (.nd .lf (.row [(.sl k99 0 0 1 1),(.nat .i64 1),(.nat .i64 1),(.sl k108 0 0 1 1),(.nat .i64 2),(.nat .i64 0),(.sl k111 0 0
  1 1),(.nat .i64 3),(.nat .i64 0),(.sl k5 0 0 2 2),(.nat .i64 3),(.nat .i64 2)] 12 143 true 0 0 0) .lf)) (tl (.nd .lf (.row [(.so k93 3 0 3 0),(.so
  k95 3 0 3 0),(.so k97 3 0 3 0),(.ref 0 k90)] 4 94 false 0 0 0) .lf)))) (.row [(.nat .i64 3)] 1 3 false 0 0 0) (tr (tn (tr (.nd .lf (.row [(.nat .i64
  3)] 1 3 false 0 0 0) .lf)) (tl (.nd .lf (.row [(.bool true),(.bool true),(.bool true)] 3 4 true 0 0 0) .lf))))))), k384⟩
def a0_185 : S := ⟨(tn (tn (tn (.nd .lf (.row [(.nat .i64 1),(.nat .i64 2)] 2 3 false 0 0 0) .lf) (.nd .lf (.row [(.sl k7 0 0 1 1),(.sl k8 0 0 2 2)] 2
  34 false 0 0 0) (tl (tr (.nd .lf (.row [(.nat .i64 2)] 1 3 false 0 0 0) .lf))))) (.nd (.nd .lf (.row [(.nat .i64 1),(.nat .i64 1)] 2 3 false 0 0 0)
  .lf) (.row [(.nat .i64 3)] 1 3 false 0 0 0) .lf)) (tn (.nd (.nd (tl (tl (tl (.nd .lf (.row [(.sl k122 0 0 1 1),(.nat .i64 1),(.nat .i64 1),(.sl k134
  0 0 1 1),(.nat .i64 3),(.nat .i64 0),(.sl k5 0 0 2 2),(.nat .i64 3),(.nat .i64 2)] 9 143 true 0 0 0) .lf)))) (.row [(.nat .i64 1)] 1 3 false 0 0 0)
  .lf) (.row [(.nat .i64 1),(.nat .i64 2)] 2 3 false 0 0 0) (.nd .lf (.row [(.sl k9 0 0 1 1),(.sl k10 0 0 2 2)] 2 34 false 0 0 0) (tr (tl (.nd .lf
  (.row [(.so k107 12 0 4 0),(.so k129 9 0 3 0),(.so k151 12 0 4 0)] 3 141 true 3 0 0) .lf))))) (.nd (.nd (tl (tr (.nd .lf (.row [(.nat .i64 1)] 1 3
  false 0 0 0) .lf))) (.row [(.sl k5 0 0 2 2),(.sl k6 0 0 1 1)] 2 34 false 0 0 0) (tn (tr (.nd .lf (.row [(.sl k99 0 0 1 1),(.nat .i64 1),(.nat .i64
  1),(.sl k108 0 0 1 1),(.nat .i64 2),(.nat .i64 0),(.sl k111 0 0 1 1),(.nat .i64 3),(.nat .i64 0),(.sl k5 0 0 2 2),(.nat .i64 3),(.nat .i64 2)] 12
  143 true 0 0 0) .lf)) (tl (.nd .lf (.row [(.so k93 3 0 3 0),(.so k95 3 0 3 0),(.so k97 3 0 3 0),(.ref 0 k90)] 4 94 false 0 0 0) .lf)))) (.row [(.nat
  .i64 3)] 1 3 false 0 0 0) (tn (tr (tl (tl (.nd .lf (.row [(.sl k146 0 0 1 1),(.nat .i64 3),(.nat .i64 0),(.sl k152 0 0 1 1),(.nat .i64 2),(.nat .i64
  0),(.sl k157 0 0 1 1),(.nat .i64 1),(.nat .i64 1),(.sl k5 0 0 2 2),(.nat .i64 3),(.nat .i64 2)] 12 143 true 0 0 0) .lf)))) (tn (tr (.nd .lf (.row
  [(.nat .i64 3)] 1 3 false 0 0 0) .lf)) (tl (.nd .lf (.row [(.bool true),(.bool true),(.bool true)] 3 4 true 0 0 0) .lf))))))), k385⟩
def a0_186 : S := ⟨(tn (tn (tn (.nd .lf (.row [(.nat .i64 1),(.nat .i64 2)] 2 3 false 0 0 0) .lf) (.nd .lf (.row [(.sl k7 0 0 1 1),(.sl k8 0 0 2 2)] 2
  34 false 0 0 0) (tl (tr (.nd .lf (.row [(.nat .i64 2)] 1 3 false 0 0 0) .lf))))) (.nd (.nd .lf (.row [(.nat .i64 1),(.nat .i64 1)] 2 3 false 0 0 0)
  .lf) (.row [(.nat .i64 3)] 1 3 false 0 0 0) .lf)) (tn (.nd (.nd (tl (tl (tl (.nd .lf (.row [(.sl k122 0 0 1 1),(.nat .i64 1),(.nat .i64 1),(.sl k130
  0 0 1 1),(.nat .i64 3),(.nat .i64 0),(.sl k5 0 0 2 2),(.nat .i64 3),(.nat .i64 2)] 9 143 true 0 0 0) .lf)))) (.row [(.nat .i64 1)] 1 3 false 0 0 0)
  .lf) (.row [(.nat .i64 1),(.nat .i64 2)] 2 3 false 0 0 0) (.nd .lf (.row [(.sl k9 0 0 1 1),(.sl k10 0 0 2 2)] 2 34 false 0 0 0) (tr (tl (.nd .lf
  (.row [(.so k107 12 0 4 0),(.so k129 9 0 3 0),(.so k151 12 0 4 0)] 3 141 true 3 0 0) .lf))))) (.nd (.nd (tl (tr (.nd .lf (.row [(.nat .i64 1)] 1 3
  false 0 0 0) .lf))) (.row [(.sl k5 0 0 2 2),(.sl k6 0 0 1 1)] 2 34 false 0 0 0) (tn (tr (.nd .lf (.row [(.sl k99 0 0 1 1),(.nat .i64 1),(.nat .i64
  1),(.sl k108 0 0 1 1),(.nat .i64 2),(.nat .i64 0),(.sl k111 0 0 1 1),(.nat .i64 3),(.nat .i64 0),(.sl k5 0 0 2 2),(.nat .i64 3),(.nat .i64 2)] 12
  143 true 0 0 0) .lf)) (tl (.nd .lf (.row [(.so k93 3 0 3 0),(.so k95 3 0 3 0),(.so k97 3 0 3 0),(.ref 0 k90)] 4 94 false 0 0 0) .lf)))) (.row [(.nat
  .i64 3)] 1 3 false 0 0 0) (tn (tr (tl (tl (.nd .lf (.row [(.sl k146 0 0 1 1),(.nat .i64 3),(.nat .i64 0),(.sl k152 0 0 1 1),(.nat .i64 1),(.nat .i64
  1),(.sl k159 0 0 1 1),(.nat .i64 2),(.nat .i64 0),(.sl k5 0 0 2 2),(.nat .i64 3),(.nat .i64 2)] 12 143 true 0 0 0) .lf)))) (tn (tr (.nd .lf (.row
  [(.nat .i64 3)] 1 3 false 0 0 0) .lf)) (tl (.nd .lf (.row [(.bool true),(.bool true),(.bool true)] 3 4 true 0 0 0) .lf))))))), k386⟩
def a0_187 : S := ⟨(tn (tn (tn (.nd .lf (.row [(.nat .i64 1),(.nat .i64 2)] 2 3 false 0 0 0) .lf) (.nd .lf (.row [(.sl k7 0 0 1 1),(.sl k8 0 0 2 2)] 2
  34 false 0 0 0) (tl (tr (.nd .lf (.row [(.nat .i64 2)] 1 3 false 0 0 0) .lf))))) (.nd (.nd .lf (.row [(.nat .i64 1),(.nat .i64 1)] 2 3 false 0 0 0)
  .lf) (.row [(.nat .i64 3)] 1 3 false 0 0 0) .lf)) (tn (.nd (.nd (tl (tl (tl (.nd .lf (.row [(.sl k122 0 0 1 1),(.nat .i64 1),(.nat .i64 1),(.sl k130
  0 0 1 1),(.nat .i64 3),(.nat .i64 0),(.sl k5 0 0 2 2),(.nat .i64 3),(.nat .i64 2)] 9 143 true 0 0 0) .lf)))) (.row [(.nat .i64 1)] 1 3 false 0 0 0)
  .lf) (.row [(.nat .i64 1),(.nat .i64 2)] 2 3 false 0 0 0) (.nd .lf (.row [(.sl k9 0 0 1 1),(.sl k10 0 0 2 2)] 2 34 false 0 0 0) (tr (tl (.nd .lf
  (.row [(.so k107 12 0 4 0),(.so k129 9 0 3 0),(.so k151 12 0 4 0)] 3 141 true 3 0 0) .lf))))) (.nd (.nd (tl (tr (.nd .lf (.row [(.nat .i64 1)] 1 3
  false 0 0 0) .lf))) (.row [(.sl k5 0 0 2 2),(.sl k6 0 0 1 1)] 2 34 false 0 0 0) (tn (tr (.nd .lf (.row [(.sl k99 0 0 1 1),(.nat .i64 1),(.nat .i64
  1),(.sl k108 0 0 1 1),(.nat .i64 2),(.nat .i64 0),(.sl k111 0 0 1 1),(.nat .i64 3),(.nat .i64 0),(.sl k5 0 0 2 2),(.nat .i64 3),(.nat .i64 2)] 12
  143 true 0 0 0) .lf)) (tl (.nd .lf (.row [(.so k93 3 0 3 0),(.so k95 3 0 3 0),(.so k97 3 0 3 0),(.ref 0 k90)] 4 94 false 0 0 0) .lf)))) (.row [(.nat
  .i64 3)] 1 3 false 0 0 0) (tn (tr (tl (tl (.nd .lf (.row [(.sl k146 0 0 1 1),(.nat .i64 2),(.nat .i64 0),(.sl k152 0 0 1 1),(.nat .i64 3),(.nat .i64
  0),(.sl k157 0 0 1 1),(.nat .i64 1),(.nat .i64 1),(.sl k5 0 0 2 2),(.nat .i64 3),(.nat .i64 2)] 12 143 true 0 0 0) .lf)))) (tn (tr (.nd .lf (.row
  [(.nat .i64 3)] 1 3 false 0 0 0) .lf)) (tl (.nd .lf (.row [(.bool true),(.bool true),(.bool true)] 3 4 true 0 0 0) .lf))))))), k387⟩
def a0_188 : S := ⟨(tn (tn (tn (.nd .lf (.row [(.nat .i64 1),(.nat .i64 2)] 2 3 false 0 0 0) .lf) (.nd .lf (.row [(.sl k7 0 0 1 1),(.sl k8 0 0 2 2)] 2
  34 false 0 0 0) (tl (tr (.nd .lf (.row [(.nat .i64 2)] 1 3 false 0 0 0) .lf))))) (.nd (.nd .lf (.row [(.nat .i64 1),(.nat .i64 1)] 2 3 false 0 0 0)
  .lf) (.row [(.nat .i64 3)] 1 3 false 0 0 0) .lf)) (tn (.nd (.nd (tl (tl (tl (.nd .lf (.row [(.sl k122 0 0 1 1),(.nat .i64 1),(.nat .i64 1),(.sl k130
  0 0 1 1),(.nat .i64 3),(.nat .i64 0),(.sl k5 0 0 2 2),(.nat .i64 3),(.nat .i64 2)] 9 143 true 0 0 0) .lf)))) (.row [(.nat .i64 1)] 1 3 false 0 0 0)
  .lf) (.row [(.nat .i64 1),(.nat .i64 2)] 2 3 false 0 0 0) (.nd .lf (.row [(.sl k9 0 0 1 1),(.sl k10 0 0 2 2)] 2 34 false 0 0 0) (tr (tl (.nd .lf
  (.row [(.so k107 12 0 4 0),(.so k129 9 0 3 0),(.so k151 12 0 4 0)] 3 141 true 3 0 0) .lf))))) (.nd (.nd (tl (tr (.nd .lf (.row [(.nat .i64 1)] 1 3
  false 0 0 0) .lf))) (.row [(.sl k5 0 0 2 2),(.sl k6 0 0 1 1)] 2 34 false 0 0 0) (tn (tr (.nd .lf (.row [(.sl k99 0 0 1 1),(.nat .i64 1),(.nat .i64
  1),(.sl k108 0 0 1 1),(.nat .i64 2),(.nat .i64 0),(.sl k111 0 0 1 1),(.nat .i64 3),(.nat .i64 0),(.sl k5 0 0 2 2),(.nat .i64 3),(.nat .i64 2)] 12
  143 true 0 0 0) .lf)) (tl (.nd .lf (.row [(.so k93 3 0 3 0),(.so k95 3 0 3 0),(.so k97 3 0 3 0),(.ref 0 k90)] 4 94 false 0 0 0) .lf)))) (.row [(.nat
  .i64 3)] 1 3 false 0 0 0) (tn (tr (tl (tl (.nd .lf (.row [(.sl k146 0 0 1 1),(.nat .i64 2),(.nat .i64 0),(.sl k152 0 0 1 1),(.nat .i64 1),(.nat .i64
  1),(.sl k159 0 0 1 1),(.nat .i64 3),(.nat .i64 0),(.sl k5 0 0 2 2),(.nat .i64 3),(.nat .i64 2)] 12 143 true 0 0 0) .lf)))) (tn (tr (.nd .lf (.row
  [(.nat .i64 3)] 1 3 false 0 0 0) .lf)) (tl (.nd .lf (.row [(.bool true),(.bool true),(.bool true)] 3 4 true 0 0 0) .lf))))))), k388⟩
def a0_189 : S := ⟨(tn (tn (tn (.nd .lf (.row [(.nat .i64 1),(.nat .i64 2)] 2 3 false 0 0 0) .lf) (.nd .lf (.row [(.sl k7 0 0 1 1),(.sl k8 0 0 2 2)] 2
  34 false 0 0 0) (tl (tr (.nd .lf (.row [(.nat .i64 2)] 1 3 false 0 0 0) .lf))))) (.nd (.nd .lf (.row [(.nat .i64 1),(.nat .i64 1)] 2 3 false 0 0 0)
  .lf) (.row [(.nat .i64 3)] 1 3 false 0 0 0) .lf)) (tn (.nd (.nd (tl (tl (tl (.nd .lf (.row [(.sl k122 0 0 1 1),(.nat .i64 1),(.nat .i64 1),(.sl k130
  0 0 1 1),(.nat .i64 3),(.nat .i64 0),(.sl k5 0 0 2 2),(.nat .i64 3),(.nat .i64 2)] 9 143 true 0 0 0) .lf)))) (.row [(.nat .i64 1)] 1 3 false 0 0 0)
  (tr (tl (tl (.nd .lf (.row [(.sl k146 0 0 1 1),(.nat .i64 1),(.nat .i64 1),(.sl k154 0 0 1 1),(.nat .i64 3),(.nat .i64 0),(.sl k159 0 0 1 1),(.nat
  .i64 2),(.nat .i64 0),(.sl k5 0 0 2 2),(.nat .i64 3),(.nat .i64 2)] 12 143 true 0 0 0) .lf))))) (.row [(.nat .i64 1),(.nat .i64 2)] 2 3 false 0 0 0)
  (.nd .lf (.row [(.sl k9 0 0 1 1),(.sl k10 0 0 2 2)] 2 34 false 0 0 0) (tr (tl (.nd .lf (.row [(.so k107 12 0 4 0),(.so k129 9 0 3 0),(.so k153 12 0
  4 0)] 3 141 true 3 0 0) .lf))))) (.nd (.nd (tl (tr (.nd .lf (.row [(.nat .i64 1)] 1 3 false 0 0 0) .lf))) (.row [(.sl k5 0 0 2 2),(.sl k6 0 0 1 1)]
  2 34 false 0 0 0) (tn (tr (.nd .lf (.row [(.sl k99 0 0 1 1),(.nat .i64 1),(.nat .i64 1),(.sl k108 0 0 1 1),(.nat .i64 2),(.nat .i64 0),(.sl k111 0 0
  1 1),(.nat .i64 3),(.nat .i64 0),(.sl k5 0 0 2 2),(.nat .i64 3),(.nat .i64 2)] 12 143 true 0 0 0) .lf)) (tl (.nd .lf (.row [(.so k93 3 0 3 0),(.so
  k95 3 0 3 0),(.so k97 3 0 3 0),(.ref 0 k90)] 4 94 false 0 0 0) .lf)))) (.row [(.nat .i64 3)] 1 3 false 0 0 0) (tr (tn (tr (.nd .lf (.row [(.nat .i64
  3)] 1 3 false 0 0 0) .lf)) (tl (.nd .lf (.row [(.bool true),(.bool true),(.bool true)] 3 4 true 0 0 0) .lf))))))), k389⟩
def a0_190 : S := ⟨(tn (tn (tn (.nd .lf (.row [(.nat .i64 1),(.nat .i64 2)] 2 3 false 0 0 0) .lf) (.nd .lf (.row [(.sl k7 0 0 1 1),(.sl k8 0 0 2 2)] 2
  34 false 0 0 0) (tl (tr (.nd .lf (.row [(.nat .i64 2)] 1 3 false 0 0 0) .lf))))) (.nd (.nd .lf (.row [(.nat .i64 1),(.nat .i64 1)] 2 3 false 0 0 0)
  .lf) (.row [(.nat .i64 3)] 1 3 false 0 0 0) .lf)) (tn (.nd (.nd (tl (tl (tl (.nd .lf (.row [(.sl k122 0 0 1 1),(.nat .i64 1),(.nat .i64 1),(.sl k130
  0 0 1 1),(.nat .i64 3),(.nat .i64 0),(.sl k5 0 0 2 2),(.nat .i64 3),(.nat .i64 2)] 9 143 true 0 0 0) .lf)))) (.row [(.nat .i64 1)] 1 3 false 0 0 0)
  (tr (tl (tl (.nd .lf (.row [(.sl k146 0 0 1 1),(.nat .i64 1),(.nat .i64 1),(.sl k154 0 0 1 1),(.nat .i64 2),(.nat .i64 0),(.sl k159 0 0 1 1),(.nat
  .i64 3),(.nat .i64 0),(.sl k5 0 0 2 2),(.nat .i64 3),(.nat .i64 2)] 12 143 true 0 0 0) .lf))))) (.row [(.nat .i64 1),(.nat .i64 2)] 2 3 false 0 0 0)
  (.nd .lf (.row [(.sl k9 0 0 1 1),(.sl k10 0 0 2 2)] 2 34 false 0 0 0) (tr (tl (.nd .lf (.row [(.so k107 12 0 4 0),(.so k129 9 0 3 0),(.so k153 12 0
  4 0)] 3 141 true 3 0 0) .lf))))) (.nd (.nd (tl (tr (.nd .lf (.row [(.nat .i64 1)] 1 3 false 0 0 0) .lf))) (.row [(.sl k5 0 0 2 2),(.sl k6 0 0 1 1)]
  2 34 false 0 0 0) (tn (tr (.nd .lf (.row [(.sl k99 0 0 1 1),(.nat .i64 1),(.nat .i64 1),(.sl k108 0 0 1 1),(.nat .i64 2),(.nat .i64 0),(.sl k111 0 0
  1 1),(.nat .i64 3),(.nat .i64 0),(.sl k5 0 0 2 2),(.nat .i64 3),(.nat .i64 2)] 12 143 true 0 0 0) .lf)) (tl (.nd .lf (.row [(.so k93 3 0 3 0),(.so
  k95 3 0 3 0),(.so k97 3 0 3 0),(.ref 0 k90)] 4 94 false 0 0 0) .lf)))) (.row [(.nat .i64 3)] 1 3 false 0 0 0) (tr (tn (tr (.nd .lf (.row [(.nat .i64
  3)] 1 3 false 0 0 0) .lf)) (tl (.nd .lf (.row [(.bool true),(.bool true),(.bool true)] 3 4 true 0 0 0) .lf))))))), k390⟩
def a0_191 : S := ⟨(tn (tn (tn (.nd .lf (.row [(.nat .i64 1),(.nat .i64 2)] 2 3 false 0 0 0) .lf) (.nd .lf (.row [(.sl k7 0 0 1 1),(.sl k8 0 0 2 2)] 2
  34 false 0 0 0) (tl (tr (.nd .lf (.row [(.nat .i64 2)] 1 3 false 0 0 0) .lf))))) (.nd (.nd .lf (.row [(.nat .i64 1),(.nat .i64 1)] 2 3 false 0 0 0)
  .lf) (.row [(.nat .i64 3)] 1 3 false 0 0 0) .lf)) (tn (.nd (.nd (tl (tl (tl (.nd .lf (.row [(.sl k122 0 0 1 1),(.nat .i64 1),(.nat .i64 1),(.sl k130
  0 0 1 1),(.nat .i64 3),(.nat .i64 0),(.sl k5 0 0 2 2),(.nat .i64 3),(.nat .i64 2)] 9 143 true 0 0 0) .lf)))) (.row [(.nat .i64 1)] 1 3 false 0 0 0)
  .lf) (.row [(.nat .i64 1),(.nat .i64 2)] 2 3 false 0 0 0) (.nd .lf (.row [(.sl k9 0 0 1 1),(.sl k10 0 0 2 2)] 2 34 false 0 0 0) (tr (tl (.nd .lf
  (.row [(.so k107 12 0 4 0),(.so k129 9 0 3 0),(.so k151 12 0 4 0)] 3 141 true 3 0 0) .lf))))) (.nd (.nd (tl (tr (.nd .lf (.row [(.nat .i64 1)] 1 3
  false 0 0 0) .lf))) (.row [(.sl k5 0 0 2 2),(.sl k6 0 0 1 1)] 2 34 false 0 0 0) (tn (tr (.nd .lf (.row [(.sl k99 0 0 1 1),(.nat .i64 1),(.nat .i64
  1),(.sl k108 0 0 1 1),(.nat .i64 2),(.nat .i64 0),(.sl k111 0 0 1 1),(.nat .i64 3),(.nat .i64 0),(.sl k5 0 0 2 2),(.nat .i64 3),(.nat .i64 2)] 12
  143 true 0 0 0) .lf)) (tl (.nd .lf (.row [(.so k93 3 0 3 0),(.so k95 3 0 3 0),(.so k97 3 0 3 0),(.ref 0 k90)] 4 94 false 0 0 0) .lf)))) (.row [(.nat
  .i64 3)] 1 3 false 0 0 0) (tn (tr (tl (tl (.nd .lf (.row [(.sl k146 0 0 1 1),(.nat .i64 3),(.nat .i64 0),(.sl k152 0 0 1 1),(.nat .i64 2),(.nat .i64
  0),(.sl k157 0 0 1 1),(.nat .i64 1),(.nat .i64 1),(.sl k5 0 0 2 2),(.nat .i64 3),(.nat .i64 2)] 12 143 true 0 0 0) .lf)))) (tn (tr (.nd .lf (.row
  [(.nat .i64 3)] 1 3 false 0 0 0) .lf)) (tl (.nd .lf (.row [(.bool true),(.bool true),(.bool true)] 3 4 true 0 0 0) .lf))))))), k391⟩
def a0_192 : S := ⟨(tn (tn (tn (.nd .lf (.row [(.nat .i64 1),(.nat .i64 2)] 2 3 false 0 0 0) .lf) (.nd .lf (.row [(.sl k7 0 0 1 1),(.sl k8 0 0 2 2)] 2
  34 false 0 0 0) (tl (tr (.nd .lf (.row [(.nat .i64 2)] 1 3 false 0 0 0) .lf))))) (.nd (.nd .lf (.row [(.nat .i64 1),(.nat .i64 1)] 2 3 false 0 0 0)
  .lf) (.row [(.nat .i64 3)] 1 3 false 0 0 0) .lf)) (tn (.nd (.nd .lf (.row [(.nat .i64 1)] 1 3 false 0 0 0) .lf) (.row [(.nat .i64 1),(.nat .i64 2)]
  2 3 false 0 0 0) (.nd (tl (tl (tl (.nd .lf (.row [(.sl k126 0 0 1 1),(.nat .i64 1),(.nat .i64 1),(.sl k134 0 0 1 1),(.nat .i64 3),(.nat .i64 0),(.sl
  k5 0 0 2 2),(.nat .i64 3),(.nat .i64 2)] 9 143 true 0 0 0) .lf)))) (.row [(.sl k9 0 0 1 1),(.sl k10 0 0 2 2)] 2 34 false 0 0 0) (tr (tl (.nd .lf
  (.row [(.so k107 12 0 4 0),(.so k133 9 0 3 0),(.so k151 12 0 4 0)] 3 141 true 3 0 0) .lf))))) (.nd (.nd (tl (tr (.nd .lf (.row [(.nat .i64 1)] 1 3
  false 0 0 0) .lf))) (.row [(.sl k5 0 0 2 2),(.sl k6 0 0 1 1)] 2 34 false 0 0 0) (tn (tr (.nd .lf (.row [(.sl k99 0 0 1 1),(.nat .i64 1),(.nat .i64
  1),(.sl k108 0 0 1 1),(.nat .i64 2),(.nat .i64 0),(.sl k111 0 0 1 1),(.nat .i64 3),(.nat .i64 0),(.sl k5 0 0 2 2),(.nat .i64 3),(.nat .i64 2)] 12
  143 true 0 0 0) .lf)) (tl (.nd .lf (.row [(.so k93 3 0 3 0),(.so k95 3 0 3 0),(.so k97 3 0 3 0),(.ref 0 k90)] 4 94 false 0 0 0) .lf)))) (.row [(.nat
  .i64 3)] 1 3 false 0 0 0) (tn (tr (tl (tl (.nd .lf (.row [(.sl k146 0 0 1 1),(.nat .i64 3),(.nat .i64 0),(.sl k152 0 0 1 1),(.nat .i64 1),(.nat .i64
  1),(.sl k159 0 0 1 1),(.nat .i64 2),(.nat .i64 0),(.sl k5 0 0 2 2),(.nat .i64 3),(.nat .i64 2)] 12 143 true 0 0 0) .lf)))) (tn (tr (.nd .lf (.row
  [(.nat .i64 3)] 1 3 false 0 0 0) .lf)) (tl (.nd .lf (.row [(.bool true),(.bool true),(.bool true)] 3 4 true 0 0 0) .lf))))))), k392⟩
def a0_193 : S := ⟨(tn (tn (tn (.nd .lf (.row [(.nat .i64 1),(.nat .i64 2)] 2 3 false 0 0 0) .lf) (.nd .lf (.row [(.sl k7 0 0 1 1),(.sl k8 0 0 2 2)] 2
  34 false 0 0 0) (tl (tr (.nd .lf (.row [(.nat .i64 2)] 1 3 false 0 0 0) .lf))))) (.nd (.nd .lf (.row [(.nat .i64 1),(.nat .i64 1)] 2 3 false 0 0 0)
  .lf) (.row [(.nat .i64 3)] 1 3 false 0 0 0) .lf)) (tn (.nd (.nd .lf (.row [(.nat .i64 1)] 1 3 false 0 0 0) .lf) (.row [(.nat .i64 1),(.nat .i64 2)]
  2 3 false 0 0 0) (.nd (tl (tl (tl (.nd .lf (.row [(.sl k126 0 0 1 1),(.nat .i64 1),(.nat .i64 1),(.sl k134 0 0 1 1),(.nat .i64 3),(.nat .i64 0),(.sl
  k5 0 0 2 2),(.nat .i64 3),(.nat .i64 2)] 9 143 true 0 0 0) .lf)))) (.row [(.sl k9 0 0 1 1),(.sl k10 0 0 2 2)] 2 34 false 0 0 0) (tr (tl (.nd .lf
  (.row [(.so k107 12 0 4 0),(.so k133 9 0 3 0),(.so k151 12 0 4 0)] 3 141 true 3 0 0) .lf))))) (.nd (.nd (tl (tr (.nd .lf (.row [(.nat .i64 1)] 1 3
  false 0 0 0) .lf))) (.row [(.sl k5 0 0 2 2),(.sl k6 0 0 1 1)] 2 34 false 0 0 0) (tn (tr (.nd .lf (.row [(.sl k99 0 0 1 1),(.nat .i64 1),(.nat .i64
  1),(.sl k108 0 0 1 1),(.nat .i64 2),(.nat .i64 0),(.sl k111 0 0 1 1),(.nat .i64 3),(.nat .i64 0),(.sl k5 0 0 2 2),(.nat .i64 3),(.nat .i64 2)] 12
  143 true 0 0 0) .lf)) (tl (.nd .lf (.row [(.so k93 3 0 3 0),(.so k95 3 0 3 0),(.so k97 3 0 3 0),(.ref 0 k90)] 4 94 false 0 0 0) .lf)))) (.row [(.nat
  .i64 3)] 1 3 false 0 0 0) (tn (tr (tl (tl (.nd .lf (.row [(.sl k146 0 0 1 1),(.nat .i64 2),(.nat .i64 0),(.sl k152 0 0 1 1),(.nat .i64 3),(.nat .i64
  0),(.sl k157 0 0 1 1),(.nat .i64 1),(.nat .i64 1),(.sl k5 0 0 2 2),(.nat .i64 3),(.nat .i64 2)] 12 143 true 0 0 0) .lf)))) (tn (tr (.nd .lf (.row
  [(.nat .i64 3)] 1 3 false 0 0 0) .lf)) (tl (.nd .lf (.row [(.bool true),(.bool true),(.bool true)] 3 4 true 0 0 0) .lf))))))), k393⟩
def a0_194 : S := ⟨(tn (tn (tn (.nd .lf (.row [(.nat .i64 1),(.nat .i64 2)] 2 3 false 0 0 0) .lf) (.nd .lf (.row [(.sl k7 0 0 1 1),(.sl k8 0 0 2 2)] 2
  34 false 0 0 0) (tl (tr (.nd .lf (.row [(.nat .i64 2)] 1 3 false 0 0 0) .lf))))) (.nd (.nd .lf (.row [(.nat .i64 1),(.nat .i64 1)] 2 3 false 0 0 0)
  .lf) (.row [(.nat .i64 3)] 1 3 false 0 0 0) .lf)) (tn (.nd (.nd .lf (.row [(.nat .i64 1)] 1 3 false 0 0 0) .lf) (.row [(.nat .i64 1),(.nat .i64 2)]
  2 3 false 0 0 0) (.nd (tl (tl (tl (.nd .lf (.row [(.sl k126 0 0 1 1),(.nat .i64 1),(.nat .i64 1),(.sl k134 0 0 1 1),(.nat .i64 3),(.nat .i64 0),(.sl
  k5 0 0 2 2),(.nat .i64 3),(.nat .i64 2)] 9 143 true 0 0 0) .lf)))) (.row [(.sl k9 0 0 1 1),(.sl k10 0 0 2 2)] 2 34 false 0 0 0) (tr (tl (.nd .lf
  (.row [(.so k107 12 0 4 0),(.so k133 9 0 3 0),(.so k151 12 0 4 0)] 3 141 true 3 0 0) .lf))))) (.nd (.nd (tl (tr (.nd .lf (.row [(.nat .i64 1)] 1 3
  false 0 0 0) .lf))) (.row [(.sl k5 0 0 2 2),(.sl k6 0 0 1 1)] 2 34 false 0 0 0) (tn (tr (.nd .lf (.row [(.sl k99 0 0 1 1),(.nat .i64 1),(.nat .i64
  1),(.sl k108 0 0 1 1),(.nat .i64 2),(.nat .i64 0),(.sl k111 0 0 1 1),(.nat .i64 3),(.nat .i64 0),(.sl k5 0 0 2 2),(.nat .i64 3),(.nat .i64 2)] 12
  143 true 0 0 0) .lf)) (tl (.nd .lf (.row [(.so k93 3 0 3 0),(.so k95 3 0 3 0),(.so k97 3 0 3 0),(.ref 0 k90)] 4 94 false 0 0 0) .lf)))) (.row [(.nat
  .i64 3)] 1 3 false 0 0 0) (tn (tr (tl (tl (.nd .lf (.row [(.sl k146 0 0 1 1),(.nat .i64 2),(.nat .i64 0),(.sl k152 0 0 1 1),(.nat .i64 1),(.nat .i64
  1),(.sl k159 0 0 1 1),(.nat .i64 3),(.nat .i64 0),(.sl k5 0 0 2 2),(.nat .i64 3),(.nat .i64 2)] 12 143 true 0 0 0) .lf)))) (tn (tr (.nd .lf (.row
  [(.nat .i64 3)] 1 3 false 0 0 0) .lf)) (tl (.nd .lf (.row [(.bool true),(.bool true),(.bool true)] 3 4 true 0 0 0) .lf))))))), k394⟩
def a0_195 : S := ⟨(tn (tn (tn (.nd .lf (.row [(.nat .i64 1),(.nat .i64 2)] 2 3 false 0 0 0) .lf) (.nd .lf (.row [(.sl k7 0 0 1 1),(.sl k8 0 0 2 2)] 2
  34 false 0 0 0) (tl (tr (.nd .lf (.row [(.nat .i64 2)] 1 3 false 0 0 0) .lf))))) (.nd (.nd .lf (.row [(.nat .i64 1),(.nat .i64 1)] 2 3 false 0 0 0)
  .lf) (.row [(.nat .i64 3)] 1 3 false 0 0 0) .lf)) (tn (.nd (.nd .lf (.row [(.nat .i64 1)] 1 3 false 0 0 0) (tr (tl (tl (.nd .lf (.row [(.sl k146 0 0
  1 1),(.nat .i64 1),(.nat .i64 1),(.sl k154 0 0 1 1),(.nat .i64 3),(.nat .i64 0),(.sl k159 0 0 1 1),(.nat .i64 2),(.nat .i64 0),(.sl k5 0 0 2
  2),(.nat .i64 3),(.nat .i64 2)] 12 143 true 0 0 0) .lf))))) (.row [(.nat .i64 1),(.nat .i64 2)] 2 3 false 0 0 0) (.nd (tl (tl (tl (.nd .lf (.row
  [(.sl k126 0 0 1 1),(.nat .i64 1),(.nat .i64 1),(.sl k134 0 0 1 1),(.nat .i64 3),(.nat .i64 0),(.sl k5 0 0 2 2),(.nat .i64 3),(.nat .i64 2)] 9 143
  true 0 0 0) .lf)))) (.row [(.sl k9 0 0 1 1),(.sl k10 0 0 2 2)] 2 34 false 0 0 0) (tr (tl (.nd .lf (.row [(.so k107 12 0 4 0),(.so k133 9 0 3 0),(.so
  k153 12 0 4 0)] 3 141 true 3 0 0) .lf))))) (.nd (.nd (tl (tr (.nd .lf (.row [(.nat .i64 1)] 1 3 false 0 0 0) .lf))) (.row [(.sl k5 0 0 2 2),(.sl k6
  0 0 1 1)] 2 34 false 0 0 0) (tn (tr (.nd .lf (.row [(.sl k99 0 0 1 1),(.nat .i64 1),(.nat .i64 1),(.sl k108 0 0 1 1),(.nat .i64 2),(.nat .i64
  0),(.sl k111 0 0 1 1),(.nat .i64 3),(.nat .i64 0),(.sl k5 0 0 2 2),(.nat .i64 3),(.nat .i64 2)] 12 143 true 0 0 0) .lf)) (tl (.nd .lf (.row [(.so
  k93 3 0 3 0),(.so k95 3 0 3 0),(.so k97 3 0 3 0),(.ref 0 k90)] 4 94 false 0 0 0) .lf)))) (.row [(.nat .i64 3)] 1 3 false 0 0 0) (tr (tn (tr (.nd .lf
  (.row [(.nat .i64 3)] 1 3 false 0 0 0) .lf)) (tl (.nd .lf (.row [(.bool true),(.bool true),(.bool true)] 3 4 true 0 0 0) .lf))))))), k395⟩
def a0_196 : S := ⟨(tn (tn (tn (.nd .lf (.row [(.nat .i64 1),(.nat .i64 2)] 2 3 false 0 0 0) .lf) (.nd .lf (.row [(.sl k7 0 0 1 1),(.sl k8 0 0 2 2)] 2
  34 false 0 0 0) (tl (tr (.nd .lf (.row [(.nat .i64 2)] 1 3 false 0 0 0) .lf))))) (.nd (.nd .lf (.row [(.nat .i64 1),(.nat .i64 1)] 2 3 false 0 0 0)
  .lf) (.row [(.nat .i64 3)] 1 3 false 0 0 0) .lf)) (tn (.nd (.nd .lf (.row [(.nat .i64 1)] 1 3 false 0 0 0) (tr (tl (tl (.nd .lf (.row [(.sl k146 0 0
  1 1),(.nat .i64 1),(.nat .i64 1),(.sl k154 0 0 1 1),(.nat .i64 2),(.nat .i64 0),(.sl k159 0 0 1 1),(.nat .i64 3),(.nat .i64 0),(.sl k5 0 0 2
  2),(.nat .i64 3),(.nat .i64 2)] 12 143 true 0 0 0) .lf))))) (.row [(.nat .i64 1),(.nat .i64 2)] 2 3 false 0 0 0) (.nd (tl (tl (tl (.nd .lf (.row
  [(.sl k126 0 0 1 1),(.nat .i64 1),(.nat .i64 1),(.sl k134 0 0 1 1),(.nat .i64 3),(.nat .i64 0),(.sl k5 0 0 2 2),(.nat .i64 3),(.nat .i64 2)] 9 143
  true 0 0 0) .lf)))) (.row [(.sl k9 0 0 1 1),(.sl k10 0 0 2 2)] 2 34 false 0 0 0) (tr (tl (.nd .lf (.row [(.so k107 12 0 4 0),(.so k133 9 0 3 0),(.so
  k153 12 0 4 0)] 3 141 true 3 0 0) .lf))))) (.nd (.nd (tl (tr (.nd .lf (.row [(.nat .i64 1)] 1 3 false 0 0 0) .lf))) (.row [(.sl k5 0 0 2 2),(.sl k6
  0 0 1 1)] 2 34 false 0 0 0) (tn (tr (.nd .lf (.row [(.sl k99 0 0 1 1),(.nat .i64 1),(.nat .i64 1),(.sl k108 0 0 1 1),(.nat .i64 2),(.nat .i64
  0),(.sl k111 0 0 1 1),(.nat .i64 3),(.nat .i64 0),(.sl k5 0 0 2 2),(.nat .i64 3),(.nat .i64 2)] 12 143 true 0 0 0) .lf)) (tl (.nd .lf (.row [(.so
  k93 3 0 3 0),(.so k95 3 0 3 0),(.so k97 3 0 3 0),(.ref 0 k90)] 4 94 false 0 0 0) .lf)))) (.row [(.nat .i64 3)] 1 3 false 0 0 0) (tr (tn (tr (.nd .lf
  (.row [(.nat .i64 3)] 1 3 false 0 0 0) .lf)) (tl (.nd .lf (.row [(.bool true),(.bool true),(.bool true)] 3 4 true 0 0 0) .lf))))))), k396⟩
def a0_197 : S := ⟨(tn (tn (tn (.nd .lf (.row [(.nat .i64 1),(.nat .i64 2)] 2 3 false 0 0 0) .lf) (.nd .lf (.row [(.sl k7 0 0 1 1),(.sl k8 0 0 2 2)] 2
  34 false 0 0 0) (tl (tr (.nd .lf (.row [(.nat .i64 2)] 1 3 false 0 0 0) .lf))))) (.nd (.nd .lf (.row [(.nat .i64 1),(.nat .i64 1)] 2 3 false 0 0 0)
  .lf) (.row [(.nat .i64 3)] 1 3 false 0 0 0) .lf)) (tn (.nd (.nd .lf (.row [(.nat .i64 1)] 1 3 false 0 0 0) .lf) (.row [(.nat .i64 1),(.nat .i64 2)]
  2 3 false 0 0 0) (.nd (tl (tl (tl (.nd .lf (.row [(.sl k126 0 0 1 1),(.nat .i64 1),(.nat .i64 1),(.sl k134 0 0 1 1),(.nat .i64 3),(.nat .i64 0),(.sl
  k5 0 0 2 2),(.nat .i64 3),(.nat .i64 2)] 9 143 true 0 0 0) .lf)))) (.row [(.sl k9 0 0 1 1),(.sl k10 0 0 2 2)] 2 34 false 0 0 0) (tr (tl (.nd .lf
  (.row [(.so k107 12 0 4 0),(.so k133 9 0 3 0),(.so k151 12 0 4 0)] 3 141 true 3 0 0) .lf))))) (.nd (.nd (tl (tr (.nd .lf (.row [(.nat .i64 1)] 1 3
  false 0 0 0) .lf))) (.row [(.sl k5 0 0 2 2),(.sl k6 0 0 1 1)] 2 34 false 0 0 0) (tn (tr (.nd .lf (.row [(.sl k99 0 0 1 1),(.nat .i64 1),(.nat .i64
  1),(.sl k108 0 0 1 1),(.nat .i64 2),(.nat .i64 0),(.sl k111 0 0 1 1),(.nat .i64 3),(.nat .i64 0),(.sl k5 0 0 2 2),(.nat .i64 3),(.nat .i64 2)] 12
  143 true 0 0 0) .lf)) (tl (.nd .lf (.row [(.so k93 3 0 3 0),(.so k95 3 0 3 0),(.so k97 3 0 3 0),(.ref 0 k90)] 4 94 false 0 0 0) .lf)))) (.row [(.nat
  .i64 3)] 1 3 false 0 0 0) (tn (tr (tl (tl (.nd .lf (.row [(.sl k146 0 0 1 1),(.nat .i64 3),(.nat .i64 0),(.sl k152 0 0 1 1),(.nat .i64 2),(.nat .i64
  0),(.sl k157 0 0 1 1),(.nat .i64 1),(.nat .i64 1),(.sl k5 0 0 2 2),(.nat .i64 3),(.nat .i64 2)] 12 143 true 0 0 0) .lf)))) (tn (tr (.nd .lf (.row
  [(.nat .i64 3)] 1 3 false 0 0 0) .lf)) (tl (.nd .lf (.row [(.bool true),(.bool true),(.bool true)] 3 4 true 0 0 0) .lf))))))), k397⟩
def a0_198 : S := ⟨(tn (tn (tn (.nd .lf (.row [(.nat .i64 1),(.nat .i64 2)] 2 3 false 0 0 0) .lf) (.nd .lf (.row [(.sl k7 0 0 1 1),(.sl k8 0 0 2 2)] 2
  34 false 0 0 0) (tl (tr (.nd .lf (.row [(.nat .i64 2)] 1 3 false 0 0 0) .lf))))) (.nd (.nd .lf (.row [(.nat .i64 1),(.nat .i64 1)] 2 3 false 0 0 0)
  .lf) (.row [(.nat .i64 3)] 1 3 false 0 0 0) .lf)) (tn (.nd (.nd .lf (.row [(.nat .i64 1)] 1 3 false 0 0 0) .lf) (.row [(.nat .i64 1),(.nat .i64 2)]
  2 3 false 0 0 0) (.nd .lf (.row [(.sl k9 0 0 1 1),(.sl k10 0 0 2 2)] 2 34 false 0 0 0) (tr (tl (.nd .lf (.row [(.so k107 12 0 4 0),(.so k131 9 0 3
  0),(.so k151 12 0 4 0)] 3 141 true 3 0 0) .lf))))) (.nd (.nd (tl (tn (tl (.nd .lf (.row [(.sl k126 0 0 1 1),(.nat .i64 3),(.nat .i64 0),(.sl k132 0
  0 1 1),(.nat .i64 1),(.nat .i64 1),(.sl k5 0 0 2 2),(.nat .i64 3),(.nat .i64 2)] 9 143 true 0 0 0) .lf)) (.nd .lf (.row [(.nat .i64 1)] 1 3 false 0
  0 0) .lf))) (.row [(.sl k5 0 0 2 2),(.sl k6 0 0 1 1)] 2 34 false 0 0 0) (tn (tr (.nd .lf (.row [(.sl k99 0 0 1 1),(.nat .i64 1),(.nat .i64 1),(.sl
  k108 0 0 1 1),(.nat .i64 2),(.nat .i64 0),(.sl k111 0 0 1 1),(.nat .i64 3),(.nat .i64 0),(.sl k5 0 0 2 2),(.nat .i64 3),(.nat .i64 2)] 12 143 true 0
  0 0) .lf)) (tl (.nd .lf (.row [(.so k93 3 0 3 0),(.so k95 3 0 3 0),(.so k97 3 0 3 0),(.ref 0 k90)] 4 94 false 0 0 0) .lf)))) (.row [(.nat .i64 3)] 1
  3 false 0 0 0) (tn (tr (tl (tl (.nd .lf (.row [(.sl k146 0 0 1 1),(.nat .i64 3),(.nat .i64 0),(.sl k152 0 0 1 1),(.nat .i64 1),(.nat .i64 1),(.sl
  k159 0 0 1 1),(.nat .i64 2),(.nat .i64 0),(.sl k5 0 0 2 2),(.nat .i64 3),(.nat .i64 2)] 12 143 true 0 0 0) .lf)))) (tn (tr (.nd .lf (.row [(.nat
  .i64 3)] 1 3 false 0 0 0) .lf)) (tl (.nd .lf (.row [(.bool true),(.bool true),(.bool true)] 3 4 true 0 0 0) .lf))))))), k398⟩
def a0_199 : S := ⟨(tn (tn (tn (.nd .lf (.row [(.nat .i64 1),(.nat .i64 2)] 2 3 false 0 0 0) .lf) (.nd .lf (.row [(.sl k7 0 0 1 1),(.sl k8 0 0 2 2)] 2
  34 false 0 0 0) (tl (tr (.nd .lf (.row [(.nat .i64 2)] 1 3 false 0 0 0) .lf))))) (.nd (.nd .lf (.row [(.nat .i64 1),(.nat .i64 1)] 2 3 false 0 0 0)
  .lf) (.row [(.nat .i64 3)] 1 3 false 0 0 0) .lf)) (tn (.nd (.nd .lf (.row [(.nat .i64 1)] 1 3 false 0 0 0) .lf) (.row [(.nat .i64 1),(.nat .i64 2)]
  2 3 false 0 0 0) (.nd .lf (.row [(.sl k9 0 0 1 1),(.sl k10 0 0 2 2)] 2 34 false 0 0 0) (tr (tl (.nd .lf (.row [(.so k107 12 0 4 0),(.so k131 9 0 3
  0),(.so k151 12 0 4 0)] 3 141 true 3 0 0) .lf))))) (.nd (.nd (tl (tn (tl (.nd .lf (.row [(.sl k126 0 0 1 1),(.nat .i64 3),(.nat .i64 0),(.sl k132 0
  0 1 1),(.nat .i64 1),(.nat .i64 1),(.sl k5 0 0 2 2),(.nat .i64 3),(.nat .i64 2)] 9 143 true 0 0 0) .lf)) (.nd .lf (.row [(.nat .i64 1)] 1 3 false 0
  0 0) .lf))) (.row [(.sl k5 0 0 2 2),(.sl k6 0 0 1 1)] 2 34 false 0 0 0) (tn (tr (.nd .lf (.row [(.sl k99 0 0 1 1),(.nat .i64 1),(.nat .i64 1),(.sl
  k108 0 0 1 1),(.nat .i64 2),(.nat .i64 0),(.sl k111 0 0 1 1),(.nat .i64 3),(.nat .i64 0),(.sl k5 0 0 2 2),(.nat .i64 3),(.nat .i64 2)] 12 143 true 0
  0 0) .lf)) (tl (.nd .lf (.row [(.so k93 3 0 3 0),(.so k95 3 0 3 0),(.so k97 3 0 3 0),(.ref 0 k90)] 4 94 false 0 0 0) .lf)))) (.row [(.nat .i64 3)] 1
  3 false 0 0 0) (tn (tr (tl (tl (.nd .lf (.row [(.sl k146 0 0 1 1),(.nat .i64 2),(.nat .i64 0),(.sl k152 0 0 1 1),(.nat .i64 3),(.nat .i64 0),(.sl
  k157 0 0 1 1),(.nat .i64 1),(.nat .i64 1),(.sl k5 0 0 2 2),(.nat .i64 3),(.nat .i64 2)] 12 143 true 0 0 0) .lf)))) (tn (tr (.nd .lf (.row [(.nat
  .i64 3)] 1 3 false 0 0 0) .lf)) (tl (.nd .lf (.row [(.bool true),(.bool true),(.bool true)] 3 4 true 0 0 0) .lf))))))), k399⟩
def a0_200 : S := ⟨(tn (tn (tn (.nd .lf (.row [(.nat .i64 1),(.nat .i64 2)] 2 3 false 0 0 0) .lf) (.nd .lf (.row [(.sl k7 0 0 1 1),(.sl k8 0 0 2 2)] 2
  34 false 0 0 0) (tl (tr (.nd .lf (.row [(.nat .i64 2)] 1 3 false 0 0 0) .lf))))) (.nd (.nd .lf (.row [(.nat .i64 1),(.nat .i64 1)] 2 3 false 0 0 0)
  .lf) (.row [(.nat .i64 3)] 1 3 false 0 0 0) .lf)) (tn (.nd (.nd .lf (.row [(.nat .i64 1)] 1 3 false 0 0 0) .lf) (.row [(.nat .i64 1),(.nat .i64 2)]
  2 3 false 0 0 0) (.nd .lf (.row [(.sl k9 0 0 1 1),(.sl k10 0 0 2 2)] 2 34 false 0 0 0) (tr (tl (.nd .lf (.row [(.so k107 12 0 4 0),(.so k131 9 0 3
  0),(.so k151 12 0 4 0)] 3 141 true 3 0 0) .lf))))) (.nd (.nd (tl (tn (tl (.nd .lf (.row [(.sl k126 0 0 1 1),(.nat .i64 3),(.nat .i64 0),(.sl k132 0
  0 1 1),(.nat .i64 1),(.nat .i64 1),(.sl k5 0 0 2 2),(.nat .i64 3),(.nat .i64 2)] 9 143 true 0 0 0) .lf)) (.nd .lf (.row [(.nat .i64 1)] 1 3 false 0
  0 0) .lf))) (.row [(.sl k5 0 0 2 2),(.sl k6 0 0 1 1)] 2 34 false 0 0 0) (tn (tr (.nd .lf (.row [(.sl k99 0 0 1 1),(.nat .i64 1),(.nat .i64 1),(.sl
  k108 0 0 1 1),(.nat .i64 2),(.nat .i64 0),(.sl k111 0 0 1 1),(.nat .i64 3),(.nat .i64 0),(.sl k5 0 0 2 2),(.nat .i64 3),(.nat .i64 2)] 12 143 true 0
  0 0) .lf)) (tl (.nd .lf (.row [(.so k93 3 0 3 0),(.so k95 3 0 3 0),(.so k97 3 0 3 0),(.ref 0 k90)] 4 94 false 0 0 0) .lf)))) (.row [(.nat .i64 3)] 1
  3 false 0 0 0) (tn (tr (tl (tl (.nd .lf (.row [(.sl k146 0 0 1 1),(.nat .i64 2),(.nat .i64 0),(.sl k152 0 0 1 1),(.nat .i64 1),(.nat .i64 1),(.sl
  k159 0 0 1 1),(.nat .i64 3),(.nat .i64 0),(.sl k5 0 0 2 2),(.nat .i64 3),(.nat .i64 2)] 12 143 true 0 0 0) .lf)))) (tn (tr (.nd .lf (.row [(.nat
  .i64 3)] 1 3 false 0 0 0) .lf)) (tl (.nd .lf (.row [(.bool true),(.bool true),(.bool true)] 3 4 true 0 0 0) .lf))))))), k400⟩
def a0_201 : S := ⟨(tn (tn (tn (.nd .lf (.row [(.nat .i64 1),(.nat .i64 2)] 2 3 false 0 0 0) .lf) (.nd .lf (.row [(.sl k7 0 0 1 1),(.sl k8 0 0 2 2)] 2
  34 false 0 0 0) (tl (tr (.nd .lf (.row [(.nat .i64 2)] 1 3 false 0 0 0) .lf))))) (.nd (.nd .lf (.row [(.nat .i64 1),(.nat .i64 1)] 2 3 false 0 0 0)
  .lf) (.row [(.nat .i64 3)] 1 3 false 0 0 0) .lf)) (tn (.nd (.nd .lf (.row [(.nat .i64 1)] 1 3 false 0 0 0) (tr (tl (tl (.nd .lf (.row [(.sl k146 0 0
  1 1),(.nat .i64 1),(.nat .i64 1),(.sl k154 0 0 1 1),(.nat .i64 3),(.nat .i64 0),(.sl k159 0 0 1 1),(.nat .i64 2),(.nat .i64 0),(.sl k5 0 0 2
  2),(.nat .i64 3),(.nat .i64 2)] 12 143 true 0 0 0) .lf))))) (.row [(.nat .i64 1),(.nat .i64 2)] 2 3 false 0 0 0) (.nd .lf (.row [(.sl k9 0 0 1
  1),(.sl k10 0 0 2 2)] 2 34 false 0 0 0) (tr (tl (.nd .lf (.row [(.so k107 12 0 4 0),(.so k131 9 0 3 0),(.so k153 12 0 4 0)] 3 141 true 3 0 0)
  .lf))))) (.nd (.nd (tl (tn (tl (.nd .lf (.row [(.sl k126 0 0 1 1),(.nat .i64 3),(.nat .i64 0),(.sl k132 0 0 1 1),(.nat .i64 1),(.nat .i64 1),(.sl k5
  0 0 2 2),(.nat .i64 3),(.nat .i64 2)] 9 143 true 0 0 0) .lf)) (.nd .lf (.row [(.nat .i64 1)] 1 3 false 0 0 0) .lf))) (.row [(.sl k5 0 0 2 2),(.sl k6
  0 0 1 1)] 2 34 false 0 0 0) (tn (tr (.nd .lf (.row [(.sl k99 0 0 1 1),(.nat .i64 1),(.nat .i64 1),(.sl k108 0 0 1 1),(.nat .i64 2),(.nat .i64
  0),(.sl k111 0 0 1 1),(.nat .i64 3),(.nat .i64 0),(.sl k5 0 0 2 2),(.nat .i64 3),(.nat .i64 2)] 12 143 true 0 0 0) .lf)) (tl (.nd .lf (.row [(.so
  k93 3 0 3 0),(.so k95 3 0 3 0),(.so k97 3 0 3 0),(.ref 0 k90)] 4 94 false 0 0 0) .lf)))) (.row [(.nat .i64 3)] 1 3 false 0 0 0) (tr (tn (tr (.nd .lf
  (.row [(.nat .i64 3)] 1 3 false 0 0 0) .lf)) (tl (.nd .lf (.row [(.bool true),(.bool true),(.bool true)] 3 4 true 0 0 0) .lf))))))), k401⟩
def a0_202 : S := ⟨(tn (tn (tn (.nd .lf (.row [(.nat .i64 1),(.nat .i64 2)] 2 3 false 0 0 0) .lf) (.nd .lf (.row [(.sl k7 0 0 1 1),(.sl k8 0 0 2 2)] 2
  34 false 0 0 0) (tl (tr (.nd .lf (.row [(.nat .i64 2)] 1 3 false 0 0 0) .lf))))) (.nd (.nd .lf (.row [(.nat .i64 1),(.nat .i64 1)] 2 3 false 0 0 0)
  .lf) (.row [(.nat .i64 3)] 1 3 false 0 0 0) .lf)) (tn (.nd (.nd .lf (.row [(.nat .i64 1)] 1 3 false 0 0 0) (tr (tl (tl (.nd .lf (.row [(.sl k146 0 0
  1 1),(.nat .i64 1),(.nat .i64 1),(.sl k154 0 0 1 1),(.nat .i64 2),(.nat .i64 0),(.sl k159 0 0 1 1),(.nat .i64 3),(.nat .i64 0),(.sl k5 0 0 2
  2),(.nat .i64 3),(.nat .i64 2)] 12 143 true 0 0 0) .lf))))) (.row [(.nat .i64 1),(.nat .i64 2)] 2 3 false 0 0 0) (.nd .lf (.row [(.sl k9 0 0 1
  1),(.sl k10 0 0 2 2)] 2 34 false 0 0 0) (tr (tl (.nd .lf (.row [(.so k107 12 0 4 0),(.so k131 9 0 3 0),(.so k153 12 0 4 0)] 3 141 true 3 0 0)
  .lf))))) (.nd (.nd (tl (tn (tl (.nd .lf (.row [(.sl k126 0 0 1 1),(.nat .i64 3),(.nat .i64 0),(.sl k132 0 0 1 1),(.nat .i64 1),(.nat .i64 1),(.sl k5
  0 0 2 2),(.nat .i64 3),(.nat .i64 2)] 9 143 true 0 0 0) .lf)) (.nd .lf (.row [(.nat .i64 1)] 1 3 false 0 0 0) .lf))) (.row [(.sl k5 0 0 2 2),(.sl k6
  0 0 1 1)] 2 34 false 0 0 0) (tn (tr (.nd .lf (.row [(.sl k99 0 0 1 1),(.nat .i64 1),(.nat .i64 1),(.sl k108 0 0 1 1),(.nat .i64 2),(.nat .i64
  0),(.sl k111 0 0 1 1),(.nat .i64 3),(.nat .i64 0),(.sl k5 0 0 2 2),(.nat .i64 3),(.nat .i64 2)] 12 143 true 0 0 0) .lf)) (tl (.nd .lf (.row [(.so
  k93 3 0 3 0),(.so k95 3 0 3 0),(.so k97 3 0 3 0),(.ref 0 k90)] 4 94 false 0 0 0) .lf)))) (.row [(.nat .i64 3)] 1 3 false 0 0 0) (tr (tn (tr (.nd .lf
  (.row [(.nat .i64 3)] 1 3 false 0 0 0) .lf)) (tl (.nd .lf (.row [(.bool true),(.bool true),(.bool true)] 3 4 true 0 0 0) .lf))))))), k402⟩
def a0_203 : S := ⟨(tn (tn (tn (.nd .lf (.row [(.nat .i64 1),(.nat .i64 2)] 2 3 false 0 0 0) .lf) (.nd .lf (.row [(.sl k7 0 0 1 1),(.sl k8 0 0 2 2)] 2
  34 false 0 0 0) (tl (tr (.nd .lf (.row [(.nat .i64 2)] 1 3 false 0 0 0) .lf))))) (.nd (.nd .lf (.row [(.nat .i64 1),(.nat .i64 1)] 2 3 false 0 0 0)
  .lf) (.row [(.nat .i64 3)] 1 3 false 0 0 0) .lf)) (tn (.nd (.nd .lf (.row [(.nat .i64 1)] 1 3 false 0 0 0) .lf) (.row [(.nat .i64 1),(.nat .i64 2)]
  2 3 false 0 0 0) (.nd .lf (.row [(.sl k9 0 0 1 1),(.sl k10 0 0 2 2)] 2 34 false 0 0 0) (tr (tl (.nd .lf (.row [(.so k107 12 0 4 0),(.so k131 9 0 3
  0),(.so k151 12 0 4 0)] 3 141 true 3 0 0) .lf))))) (.nd (.nd (tl (tn (tl (.nd .lf (.row [(.sl k126 0 0 1 1),(.nat .i64 3),(.nat .i64 0),(.sl k132 0
  0 1 1),(.nat .i64 1),(.nat .i64 1),(.sl k5 0 0 2 2),(.nat .i64 3),(.nat .i64 2)] 9 143 true 0 0 0) .lf)) (.nd .lf (.row [(.nat .i64 1)] 1 3 false 0
  0 0) .lf))) (.row [(.sl k5 0 0 2 2),(.sl k6 0 0 1 1)] 2 34 false 0 0 0) (tn (tr (.nd .lf (.row [(.sl k99 0 0 1 1),(.nat .i64 1),(.nat .i64 1),(.sl
  k108 0 0 1 1),(.nat .i64 2),(.nat .i64 0),(.sl k111 0 0 1 1),(.nat .i64 3),(.nat .i64 0),(.sl k5 0 0 2 2),(.nat .i64 3),(.nat .i64 2)] 12 143 true 0
  0 0) .lf)) (tl (.nd .lf (.row [(.so k93 3 0 3 0),(.so k95 3 0 3 0),(.so k97 3 0 3 0),(.ref 0 k90)] 4 94 false 0 0 0) .lf)))) (.row [(.nat .i64 3)] 1
  3 false 0 0 0) (tn (tr (tl (tl (.nd .lf (.row [(.sl k146 0 0 1 1),(.nat .i64 3),(.nat .i64 0),(.sl k152 0 0 1 1),(.nat .i64 2),(.nat .i64 0),(.sl
  k157 0 0 1 1),(.nat .i64 1),(.nat .i64 1),(.sl k5 0 0 2 2),(.nat .i64 3),(.nat .i64 2)] 12 143 true 0 0 0) .lf)))) (tn (tr (.nd .lf (.row [(.nat
  .i64 3)] 1 3 false 0 0 0) .lf)) (tl (.nd .lf (.row [(.bool true),(.bool true),(.bool true)] 3 4 true 0 0 0) .lf))))))), k403⟩
def a0_204 : S := ⟨(tn (tn (tn (.nd .lf (.row [(.nat .i64 1),(.nat .i64 2)] 2 3 false 0 0 0) .lf) (.nd .lf (.row [(.sl k7 0 0 1 1),(.sl k8 0 0 2 2)] 2
  34 false 0 0 0) (tl (tr (.nd .lf (.row [(.nat .i64 2)] 1 3 false 0 0 0) .lf))))) (.nd (.nd .lf (.row [(.nat .i64 1),(.nat .i64 1)] 2 3 false 0 0 0)
  .lf) (.row [(.nat .i64 3)] 1 3 false 0 0 0) .lf)) (tn (.nd (.nd .lf (.row [(.nat .i64 1)] 1 3 false 0 0 0) .lf) (.row [(.nat .i64 1),(.nat .i64 2)]
  2 3 false 0 0 0) (.nd .lf (.row [(.sl k9 0 0 1 1),(.sl k10 0 0 2 2)] 2 34 false 0 0 0) (tr (tl (.nd .lf (.row [(.so k107 12 0 4 0),(.so k127 9 0 3
  0),(.so k151 12 0 4 0)] 3 141 true 3 0 0) .lf))))) (.nd (.nd (tl (tr (.nd .lf (.row [(.nat .i64 1)] 1 3 false 0 0 0) .lf))) (.row [(.sl k5 0 0 2
  2),(.sl k6 0 0 1 1)] 2 34 false 0 0 0) (tn (tr (.nd .lf (.row [(.sl k99 0 0 1 1),(.nat .i64 1),(.nat .i64 1),(.sl k108 0 0 1 1),(.nat .i64 2),(.nat
  .i64 0),(.sl k111 0 0 1 1),(.nat .i64 3),(.nat .i64 0),(.sl k5 0 0 2 2),(.nat .i64 3),(.nat .i64 2)] 12 143 true 0 0 0) .lf)) (tl (.nd .lf (.row
  [(.so k93 3 0 3 0),(.so k95 3 0 3 0),(.so k97 3 0 3 0),(.ref 0 k90)] 4 94 false 0 0 0) .lf)))) (.row [(.nat .i64 3)] 1 3 false 0 0 0) (tn (tr (tl
  (tl (.nd .lf (.row [(.sl k146 0 0 1 1),(.nat .i64 3),(.nat .i64 0),(.sl k152 0 0 1 1),(.nat .i64 1),(.nat .i64 1),(.sl k159 0 0 1 1),(.nat .i64
  2),(.nat .i64 0),(.sl k5 0 0 2 2),(.nat .i64 3),(.nat .i64 2)] 12 143 true 0 0 0) .lf)))) (tn (tr (.nd .lf (.row [(.nat .i64 3)] 1 3 false 0 0 0)
  .lf)) (tn (.nd .lf (.row [(.bool true),(.bool true),(.bool true)] 3 4 true 0 0 0) .lf) (.nd .lf (.row [(.sl k122 0 0 1 1),(.nat .i64 3),(.nat .i64
  0),(.sl k128 0 0 1 1),(.nat .i64 1),(.nat .i64 1),(.sl k5 0 0 2 2),(.nat .i64 3),(.nat .i64 2)] 9 143 true 0 0 0) .lf))))))), k404⟩
def a0_205 : S := ⟨(tn (tn (tn (.nd .lf (.row [(.nat .i64 1),(.nat .i64 2)] 2 3 false 0 0 0) .lf) (.nd .lf (.row [(.sl k7 0 0 1 1),(.sl k8 0 0 2 2)] 2
  34 false 0 0 0) (tl (tr (.nd .lf (.row [(.nat .i64 2)] 1 3 false 0 0 0) .lf))))) (.nd (.nd .lf (.row [(.nat .i64 1),(.nat .i64 1)] 2 3 false 0 0 0)
  .lf) (.row [(.nat .i64 3)] 1 3 false 0 0 0) .lf)) (tn (.nd (.nd .lf (.row [(.nat .i64 1)] 1 3 false 0 0 0) .lf) (.row [(.nat .i64 1),(.nat .i64 2)]
  2 3 false 0 0 0) (.nd .lf (.row [(.sl k9 0 0 1 1),(.sl k10 0 0 2 2)] 2 34 false 0 0 0) (tr (tl (.nd .lf (.row [(.so k107 12 0 4 0),(.so k127 9 0 3
  0),(.so k151 12 0 4 0)] 3 141 true 3 0 0) .lf))))) (.nd (.nd (tl (tr (.nd .lf (.row [(.nat .i64 1)] 1 3 false 0 0 0) .lf))) (.row [(.sl k5 0 0 2
  2),(.sl k6 0 0 1 1)] 2 34 false 0 0 0) (tn (tr (.nd .lf (.row [(.sl k99 0 0 1 1),(.nat .i64 1),(.nat .i64 1),(.sl k108 0 0 1 1),(.nat .i64 2),(.nat
  .i64 0),(.sl k111 0 0 1 1),(.nat .i64 3),(.nat .i64 0),(.sl k5 0 0 2 2),(.nat .i64 3),(.nat .i64 2)] 12 143 true 0 0 0) .lf)) (tl (.nd .lf (.row
  [(.so k93 3 0 3 0),(.so k95 3 0 3 0),(.so k97 3 0 3 0),(.ref 0 k90)] 4 94 false 0 0 0) .lf)))) (.row [(.nat .i64 3)] 1 3 false 0 0 0) (tn (tr (tl
  (tl (.nd .lf (.row [(.sl k146 0 0 1 1),(.nat .i64 2),(.nat .i64 0),(.sl k152 0 0 1 1),(.nat .i64 3),(.nat .i64 0),(.sl k157 0 0 1 1),(.nat .i64
  1),(.nat .i64 1),(.sl k5 0 0 2 2),(.nat .i64 3),(.nat .i64 2)] 12 143 true 0 0 0) .lf)))) (tn (tr (.nd .lf (.row [(.nat .i64 3)] 1 3 false 0 0 0)
  .lf)) (tn (.nd .lf (.row [(.bool true),(.bool true),(.bool true)] 3 4 true 0 0 0) .lf) (.nd .lf (.row [(.sl k122 0 0 1 1),(.nat .i64 3),(.nat .i64
  0),(.sl k128 0 0 1 1),(.nat .i64 1),(.nat .i64 1),(.sl k5 0 0 2 2),(.nat .i64 3),(.nat .i64 2)] 9 143 true 0 0 0) .lf))))))), k405⟩
def a0_206 : S := ⟨(tn (tn (tn (.nd .lf (.row [(.nat .i64 1),(.nat .i64 2)] 2 3 false 0 0 0) .lf) (.nd .lf (.row [(.sl k7 0 0 1 1),(.sl k8 0 0 2 2)] 2
  34 false 0 0 0) (tl (tr (.nd .lf (.row [(.nat .i64 2)] 1 3 false 0 0 0) .lf))))) (.nd (.nd .lf (.row [(.nat .i64 1),(.nat .i64 1)] 2 3 false 0 0 0)
  .lf) (.row [(.nat .i64 3)] 1 3 false 0 0 0) .lf)) (tn (.nd (.nd .lf (.row [(.nat .i64 1)] 1 3 false 0 0 0) .lf) (.row [(.nat .i64 1),(.nat .i64 2)]
  2 3 false 0 0 0) (.nd .lf (.row [(.sl k9 0 0 1 1),(.sl k10 0 0 2 2)] 2 34 false 0 0 0) (tr (tl (.nd .lf (.row [(.so k107 12 0 4 0),(.so k127 9 0 3
  0),(.so k151 12 0 4 0)] 3 141 true 3 0 0) .lf))))) (.nd (.nd (tl (tr (.nd .lf (.row [(.nat .i64 1)] 1 3 false 0 0 0) .lf))) (.row [(.sl k5 0 0 2
  2),(.sl k6 0 0 1 1)] 2 34 false 0 0 0) (tn (tr (.nd .lf (.row [(.sl k99 0 0 1 1),(.nat .i64 1),(.nat .i64 1),(.sl k108 0 0 1 1),(.nat .i64 2),(.nat
  .i64 0),(.sl k111 0 0 1 1),(.nat .i64 3),(.nat .i64 0),(.sl k5 0 0 2 2),(.nat .i64 3),(.nat .i64 2)] 12 143 true 0 0 0) .lf)) (tl (.nd .lf (.row
  [(.so k93 3 0 3 0),(.so k95 3 0 3 0),(.so k97 3 0 3 0),(.ref 0 k90)] 4 94 false 0 0 0) .lf)))) (.row [(.nat .i64 3)] 1 3 false 0 0 0) (tn (tr (tl
  (tl (.nd .lf (.row [(.sl k146 0 0 1 1),(.nat .i64 2),(.nat .i64 0),(.sl k152 0 0 1 1),(.nat .i64 1),(.nat .i64 1),(.sl k159 0 0 1 1),(.nat .i64
  3),(.nat .i64 0),(.sl k5 0 0 2 2),(.nat .i64 3),(.nat .i64 2)] 12 143 true 0 0 0) .lf)))) (tn (tr (.nd .lf (.row [(.nat .i64 3)] 1 3 false 0 0 0)
  .lf)) (tn (.nd .lf (.row [(.bool true),(.bool true),(.bool true)] 3 4 true 0 0 0) .lf) (.nd .lf (.row [(.sl k122 0 0 1 1),(.nat .i64 3),(.nat .i64
  0),(.sl k128 0 0 1 1),(.nat .i64 1),(.nat .i64 1),(.sl k5 0 0 2 2),(.nat .i64 3),(.nat .i64 2)] 9 143 true 0 0 0) .lf))))))), k406⟩
def a0_207 : S := ⟨(tn (tn (tn (.nd .lf (.row [(.nat .i64 1),(.nat .i64 2)] 2 3 false 0 0 0) .lf) (.nd .lf (.row [(.sl k7 0 0 1 1),(.sl k8 0 0 2 2)] 2
  34 false 0 0 0) (tl (tr (.nd .lf (.row [(.nat .i64 2)] 1 3 false 0 0 0) .lf))))) (.nd (.nd .lf (.row [(.nat .i64 1),(.nat .i64 1)] 2 3 false 0 0 0)
  .lf) (.row [(.nat .i64 3)] 1 3 false 0 0 0) .lf)) (tn (.nd (.nd .lf (.row [(.nat .i64 1)] 1 3 false 0 0 0) (tr (tl (tl (.nd .lf (.row [(.sl k146 0 0
  1 1),(.nat .i64 1),(.nat .i64 1),(.sl k154 0 0 1 1),(.nat .i64 3),(.nat .i64 0),(.sl k159 0 0 1 1),(.nat .i64 2),(.nat .i64 0),(.sl k5 0 0 2
  2),(.nat .i64 3),(.nat .i64 2)] 12 143 true 0 0 0) .lf))))) (.row [(.nat .i64 1),(.nat .i64 2)] 2 3 false 0 0 0) (.nd .lf (.row [(.sl k9 0 0 1
  1),(.sl k10 0 0 2 2)] 2 34 false 0 0 0) (tr (tl (.nd .lf (.row [(.so k107 12 0 4 0),(.so k127 9 0 3 0),(.so k153 12 0 4 0)] 3 141 true 3 0 0)
  .lf))))) (.nd (.nd (tl (tr (.nd .lf (.row [(.nat .i64 1)] 1 3 false 0 0 0) .lf))) (.row [(.sl k5 0 0 2 2),(.sl k6 0 0 1 1)] 2 34 false 0 0 0) (tn
  (tr (.nd .lf (.row [(.sl k99 0 0 1 1),(.nat .i64 1),(.nat .i64 1),(.sl k108 0 0 1 1),(.nat .i64 2),(.nat .i64 0),(.sl k111 0 0 1 1),(.nat .i64
  3),(.nat .i64 0),(.sl k5 0 0 2 2),(.nat .i64 3),(.nat .i64 2)] 12 143 true 0 0 0) .lf)) (tl (.nd .lf (.row [(.so k93 3 0 3 0),(.so k95 3 0 3 0),(.so
  k97 3 0 3 0),(.ref 0 k90)] 4 94 false 0 0 0) .lf)))) (.row [(.nat .i64 3)] 1 3 false 0 0 0) (tr (tn (tr (.nd .lf (.row [(.nat .i64 3)] 1 3 false 0 0
  0) .lf)) (tn (.nd .lf (.row [(.bool true),(.bool true),(.bool true)] 3 4 true 0 0 0) .lf) (.nd .lf (.row [(.sl k122 0 0 1 1),(.nat .i64 3),(.nat
  .i64 0),(.sl k128 0 0 1 1),(.nat .i64 1),(.nat .i64 1),(.sl k5 0 0 2 2),(.nat .i64 3),(.nat .i64 2)] 9 143 true 0 0 0) .lf))))))), k407⟩
def a0_208 : S := ⟨(tn (tn (tn (.nd .lf (.row [(.nat .i64 1),(.nat .i64 2)] 2 3 false 0 0 0) .lf) (.nd .lf (.row [(.sl k7 0 0 1 1),(.sl k8 0 0 2 2)] 2
  34 false 0 0 0) (tl (tr (.nd .lf (.row [(.nat .i64 2)] 1 3 false 0 0 0) .lf))))) (.nd (.nd .lf (.row [(.nat .i64 1),(.nat .i64 1)] 2 3 false 0 0 0)
  .lf) (.row [(.nat .i64 3)] 1 3 false 0 0 0) .lf)) (tn (.nd (.nd .lf (.row [(.nat .i64 1)] 1 3 false 0 0 0) (tr (tl (tl (.nd .lf (.row [(.sl k146 0 0
  1 1),(.nat .i64 1),(.nat .i64 1),(.sl k154 0 0 1 1),(.nat .i64 2),(.nat .i64 0),(.sl k159 0 0 1 1),(.nat .i64 3),(.nat .i64 0),(.sl k5 0 0 2
  2),(.nat .i64 3),(.nat .i64 2)] 12 143 true 0 0 0) .lf))))) (.row [(.nat .i64 1),(.nat .i64 2)] 2 3 false 0 0 0) (.nd .lf (.row [(.sl k9 0 0 1
  1),(.sl k10 0 0 2 2)] 2 34 false 0 0 0) (tr (tl (.nd .lf (.row [(.so k107 12 0 4 0),(.so k127 9 0 3 0),(.so k153 12 0 4 0)] 3 141 true 3 0 0)
  .lf))))) (.nd (.nd (tl (tr (.nd .lf (.row [(.nat .i64 1)] 1 3 false 0 0 0) .lf))) (.row [(.sl k5 0 0 2 2),(.sl k6 0 0 1 1)] 2 34 false 0 0 0) (tn
  (tr (.nd .lf (.row [(.sl k99 0 0 1 1),(.nat .i64 1),(.nat .i64 1),(.sl k108 0 0 1 1),(.nat .i64 2),(.nat .i64 0),(.sl k111 0 0 1 1),(.nat .i64
  3),(.nat .i64 0),(.sl k5 0 0 2 2),(.nat .i64 3),(.nat .i64 2)] 12 143 true 0 0 0) .lf)) (tl (.nd .lf (.row [(.so k93 3 0 3 0),(.so k95 3 0 3 0),(.so
  k97 3 0 3 0),(.ref 0 k90)] 4 94 false 0 0 0) .lf)))) (.row [(.nat .i64 3)] 1 3 false 0 0 0) (tr (tn (tr (.nd .lf (.row [(.nat .i64 3)] 1 3 false 0 0
  0) .lf)) (tn (.nd .lf (.row [(.bool true),(.bool true),(.bool true)] 3 4 true 0 0 0) .lf) (.nd .lf (.row [(.sl k122 0 0 1 1),(.nat .i64 3),(.nat
  .i64 0),(.sl k128 0 0 1 1),(.nat .i64 1),(.nat .i64 1),(.sl k5 0 0 2 2),(.nat .i64 3),(.nat .i64 2)] 9 143 true 0 0 0) .lf))))))), k408⟩
def a0_209 : S := ⟨(tn (tn (tn (.nd .lf (.row [(.nat .i64 1),(.nat .i64 2)] 2 3 false 0 0 0) .lf) (.nd .lf (.row [(.sl k7 0 0 1 1),(.sl k8 0 0 2 2)] 2
  34 false 0 0 0) (tl (tr (.nd .lf (.row [(.nat .i64 2)] 1 3 false 0 0 0) .lf))))) (.nd (.nd .lf (.row [(.nat .i64 1),(.nat .i64 1)] 2 3 false 0 0 0)
  .lf) (.row [(.nat .i64 3)] 1 3 false 0 0 0) .lf)) (tn (.nd (.nd .lf (.row [(.nat .i64 1)] 1 3 false 0 0 0) .lf) (.row [(.nat .i64 1),(.nat .i64 2)]
  2 3 false 0 0 0) (.nd .lf (.row [(.sl k9 0 0 1 1),(.sl k10 0 0 2 2)] 2 34 false 0 0 0) (tr (tl (.nd .lf (.row [(.so k107 12 0 4 0),(.so k127 9 0 3
  0),(.so k151 12 0 4 0)] 3 141 true 3 0 0) .lf))))) (.nd (.nd (tl (tr (.nd .lf (.row [(.nat .i64 1)] 1 3 false 0 0 0) .lf))) (.row [(.sl k5 0 0 2
  2),(.sl k6 0 0 1 1)] 2 34 false 0 0 0) (tn (tr (.nd .lf (.row [(.sl k99 0 0 1 1),(.nat .i64 1),(.nat .i64 1),(.sl k108 0 0 1 1),(.nat .i64 2),(.nat
  .i64 0),(.sl k111 0 0 1 1),(.nat .i64 3),(.nat .i64 0),(.sl k5 0 0 2 2),(.nat .i64 3),(.nat .i64 2)] 12 143 true 0 0 0) .lf)) (tl (.nd .lf (.row
  [(.so k93 3 0 3 0),(.so k95 3 0 3 0),(.so k97 3 0 3 0),(.ref 0 k90)] 4 94 false 0 0 0) .lf)))) (.row [(.nat .i64 3)] 1 3 false 0 0 0) (tn (tr (tl
  (tl (.nd .lf (.row [(.sl k146 0 0 1 1),(.nat .i64 3),(.nat .i64 0),(.sl k152 0 0 1 1),(.nat .i64 2),(.nat .i64 0),(.sl k157 0 0 1 1),(.nat .i64
  1),(.nat .i64 1),(.sl k5 0 0 2 2),(.nat .i64 3),(.nat .i64 2)] 12 143 true 0 0 0) .lf)))) (tn (tr (.nd .lf (.row [(.nat .i64 3)] 1 3 false 0 0 0)
  .lf)) (tn (.nd .lf (.row [(.bool true),(.bool true),(.bool true)] 3 4 true 0 0 0) .lf) (.nd .lf (.row [(.sl k122 0 0 1 1),(.nat .i64 3),(.nat .i64
  0),(.sl k128 0 0 1 1),(.nat .i64 1),(.nat .i64 1),(.sl k5 0 0 2 2),(.nat .i64 3),(.nat .i64 2)] 9 143 true 0 0 0) .lf))))))), k409⟩
def a0_210 : S := ⟨(tn (tn (tn (.nd .lf (.row [(.nat .i64 1),(.nat .i64 2)] 2 3 false 0 0 0) .lf) (.nd .lf (.row [(.sl k7 0 0 1 1),(.sl k8 0 0 2 2)] 2
  34 false 0 0 0) (tl (tr (.nd .lf (.row [(.nat .i64 2)] 1 3 false 0 0 0) .lf))))) (.nd (.nd .lf (.row [(.nat .i64 1),(.nat .i64 1)] 2 3 false 0 0 0)
  .lf) (.row [(.nat .i64 3)] 1 3 false 0 0 0) .lf)) (tn (.nd (.nd .lf (.row [(.nat .i64 1)] 1 3 false 0 0 0) (tr (tl (tl (.nd .lf (.row [(.sl k146 0 0
  1 1),(.nat .i64 1),(.nat .i64 1),(.sl k154 0 0 1 1),(.nat .i64 2),(.nat .i64 0),(.sl k159 0 0 1 1),(.nat .i64 3),(.nat .i64 0),(.sl k5 0 0 2
  2),(.nat .i64 3),(.nat .i64 2)] 12 143 true 0 0 0) .lf))))) (.row [(.nat .i64 1),(.nat .i64 2)] 2 3 false 0 0 0) (.nd .lf (.row [(.sl k9 0 0 1
  1),(.sl k10 0 0 2 2)] 2 34 false 0 0 0) (tr (tl (.nd .lf (.row [(.so k107 12 0 4 0),(.so k127 9 0 3 0),(.so k153 12 0 4 0)] 3 141 true 3 0 0)
  .lf))))) (.nd (.nd (tl (tr (.nd .lf (.row [(.nat .i64 1)] 1 3 false 0 0 0) .lf))) (.row [(.sl k5 0 0 2 2),(.sl k6 0 0 1 1)] 2 34 false 0 0 0) (tn
  (tr (.nd .lf (.row [(.sl k99 0 0 1 1),(.nat .i64 1),(.nat .i64 1),(.sl k108 0 0 1 1),(.nat .i64 2),(.nat .i64 0),(.sl k111 0 0 1 1),(.nat .i64
  3),(.nat .i64 0),(.sl k5 0 0 2 2),(.nat .i64 3),(.nat .i64 2)] 12 143 true 0 0 0) .lf)) (tl (.nd .lf (.row [(.so k93 3 0 3 0),(.so k95 3 0 3 0),(.so
  k97 3 0 3 0),(.ref 0 k90)] 4 94 false 0 0 0) .lf)))) (.row [(.nat .i64 3)] 1 3 false 0 0 0) (tr (tn (tr (.nd .lf (.row [(.nat .i64 3)] 1 3 false 0 0
  0) .lf)) (tn (.nd .lf (.row [(.bool true),(.bool true),(.bool true)] 3 4 true 0 0 0) .lf) (.nd .lf (.row [(.sl k122 0 0 1 1),(.nat .i64 3),(.nat
  .i64 0),(.sl k132 0 0 1 1),(.nat .i64 1),(.nat .i64 1),(.sl k5 0 0 2 2),(.nat .i64 3),(.nat .i64 2)] 9 143 true 0 0 0) .lf))))))), k410⟩
def a0_211 : S := ⟨(tn (tn (tn (.nd .lf (.row [(.nat .i64 1),(.nat .i64 2)] 2 3 false 0 0 0) .lf) (.nd .lf (.row [(.sl k7 0 0 1 1),(.sl k8 0 0 2 2)] 2
  34 false 0 0 0) (tl (tr (.nd .lf (.row [(.nat .i64 2)] 1 3 false 0 0 0) .lf))))) (.nd (.nd .lf (.row [(.nat .i64 1),(.nat .i64 1)] 2 3 false 0 0 0)
  .lf) (.row [(.nat .i64 3)] 1 3 false 0 0 0) .lf)) (tn (.nd (.nd .lf (.row [(.nat .i64 1)] 1 3 false 0 0 0) (tr (tl (tl (.nd .lf (.row [(.sl k146 0 0
  1 1),(.nat .i64 1),(.nat .i64 1),(.sl k154 0 0 1 1),(.nat .i64 3),(.nat .i64 0),(.sl k159 0 0 1 1),(.nat .i64 2),(.nat .i64 0),(.sl k5 0 0 2
  2),(.nat .i64 3),(.nat .i64 2)] 12 143 true 0 0 0) .lf))))) (.row [(.nat .i64 1),(.nat .i64 2)] 2 3 false 0 0 0) (.nd .lf (.row [(.sl k9 0 0 1
  1),(.sl k10 0 0 2 2)] 2 34 false 0 0 0) (tr (tl (.nd .lf (.row [(.so k107 12 0 4 0),(.so k127 9 0 3 0),(.so k153 12 0 4 0)] 3 141 true 3 0 0)
  .lf))))) (.nd (.nd (tl (tr (.nd .lf (.row [(.nat .i64 1)] 1 3 false 0 0 0) .lf))) (.row [(.sl k5 0 0 2 2),(.sl k6 0 0 1 1)] 2 34 false 0 0 0) (tn
  (tr (.nd .lf (.row [(.sl k99 0 0 1 1),(.nat .i64 1),(.nat .i64 1),(.sl k108 0 0 1 1),(.nat .i64 2),(.nat .i64 0),(.sl k111 0 0 1 1),(.nat .i64
  3),(.nat .i64 0),(.sl k5 0 0 2 2),(.nat .i64 3),(.nat .i64 2)] 12 143 true 0 0 0) .lf)) (tl (.nd .lf (.row [(.so k93 3 0 3 0),(.so k95 3 0 3 0),(.so
  k97 3 0 3 0),(.ref 0 k90)] 4 94 false 0 0 0) .lf)))) (.row [(.nat .i64 3)] 1 3 false 0 0 0) (tr (tn (tr (.nd .lf (.row [(.nat .i64 3)] 1 3 false 0 0
  0) .lf)) (tn (.nd .lf (.row [(.bool true),(.bool true),(.bool true)] 3 4 true 0 0 0) .lf) (.nd .lf (.row [(.sl k122 0 0 1 1),(.nat .i64 3),(.nat
  .i64 0),(.sl k132 0 0 1 1),(.nat .i64 1),(.nat .i64 1),(.sl k5 0 0 2 2),(.nat .i64 3),(.nat .i64 2)] 9 143 true 0 0 0) .lf))))))), k411⟩
def a0_212 : S := ⟨(tn (tn (tn (.nd .lf (.row [(.nat .i64 1),(.nat .i64 2)] 2 3 false 0 0 0) .lf) (.nd .lf (.row [(.sl k7 0 0 1 1),(.sl k8 0 0 2 2)] 2
  34 false 0 0 0) (tl (tr (.nd .lf (.row [(.nat .i64 2)] 1 3 false 0 0 0) .lf))))) (.nd (.nd .lf (.row [(.nat .i64 1),(.nat .i64 1)] 2 3 false 0 0 0)
  .lf) (.row [(.nat .i64 3)] 1 3 false 0 0 0) .lf)) (tn (.nd (.nd .lf (.row [(.nat .i64 1)] 1 3 false 0 0 0) .lf) (.row [(.nat .i64 1),(.nat .i64 2)]
  2 3 false 0 0 0) (.nd .lf (.row [(.sl k9 0 0 1 1),(.sl k10 0 0 2 2)] 2 34 false 0 0 0) (tr (tl (.nd .lf (.row [(.so k107 12 0 4 0),(.so k127 9 0 3
  0),(.so k151 12 0 4 0)] 3 141 true 3 0 0) .lf))))) (.nd (.nd (tl (tr (.nd .lf (.row [(.nat .i64 1)] 1 3 false 0 0 0) .lf))) (.row [(.sl k5 0 0 2
  2),(.sl k6 0 0 1 1)] 2 34 false 0 0 0) (tn (tr (.nd .lf (.row [(.sl k99 0 0 1 1),(.nat .i64 1),(.nat .i64 1),(.sl k108 0 0 1 1),(.nat .i64 2),(.nat
  .i64 0),(.sl k111 0 0 1 1),(.nat .i64 3),(.nat .i64 0),(.sl k5 0 0 2 2),(.nat .i64 3),(.nat .i64 2)] 12 143 true 0 0 0) .lf)) (tl (.nd .lf (.row
  [(.so k93 3 0 3 0),(.so k95 3 0 3 0),(.so k97 3 0 3 0),(.ref 0 k90)] 4 94 false 0 0 0) .lf)))) (.row [(.nat .i64 3)] 1 3 false 0 0 0) (tn (tr (tl
  (tl (.nd .lf (.row [(.sl k146 0 0 1 1),(.nat .i64 2),(.nat .i64 0),(.sl k152 0 0 1 1),(.nat .i64 1),(.nat .i64 1),(.sl k159 0 0 1 1),(.nat .i64
  3),(.nat .i64 0),(.sl k5 0 0 2 2),(.nat .i64 3),(.nat .i64 2)] 12 143 true 0 0 0) .lf)))) (tn (tr (.nd .lf (.row [(.nat .i64 3)] 1 3 false 0 0 0)
  .lf)) (tn (.nd .lf (.row [(.bool true),(.bool true),(.bool true)] 3 4 true 0 0 0) .lf) (.nd .lf (.row [(.sl k122 0 0 1 1),(.nat .i64 3),(.nat .i64
  0),(.sl k132 0 0 1 1),(.nat .i64 1),(.nat .i64 1),(.sl k5 0 0 2 2),(.nat .i64 3),(.nat .i64 2)] 9 143 true 0 0 0) .lf))))))), k412⟩
def a0_213 : S := ⟨(tn (tn (tn (.nd .lf (.row [(.nat .i64 1),(.nat .i64 2)] 2 3 false 0 0 0) .lf) (.nd .lf (.row [(.sl k7 0 0 1 1),(.sl k8 0 0 2 2)] 2
  34 false 0 0 0) (tl (tr (.nd .lf (.row [(.nat .i64 2)] 1 3 false 0 0 0) .lf))))) (.nd (.nd .lf (.row [(.nat .i64 1),(.nat .i64 1)] 2 3 false 0 0 0)
  .lf) (.row [(.nat .i64 3)] 1 3 false 0 0 0) .lf)) (tn (.nd (.nd .lf (.row [(.nat .i64 1)] 1 3 false 0 0 0) .lf) (.row [(.nat .i64 1),(.nat .i64 2)]
  2 3 false 0 0 0) (.nd .lf (.row [(.sl k9 0 0 1 1),(.sl k10 0 0 2 2)] 2 34 false 0 0 0) (tr (tl (.nd .lf (.row [(.so k107 12 0 4 0),(.so k127 9 0 3
  0),(.so k151 12 0 4 0)] 3 141 true 3 0 0) .lf))))) (.nd (.nd (tl (tr (.nd .lf (.row [(.nat .i64 1)] 1 3 false 0 0 0) .lf))) (.row [(.sl k5 0 0 2
  2),(.sl k6 0 0 1 1)] 2 34 false 0 0 0) (tn (tr (.nd .lf (.row [(.sl k99 0 0 1 1),(.nat .i64 1),(.nat .i64 1),(.sl k108 0 0 1 1),(.nat .i64 2),(.nat
  .i64 0),(.sl k111 0 0 1 1),(.nat .i64 3),(.nat .i64 0),(.sl k5 0 0 2 2),(.nat .i64 3),(.nat .i64 2)] 12 143 true 0 0 0) .lf)) (tl (.nd .lf (.row
  [(.so k93 3 0 3 0),(.so k95 3 0 3 0),(.so k97 3 0 3 0),(.ref 0 k90)] 4 94 false 0 0 0) .lf)))) (.row [(.nat .i64 3)] 1 3 false 0 0 0) (tn (tr (tl
  (tl (.nd .lf (.row [(.sl k146 0 0 1 1),(.nat .i64 2),(.nat .i64 0),(.sl k152 0 0 1 1),(.nat .i64 3),(.nat .i64 0),(.sl k157 0 0 1 1),(.nat .i64
  1),(.nat .i64 1),(.sl k5 0 0 2 2),(.nat .i64 3),(.nat .i64 2)] 12 143 true 0 0 0) .lf)))) (tn (tr (.nd .lf (.row [(.nat .i64 3)] 1 3 false 0 0 0)
  .lf)) (tn (.nd .lf (.row [(.bool true),(.bool true),(.bool true)] 3 4 true 0 0 0) .lf) (.nd .lf (.row [(.sl k122 0 0 1 1),(.nat .i64 3),(.nat .i64
  0),(.sl k132 0 0 1 1),(.nat .i64 1),(.nat .i64 1),(.sl k5 0 0 2 2),(.nat .i64 3),(.nat .i64 2)] 9 143 true 0 0 0) .lf))))))), k413⟩
def a0_214 : S := ⟨(tn (tn (tn (.nd .lf (.row [(.nat .i64 1),(.nat .i64 2)] 2 3 false 0 0 0) .lf) (.nd .lf (.row [(.sl k7 0 0 1 1),(.sl k8 0 0 2 2)] 2
  34 false 0 0 0) (tl (tr (.nd .lf (.row [(.nat .i64 2)] 1 3 false 0 0 0) .lf))))) (.nd (.nd .lf (.row [(.nat .i64 1),(.nat .i64 1)] 2 3 false 0 0 0)
  .lf) (.row [(.nat .i64 3)] 1 3 false 0 0 0) .lf)) (tn (.nd (.nd .lf (.row [(.nat .i64 1)] 1 3 false 0 0 0) .lf) (.row [(.nat .i64 1),(.nat .i64 2)]
  2 3 false 0 0 0) (.nd .lf (.row [(.sl k9 0 0 1 1),(.sl k10 0 0 2 2)] 2 34 false 0 0 0) (tr (tl (.nd .lf (.row [(.so k107 12 0 4 0),(.so k127 9 0 3
  0),(.so k151 12 0 4 0)] 3 141 true 3 0 0) .lf))))) (.nd (.nd (tl (tr (.nd .lf (.row [(.nat .i64 1)] 1 3 false 0 0 0) .lf))) (.row [(.sl k5 0 0 2
  2),(.sl k6 0 0 1 1)] 2 34 false 0 0 0) (tn (tr (.nd .lf (.row [(.sl k99 0 0 1 1),(.nat .i64 1),(.nat .i64 1),(.sl k108 0 0 1 1),(.nat .i64 2),(.nat
  .i64 0),(.sl k111 0 0 1 1),(.nat .i64 3),(.nat .i64 0),(.sl k5 0 0 2 2),(.nat .i64 3),(.nat .i64 2)] 12 143 true 0 0 0) .lf)) (tl (.nd .lf (.row
  [(.so k93 3 0 3 0),(.so k95 3 0 3 0),(.so k97 3 0 3 0),(.ref 0 k90)] 4 94 false 0 0 0) .lf)))) (.row [(.nat .i64 3)] 1 3 false 0 0 0) (tn (tr (tl
  (tl (.nd .lf (.row [(.sl k146 0 0 1 1),(.nat .i64 3),(.nat .i64 0),(.sl k152 0 0 1 1),(.nat .i64 1),(.nat .i64 1),(.sl k159 0 0 1 1),(.nat .i64
  2),(.nat .i64 0),(.sl k5 0 0 2 2),(.nat .i64 3),(.nat .i64 2)] 12 143 true 0 0 0) .lf)))) (tn (tr (.nd .lf (.row [(.nat .i64 3)] 1 3 false 0 0 0)
  .lf)) (tn (.nd .lf (.row [(.bool true),(.bool true),(.bool true)] 3 4 true 0 0 0) .lf) (.nd .lf (.row [(.sl k122 0 0 1 1),(.nat .i64 3),(.nat .i64
  0),(.sl k132 0 0 1 1),(.nat .i64 1),(.nat .i64 1),(.sl k5 0 0 2 2),(.nat .i64 3),(.nat .i64 2)] 9 143 true 0 0 0) .lf))))))), k414⟩
def a0_215 : S := ⟨(tn (tn (tn (.nd .lf (.row [(.nat .i64 1),(.nat .i64 2)] 2 3 false 0 0 0) .lf) (.nd .lf (.row [(.sl k7 0 0 1 1),(.sl k8 0 0 2 2)] 2
  34 false 0 0 0) .lf)) (.nd (.nd .lf (.row [(.nat .i64 1),(.nat .i64 1)] 2 3 false 0 0 0) (tl (tr (.nd .lf (.row [(.nat .i64 1)] 1 3 false 0 0 0)
  .lf)))) (.row [(.nat .i64 3)] 1 3 false 0 0 0) (tl (tl (tr (.nd .lf (.row [(.sl k99 0 0 1 1),(.nat .i64 3),(.nat .i64 0),(.sl k103 0 0 1 1),(.nat
  .i64 2),(.nat .i64 0),(.sl k106 0 0 1 1),(.nat .i64 1),(.nat .i64 1),(.sl k5 0 0 2 2),(.nat .i64 3),(.nat .i64 2)] 12 143 true 0 0 0) .lf)))))) (tn
  (.nd (.nd .lf (.row [(.nat .i64 1)] 1 3 false 0 0 0) .lf) (.row [(.nat .i64 1),(.nat .i64 2)] 2 3 false 0 0 0) (.nd .lf (.row [(.sl k9 0 0 1 1),(.sl
  k10 0 0 2 2)] 2 34 false 0 0 0) (tr (tl (.nd .lf (.row [(.so k102 12 0 4 0),(.so k127 9 0 3 0),(.so k151 12 0 4 0)] 3 141 true 3 0 0) .lf))))) (.nd
  (.nd (tl (tr (.nd .lf (.row [(.nat .i64 3)] 1 3 false 0 0 0) .lf))) (.row [(.sl k5 0 0 2 2),(.sl k6 0 0 1 1)] 2 34 false 0 0 0) (tr (tl (.nd .lf
  (.row [(.so k93 3 0 3 0),(.so k95 3 0 3 0),(.so k97 3 0 3 0),(.ref 0 k90)] 4 94 false 0 0 0) .lf)))) (.row [(.nat .i64 3)] 1 3 false 0 0 0) (tn (tn
  (tr (.nd .lf (.row [(.nat .i64 2)] 1 3 false 0 0 0) .lf)) (tl (tl (.nd .lf (.row [(.sl k146 0 0 1 1),(.nat .i64 3),(.nat .i64 0),(.sl k152 0 0 1
  1),(.nat .i64 2),(.nat .i64 0),(.sl k157 0 0 1 1),(.nat .i64 1),(.nat .i64 1),(.sl k5 0 0 2 2),(.nat .i64 3),(.nat .i64 2)] 12 143 true 0 0 0)
  .lf)))) (tr (tn (.nd .lf (.row [(.bool true),(.bool true),(.bool true)] 3 4 true 0 0 0) .lf) (.nd .lf (.row [(.sl k122 0 0 1 1),(.nat .i64 3),(.nat
  .i64 0),(.sl k132 0 0 1 1),(.nat .i64 1),(.nat .i64 1),(.sl k5 0 0 2 2),(.nat .i64 3),(.nat .i64 2)] 9 143 true 0 0 0) .lf))))))), k415⟩
def z0 : S := ⟨(tn (tn (tn (.nd .lf (.row [(.nat .i64 1),(.nat .i64 2)] 2 3 false 0 0 0) .lf) (.nd .lf (.row [(.sl k7 0 0 1 1),(.sl k8 0 0 2 2)] 2 34
  false 0 0 0) .lf)) (.nd (.nd .lf (.row [(.nat .i64 1),(.nat .i64 1)] 2 3 false 0 0 0) .lf) (.row [(.nat .i64 3)] 1 3 false 0 0 0) .lf)) (tn (.nd
  (.nd .lf (.row [(.nat .i64 1)] 1 3 false 0 0 0) .lf) (.row [(.nat .i64 1),(.nat .i64 2)] 2 3 false 0 0 0) (.nd .lf (.row [(.sl k9 0 0 1 1),(.sl k10
  0 0 2 2)] 2 34 false 0 0 0) .lf)) (.nd (.nd .lf (.row [(.sl k5 0 0 2 2),(.sl k6 0 0 1 1)] 2 34 false 0 0 0) .lf) (.row [(.nat .i64 3)] 1 3 false 0 0
  0) .lf))), k1000⟩
def i0_0 : List HF := [⟨30, [(.ptr k91 0 0)], a0_0, .ret (.bool false) z0⟩, ⟨30, [(.ptr k91 0 0)], a0_1, .ret (.bool false) z0⟩, ⟨30, [(.ptr k91 0
  0)], a0_2, .ret (.bool false) z0⟩, ⟨30, [(.ptr k91 0 0)], a0_3, .ret (.bool false) z0⟩, ⟨30, [(.ptr k91 0 0)], a0_4, .ret (.bool false) z0⟩, ⟨30,
  [(.ptr k91 0 0)], a0_5, .ret (.bool false) z0⟩, ⟨30, [(.ptr k91 0 0)], a0_6, .ret (.bool false) z0⟩, ⟨30, [(.ptr k91 0 0)], a0_7, .ret (.bool false)
  z0⟩, ⟨30, [(.ptr k91 0 0)], a0_8, .ret (.bool false) z0⟩, ⟨30, [(.ptr k91 0 0)], a0_9, .ret (.bool false) z0⟩, ⟨30, [(.ptr k91 0 0)], a0_10, .ret
  (.bool false) z0⟩, ⟨30, [(.ptr k91 0 0)], a0_11, .ret (.bool false) z0⟩, ⟨30, [(.ptr k91 0 0)], a0_12, .ret (.bool false) z0⟩, ⟨30, [(.ptr k91 0
  0)], a0_13, .ret (.bool false) z0⟩, ⟨30, [(.ptr k91 0 0)], a0_14, .ret (.bool false) z0⟩, ⟨30, [(.ptr k91 0 0)], a0_15, .ret (.bool false) z0⟩, ⟨30,
  [(.ptr k91 0 0)], a0_16, .ret (.bool false) z0⟩, ⟨30, [(.ptr k91 0 0)], a0_17, .ret (.bool false) z0⟩, ⟨30, [(.ptr k91 0 0)], a0_18, .ret (.bool
  false) z0⟩]
def i0_1 : List HF := [⟨30, [(.ptr k91 0 0)], a0_19, .ret (.bool false) z0⟩, ⟨30, [(.ptr k91 0 0)], a0_20, .ret (.bool false) z0⟩, ⟨30, [(.ptr k91 0
  0)], a0_21, .ret (.bool false) z0⟩, ⟨30, [(.ptr k91 0 0)], a0_22, .ret (.bool false) z0⟩, ⟨30, [(.ptr k91 0 0)], a0_23, .ret (.bool false) z0⟩, ⟨30,
  [(.ptr k91 0 0)], a0_24, .ret (.bool false) z0⟩, ⟨30, [(.ptr k91 0 0)], a0_25, .ret (.bool false) z0⟩, ⟨30, [(.ptr k91 0 0)], a0_26, .ret (.bool
  false) z0⟩, ⟨30, [(.ptr k91 0 0)], a0_27, .ret (.bool false) z0⟩, ⟨30, [(.ptr k91 0 0)], a0_28, .ret (.bool false) z0⟩, ⟨30, [(.ptr k91 0 0)],
  a0_29, .ret (.bool false) z0⟩, ⟨30, [(.ptr k91 0 0)], a0_30, .ret (.bool false) z0⟩, ⟨30, [(.ptr k91 0 0)], a0_31, .ret (.bool false) z0⟩, ⟨30,
  [(.ptr k91 0 0)], a0_32, .ret (.bool false) z0⟩, ⟨30, [(.ptr k91 0 0)], a0_33, .ret (.bool false) z0⟩, ⟨30, [(.ptr k91 0 0)], a0_34, .ret (.bool
  false) z0⟩, ⟨30, [(.ptr k91 0 0)], a0_35, .ret (.bool false) z0⟩, ⟨30, [(.ptr k91 0 0)], a0_36, .ret (.bool false) z0⟩, ⟨30, [(.ptr k91 0 0)],
  a0_37, .ret (.bool false) z0⟩]
def i0_2 : List HF := [⟨30, [(.ptr k91 0 0)], a0_38, .ret (.bool false) z0⟩, ⟨30, [(.ptr k91 0 0)], a0_39, .ret (.bool false) z0⟩, ⟨30, [(.ptr k91 0
  0)], a0_40, .ret (.bool false) z0⟩, ⟨30, [(.ptr k91 0 0)], a0_41, .ret (.bool false) z0⟩, ⟨30, [(.ptr k91 0 0)], a0_42, .ret (.bool false) z0⟩, ⟨30,
  [(.ptr k91 0 0)], a0_43, .ret (.bool false) z0⟩, ⟨30, [(.ptr k91 0 0)], a0_44, .ret (.bool false) z0⟩, ⟨30, [(.ptr k91 0 0)], a0_45, .ret (.bool
  false) z0⟩, ⟨30, [(.ptr k91 0 0)], a0_46, .ret (.bool false) z0⟩, ⟨30, [(.ptr k91 0 0)], a0_47, .ret (.bool false) z0⟩, ⟨30, [(.ptr k91 0 0)],
  a0_48, .ret (.bool false) z0⟩, ⟨30, [(.ptr k91 0 0)], a0_49, .ret (.bool false) z0⟩, ⟨30, [(.ptr k91 0 0)], a0_50, .ret (.bool false) z0⟩, ⟨30,
  [(.ptr k91 0 0)], a0_51, .ret (.bool false) z0⟩, ⟨30, [(.ptr k91 0 0)], a0_52, .ret (.bool false) z0⟩, ⟨30, [(.ptr k91 0 0)], a0_53, .ret (.bool
  false) z0⟩, ⟨30, [(.ptr k91 0 0)], a0_54, .ret (.bool false) z0⟩, ⟨30, [(.ptr k91 0 0)], a0_55, .ret (.bool false) z0⟩, ⟨30, [(.ptr k91 0 0)],
  a0_56, .ret (.bool false) z0⟩]
def i0_3 : List HF := [⟨30, [(.ptr k91 0 0)], a0_57, .ret (.bool false) z0⟩, ⟨30, [(.ptr k91 0 0)], a0_58, .ret (.bool false) z0⟩, ⟨30, [(.ptr k91 0
  0)], a0_59, .ret (.bool false) z0⟩, ⟨30, [(.ptr k91 0 0)], a0_60, .ret (.bool false) z0⟩, ⟨30, [(.ptr k91 0 0)], a0_61, .ret (.bool false) z0⟩, ⟨30,
  [(.ptr k91 0 0)], a0_62, .ret (.bool false) z0⟩, ⟨30, [(.ptr k91 0 0)], a0_63, .ret (.bool false) z0⟩, ⟨30, [(.ptr k91 0 0)], a0_64, .ret (.bool
  false) z0⟩, ⟨30, [(.ptr k91 0 0)], a0_65, .ret (.bool false) z0⟩, ⟨30, [(.ptr k91 0 0)], a0_66, .ret (.bool false) z0⟩, ⟨30, [(.ptr k91 0 0)],
  a0_67, .ret (.bool false) z0⟩, ⟨30, [(.ptr k91 0 0)], a0_68, .ret (.bool false) z0⟩, ⟨30, [(.ptr k91 0 0)], a0_69, .ret (.bool false) z0⟩, ⟨30,
  [(.ptr k91 0 0)], a0_70, .ret (.bool false) z0⟩, ⟨30, [(.ptr k91 0 0)], a0_71, .ret (.bool false) z0⟩, ⟨30, [(.ptr k91 0 0)], a0_72, .ret (.bool
  false) z0⟩, ⟨30, [(.ptr k91 0 0)], a0_73, .ret (.bool false) z0⟩, ⟨30, [(.ptr k91 0 0)], a0_74, .ret (.bool false) z0⟩, ⟨30, [(.ptr k91 0 0)],
  a0_75, .ret (.bool false) z0⟩]
def i0_4 : List HF := [⟨30, [(.ptr k91 0 0)], a0_76, .ret (.bool false) z0⟩, ⟨30, [(.ptr k91 0 0)], a0_77, .ret (.bool false) z0⟩, ⟨30, [(.ptr k91 0
  0)], a0_78, .ret (.bool false) z0⟩, ⟨30, [(.ptr k91 0 0)], a0_79, .ret (.bool false) z0⟩, ⟨30, [(.ptr k91 0 0)], a0_80, .ret (.bool false) z0⟩, ⟨30,
  [(.ptr k91 0 0)], a0_81, .ret (.bool false) z0⟩, ⟨30, [(.ptr k91 0 0)], a0_82, .ret (.bool false) z0⟩, ⟨30, [(.ptr k91 0 0)], a0_83, .ret (.bool
  false) z0⟩, ⟨30, [(.ptr k91 0 0)], a0_84, .ret (.bool false) z0⟩, ⟨30, [(.ptr k91 0 0)], a0_85, .ret (.bool false) z0⟩, ⟨30, [(.ptr k91 0 0)],
  a0_86, .ret (.bool false) z0⟩, ⟨30, [(.ptr k91 0 0)], a0_87, .ret (.bool false) z0⟩, ⟨30, [(.ptr k91 0 0)], a0_88, .ret (.bool false) z0⟩, ⟨30,
  [(.ptr k91 0 0)], a0_89, .ret (.bool false) z0⟩, ⟨30, [(.ptr k91 0 0)], a0_90, .ret (.bool false) z0⟩, ⟨30, [(.ptr k91 0 0)], a0_91, .ret (.bool
  false) z0⟩, ⟨30, [(.ptr k91 0 0)], a0_92, .ret (.bool false) z0⟩, ⟨30, [(.ptr k91 0 0)], a0_93, .ret (.bool false) z0⟩, ⟨30, [(.ptr k91 0 0)],
  a0_94, .ret (.bool false) z0⟩]
def i0_5 : List HF := [⟨30, [(.ptr k91 0 0)], a0_95, .ret (.bool false) z0⟩, ⟨30, [(.ptr k91 0 0)], a0_96, .ret (.bool false) z0⟩, ⟨30, [(.ptr k91 0
  0)], a0_97, .ret (.bool false) z0⟩, ⟨30, [(.ptr k91 0 0)], a0_98, .ret (.bool false) z0⟩, ⟨30, [(.ptr k91 0 0)], a0_99, .ret (.bool false) z0⟩, ⟨30,
  [(.ptr k91 0 0)], a0_100, .ret (.bool false) z0⟩, ⟨30, [(.ptr k91 0 0)], a0_101, .ret (.bool false) z0⟩, ⟨30, [(.ptr k91 0 0)], a0_102, .ret (.bool
  false) z0⟩, ⟨30, [(.ptr k91 0 0)], a0_103, .ret (.bool false) z0⟩, ⟨30, [(.ptr k91 0 0)], a0_104, .ret (.bool false) z0⟩, ⟨30, [(.ptr k91 0 0)],
  a0_105, .ret (.bool false) z0⟩, ⟨30, [(.ptr k91 0 0)], a0_106, .ret (.bool false) z0⟩, ⟨30, [(.ptr k91 0 0)], a0_107, .ret (.bool false) z0⟩, ⟨30,
  [(.ptr k91 0 0)], a0_108, .ret (.bool false) z0⟩, ⟨30, [(.ptr k91 0 0)], a0_109, .ret (.bool false) z0⟩, ⟨30, [(.ptr k91 0 0)], a0_110, .ret (.bool
  false) z0⟩, ⟨30, [(.ptr k91 0 0)], a0_111, .ret (.bool false) z0⟩, ⟨30, [(.ptr k91 0 0)], a0_112, .ret (.bool false) z0⟩, ⟨30, [(.ptr k91 0 0)],
  a0_113, .ret (.bool false) z0⟩]
def i0_6 : List HF := [⟨30, [(.ptr k91 0 0)], a0_114, .ret (.bool false) z0⟩, ⟨30, [(.ptr k91 0 0)], a0_115, .ret (.bool false) z0⟩, ⟨30, [(.ptr k91 0
  0)], a0_116, .ret (.bool false) z0⟩, ⟨30, [(.ptr k91 0 0)], a0_117, .ret (.bool false) z0⟩, ⟨30, [(.ptr k91 0 0)], a0_118, .ret (.bool false) z0⟩,
  ⟨30, [(.ptr k91 0 0)], a0_119, .ret (.bool false) z0⟩, ⟨30, [(.ptr k91 0 0)], a0_120, .ret (.bool false) z0⟩, ⟨30, [(.ptr k91 0 0)], a0_121, .ret
  (.bool false) z0⟩, ⟨30, [(.ptr k91 0 0)], a0_122, .ret (.bool false) z0⟩, ⟨30, [(.ptr k91 0 0)], a0_123, .ret (.bool false) z0⟩, ⟨30, [(.ptr k91 0
  0)], a0_124, .ret (.bool false) z0⟩, ⟨30, [(.ptr k91 0 0)], a0_125, .ret (.bool false) z0⟩, ⟨30, [(.ptr k91 0 0)], a0_126, .ret (.bool false) z0⟩,
  ⟨30, [(.ptr k91 0 0)], a0_127, .ret (.bool false) z0⟩, ⟨30, [(.ptr k91 0 0)], a0_128, .ret (.bool false) z0⟩, ⟨30, [(.ptr k91 0 0)], a0_129, .ret
  (.bool false) z0⟩, ⟨30, [(.ptr k91 0 0)], a0_130, .ret (.bool false) z0⟩, ⟨30, [(.ptr k91 0 0)], a0_131, .ret (.bool false) z0⟩, ⟨30, [(.ptr k91 0
  0)], a0_132, .ret (.bool false) z0⟩]
def i0_7 : List HF := [⟨30, [(.ptr k91 0 0)], a0_133, .ret (.bool false) z0⟩, ⟨30, [(.ptr k91 0 0)], a0_134, .ret (.bool false) z0⟩, ⟨30, [(.ptr k91 0
  0)], a0_135, .ret (.bool false) z0⟩, ⟨30, [(.ptr k91 0 0)], a0_136, .ret (.bool false) z0⟩, ⟨30, [(.ptr k91 0 0)], a0_137, .ret (.bool false) z0⟩,
  ⟨30, [(.ptr k91 0 0)], a0_138, .ret (.bool false) z0⟩, ⟨30, [(.ptr k91 0 0)], a0_139, .ret (.bool false) z0⟩, ⟨30, [(.ptr k91 0 0)], a0_140, .ret
  (.bool false) z0⟩, ⟨30, [(.ptr k91 0 0)], a0_141, .ret (.bool false) z0⟩, ⟨30, [(.ptr k91 0 0)], a0_142, .ret (.bool false) z0⟩, ⟨30, [(.ptr k91 0
  0)], a0_143, .ret (.bool false) z0⟩, ⟨30, [(.ptr k91 0 0)], a0_144, .ret (.bool false) z0⟩, ⟨30, [(.ptr k91 0 0)], a0_145, .ret (.bool false) z0⟩,
  ⟨30, [(.ptr k91 0 0)], a0_146, .ret (.bool false) z0⟩, ⟨30, [(.ptr k91 0 0)], a0_147, .ret (.bool false) z0⟩, ⟨30, [(.ptr k91 0 0)], a0_148, .ret
  (.bool false) z0⟩, ⟨30, [(.ptr k91 0 0)], a0_149, .ret (.bool false) z0⟩, ⟨30, [(.ptr k91 0 0)], a0_150, .ret (.bool false) z0⟩, ⟨30, [(.ptr k91 0
  0)], a0_151, .ret (.bool false) z0⟩]
def i0_8 : List HF := [⟨30, [(.ptr k91 0 0)], a0_152, .ret (.bool false) z0⟩, ⟨30, [(.ptr k91 0 0)], a0_153, .ret (.bool false) z0⟩, ⟨30, [(.ptr k91 0
  0)], a0_154, .ret (.bool false) z0⟩, ⟨30, [(.ptr k91 0 0)], a0_155, .ret (.bool false) z0⟩, ⟨30, [(.ptr k91 0 0)], a0_156, .ret (.bool false) z0⟩,
  ⟨30, [(.ptr k91 0 0)], a0_157, .ret (.bool false) z0⟩, ⟨30, [(.ptr k91 0 0)], a0_158, .ret (.bool false) z0⟩, ⟨30, [(.ptr k91 0 0)], a0_159, .ret
  (.bool false) z0⟩, ⟨30, [(.ptr k91 0 0)], a0_160, .ret (.bool false) z0⟩, ⟨30, [(.ptr k91 0 0)], a0_161, .ret (.bool false) z0⟩, ⟨30, [(.ptr k91 0
  0)], a0_162, .ret (.bool false) z0⟩, ⟨30, [(.ptr k91 0 0)], a0_163, .ret (.bool false) z0⟩, ⟨30, [(.ptr k91 0 0)], a0_164, .ret (.bool false) z0⟩,
  ⟨30, [(.ptr k91 0 0)], a0_165, .ret (.bool false) z0⟩, ⟨30, [(.ptr k91 0 0)], a0_166, .ret (.bool false) z0⟩, ⟨30, [(.ptr k91 0 0)], a0_167, .ret
  (.bool false) z0⟩, ⟨30, [(.ptr k91 0 0)], a0_168, .ret (.bool false) z0⟩, ⟨30, [(.ptr k91 0 0)], a0_169, .ret (.bool false) z0⟩, ⟨30, [(.ptr k91 0
  0)], a0_170, .ret (.bool false) z0⟩]
def i0_9 : List HF := [⟨30, [(.ptr k91 0 0)], a0_171, .ret (.bool false) z0⟩, ⟨30, [(.ptr k91 0 0)], a0_172, .ret (.bool false) z0⟩, ⟨30, [(.ptr k91 0
  0)], a0_173, .ret (.bool false) z0⟩, ⟨30, [(.ptr k91 0 0)], a0_174, .ret (.bool false) z0⟩, ⟨30, [(.ptr k91 0 0)], a0_175, .ret (.bool false) z0⟩,
  ⟨30, [(.ptr k91 0 0)], a0_176, .ret (.bool false) z0⟩, ⟨30, [(.ptr k91 0 0)], a0_177, .ret (.bool false) z0⟩, ⟨30, [(.ptr k91 0 0)], a0_178, .ret
  (.bool false) z0⟩, ⟨30, [(.ptr k91 0 0)], a0_179, .ret (.bool false) z0⟩, ⟨30, [(.ptr k91 0 0)], a0_180, .ret (.bool false) z0⟩, ⟨30, [(.ptr k91 0
  0)], a0_181, .ret (.bool false) z0⟩, ⟨30, [(.ptr k91 0 0)], a0_182, .ret (.bool false) z0⟩, ⟨30, [(.ptr k91 0 0)], a0_183, .ret (.bool false) z0⟩,
  ⟨30, [(.ptr k91 0 0)], a0_184, .ret (.bool false) z0⟩, ⟨30, [(.ptr k91 0 0)], a0_185, .ret (.bool false) z0⟩, ⟨30, [(.ptr k91 0 0)], a0_186, .ret
  (.bool false) z0⟩, ⟨30, [(.ptr k91 0 0)], a0_187, .ret (.bool false) z0⟩, ⟨30, [(.ptr k91 0 0)], a0_188, .ret (.bool false) z0⟩, ⟨30, [(.ptr k91 0
  0)], a0_189, .ret (.bool false) z0⟩]
def i0_10 : List HF := [⟨30, [(.ptr k91 0 0)], a0_190, .ret (.bool false) z0⟩, ⟨30, [(.ptr k91 0 0)], a0_191, .ret (.bool false) z0⟩, ⟨30, [(.ptr k91
  0 0)], a0_192, .ret (.bool false) z0⟩, ⟨30, [(.ptr k91 0 0)], a0_193, .ret (.bool false) z0⟩, ⟨30, [(.ptr k91 0 0)], a0_194, .ret (.bool false) z0⟩,
  ⟨30, [(.ptr k91 0 0)], a0_195, .ret (.bool false) z0⟩, ⟨30, [(.ptr k91 0 0)], a0_196, .ret (.bool false) z0⟩, ⟨30, [(.ptr k91 0 0)], a0_197, .ret
  (.bool false) z0⟩, ⟨30, [(.ptr k91 0 0)], a0_198, .ret (.bool false) z0⟩, ⟨30, [(.ptr k91 0 0)], a0_199, .ret (.bool false) z0⟩, ⟨30, [(.ptr k91 0
  0)], a0_200, .ret (.bool false) z0⟩, ⟨30, [(.ptr k91 0 0)], a0_201, .ret (.bool false) z0⟩, ⟨30, [(.ptr k91 0 0)], a0_202, .ret (.bool false) z0⟩,
  ⟨30, [(.ptr k91 0 0)], a0_203, .ret (.bool false) z0⟩, ⟨30, [(.ptr k91 0 0)], a0_204, .ret (.bool false) z0⟩, ⟨30, [(.ptr k91 0 0)], a0_205, .ret
  (.bool false) z0⟩, ⟨30, [(.ptr k91 0 0)], a0_206, .ret (.bool false) z0⟩, ⟨30, [(.ptr k91 0 0)], a0_207, .ret (.bool false) z0⟩, ⟨30, [(.ptr k91 0
  0)], a0_208, .ret (.bool false) z0⟩]
def i0_11 : List HF := [⟨30, [(.ptr k91 0 0)], a0_209, .ret (.bool false) z0⟩, ⟨30, [(.ptr k91 0 0)], a0_210, .ret (.bool false) z0⟩, ⟨30, [(.ptr k91
  0 0)], a0_211, .ret (.bool false) z0⟩, ⟨30, [(.ptr k91 0 0)], a0_212, .ret (.bool false) z0⟩, ⟨30, [(.ptr k91 0 0)], a0_213, .ret (.bool false) z0⟩,
  ⟨30, [(.ptr k91 0 0)], a0_214, .ret (.bool false) z0⟩, ⟨30, [(.ptr k91 0 0)], a0_215, .ret (.bool false) z0⟩]
noncomputable def x0 : F := List.rec (motive := fun _ => F) (.ret (.ptr k91 0 0) a0_215) (fun s _ ih => .alt (.ret (.ptr k91 0 0) s) ih) [
a0_0, a0_1, a0_2, a0_3, a0_4, a0_5, a0_6, a0_7, a0_8, a0_9, a0_10, a0_11, a0_12, a0_13, a0_14, a0_15, a0_16, a0_17, a0_18, a0_19, a0_20, a0_21, a0_22,
  a0_23, a0_24, a0_25, a0_26, a0_27, a0_28, a0_29, a0_30, a0_31, a0_32, a0_33, a0_34, a0_35, a0_36, a0_37, a0_38, a0_39, a0_40, a0_41, a0_42, a0_43,
  a0_44, a0_45, a0_46, a0_47, a0_48, a0_49, a0_50, a0_51, a0_52, a0_53, a0_54, a0_55, a0_56, a0_57, a0_58, a0_59, a0_60, a0_61, a0_62, a0_63, a0_64,
  a0_65, a0_66, a0_67, a0_68, a0_69, a0_70, a0_71, a0_72, a0_73, a0_74, a0_75, a0_76, a0_77, a0_78, a0_79, a0_80, a0_81, a0_82, a0_83, a0_84, a0_85,
  a0_86, a0_87, a0_88, a0_89, a0_90, a0_91, a0_92, a0_93, a0_94, a0_95, a0_96, a0_97, a0_98, a0_99, a0_100, a0_101, a0_102, a0_103, a0_104, a0_105,
  a0_106, a0_107, a0_108, a0_109, a0_110, a0_111, a0_112, a0_113, a0_114, a0_115, a0_116, a0_117, a0_118, a0_119, a0_120, a0_121, a0_122, a0_123,
  a0_124, a0_125, a0_126, a0_127, a0_128, a0_129, a0_130, a0_131, a0_132, a0_133, a0_134, a0_135, a0_136, a0_137, a0_138, a0_139, a0_140, a0_141,
  a0_142, a0_143, a0_144, a0_145, a0_146, a0_147, a0_148, a0_149, a0_150, a0_151, a0_152, a0_153, a0_154, a0_155, a0_156, a0_157, a0_158, a0_159,
  a0_160, a0_161, a0_162, a0_163, a0_164, a0_165, a0_166, a0_167, a0_168, a0_169, a0_170, a0_171, a0_172, a0_173, a0_174, a0_175, a0_176, a0_177,
  a0_178, a0_179, a0_180, a0_181, a0_182, a0_183, a0_184, a0_185, a0_186, a0_187, a0_188, a0_189, a0_190, a0_191, a0_192, a0_193, a0_194, a0_195,
  a0_196, a0_197, a0_198, a0_199, a0_200, a0_201, a0_202, a0_203, a0_204, a0_205, a0_206, a0_207, a0_208, a0_209, a0_210, a0_211, a0_212, a0_213,
  a0_214]
noncomputable def b0 : HF := ⟨29, [(.sl k70 0 0 1 1),(.nat .i64 3)], ⟨(tn (tn (tn (.nd .lf (.row [(.nat .i64 1),(.nat .i64 2)] 2 3 false 0 0 0) .lf)
  (.nd .lf (.row [(.sl k7 0 0 1 1),(.sl k8 0 0 2 2)] 2 34 false 0 0 0) .lf)) (.nd (.nd .lf (.row [(.nat .i64 1),(.nat .i64 1)] 2 3 false 0 0 0) .lf)
  (.row [(.nat .i64 3)] 1 3 false 0 0 0) (tl (tl (tl (.nd .lf (.row [(.sl k5 0 0 2 2),(.sl k6 0 0 1 1)] 2 34 false 0 0 0) .lf)))))) (tn (.nd (.nd .lf
  (.row [(.nat .i64 1)] 1 3 false 0 0 0) .lf) (.row [(.nat .i64 1),(.nat .i64 2)] 2 3 false 0 0 0) (.nd .lf (.row [(.sl k9 0 0 1 1),(.sl k10 0 0 2 2)]
  2 34 false 0 0 0) .lf)) (.nd (.nd .lf (.row [(.sl k5 0 0 2 2),(.sl k6 0 0 1 1)] 2 34 false 0 0 0) .lf) (.row [(.nat .i64 3)] 1 3 false 0 0 0)
  .lf))), k78⟩, x0⟩
end Go.Proofs.YtmplkbipoacmmaaGreatDoor.translitKnown
