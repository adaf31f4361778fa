/- What the evaluator knows at some calls of the closed run of TranslitKnown. No statement of the seat stands here. No condition. By an AI agent. -/
import Derived.Test.YtmplkbipoacmmaaGreatDoorKnH
namespace Go.Proofs.YtmplkbipoacmmaaGreatDoor.translitKnown
open Go.Ev Go.RowKit
set_option maxRecDepth 100000
def a0_0 : S := ⟨(tn (tn (tn (.nd .lf (.row [(.nat .i64 1),(.nat .i64 2)] 2 3 false 0 0 0) .lf) (.nd .lf (.row [(.sl k7 0 0 1 1),(.sl k8 0 0 2 2)] 2
  34 false 0 0 0) .lf)) (.nd (.nd .lf (.row [(.nat .i64 1),(.nat .i64 1)] 2 3 false 0 0 0) (tl (tr (.nd .lf (.row [(.nat .i64 1)] 1 3 false 0 0 0)
  .lf)))) (.row [(.nat .i64 3)] 1 3 false 0 0 0) (tl (tl (tr (.nd .lf (.row [(.sl k99 0 0 1 1),(.nat .i64 3),(.nat .i64 0),(.sl k103 0 0 1 1),(.nat
  .i64 2),(.nat .i64 0),(.sl k106 0 0 1 1),(.nat .i64 1),(.nat .i64 1),(.sl k5 0 0 2 2),(.nat .i64 3),(.nat .i64 2)] 12 143 true 0 0 0) .lf)))))) (tn
  (.nd (.nd .lf (.row [(.nat .i64 1)] 1 3 false 0 0 0) .lf) (.row [(.nat .i64 1),(.nat .i64 2)] 2 3 false 0 0 0) (.nd .lf (.row [(.sl k9 0 0 1 1),(.sl
  k10 0 0 2 2)] 2 34 false 0 0 0) (tr (tl (.nd .lf (.row [(.so k102 12 0 4 0),(.so k127 9 0 3 0),(.so k151 12 0 4 0)] 3 141 true 3 0 0) .lf))))) (.nd
  (.nd (tl (tr (.nd .lf (.row [(.nat .i64 3)] 1 3 false 0 0 0) .lf))) (.row [(.sl k5 0 0 2 2),(.sl k6 0 0 1 1)] 2 34 false 0 0 0) (tr (tl (.nd .lf
  (.row [(.so k93 3 0 3 0),(.so k95 3 0 3 0),(.so k97 3 0 3 0),(.ref 0 k90)] 4 94 false 0 0 0) .lf)))) (.row [(.nat .i64 3)] 1 3 false 0 0 0) (tn (tn
  (tr (.nd .lf (.row [(.nat .i64 2)] 1 3 false 0 0 0) .lf)) (tl (tl (.nd .lf (.row [(.sl k146 0 0 1 1),(.nat .i64 3),(.nat .i64 0),(.sl k152 0 0 1
  1),(.nat .i64 1),(.nat .i64 1),(.sl k159 0 0 1 1),(.nat .i64 2),(.nat .i64 0),(.sl k5 0 0 2 2),(.nat .i64 3),(.nat .i64 2)] 12 143 true 0 0 0)
  .lf)))) (tr (tn (.nd .lf (.row [(.bool true),(.bool true),(.bool true)] 3 4 true 0 0 0) .lf) (.nd .lf (.row [(.sl k122 0 0 1 1),(.nat .i64 3),(.nat
  .i64 0),(.sl k132 0 0 1 1),(.nat .i64 1),(.nat .i64 1),(.sl k5 0 0 2 2),(.nat .i64 3),(.nat .i64 2)] 9 143 true 0 0 0) .lf))))))), k200⟩
def a0_1 : S := ⟨(tn (tn (tn (.nd .lf (.row [(.nat .i64 1),(.nat .i64 2)] 2 3 false 0 0 0) .lf) (.nd .lf (.row [(.sl k7 0 0 1 1),(.sl k8 0 0 2 2)] 2
  34 false 0 0 0) .lf)) (.nd (.nd .lf (.row [(.nat .i64 1),(.nat .i64 1)] 2 3 false 0 0 0) (tl (tr (.nd .lf (.row [(.nat .i64 1)] 1 3 false 0 0 0)
  .lf)))) (.row [(.nat .i64 3)] 1 3 false 0 0 0) (tl (tl (tr (.nd .lf (.row [(.sl k99 0 0 1 1),(.nat .i64 3),(.nat .i64 0),(.sl k103 0 0 1 1),(.nat
  .i64 2),(.nat .i64 0),(.sl k106 0 0 1 1),(.nat .i64 1),(.nat .i64 1),(.sl k5 0 0 2 2),(.nat .i64 3),(.nat .i64 2)] 12 143 true 0 0 0) .lf)))))) (tn
  (.nd (.nd .lf (.row [(.nat .i64 1)] 1 3 false 0 0 0) .lf) (.row [(.nat .i64 1),(.nat .i64 2)] 2 3 false 0 0 0) (.nd .lf (.row [(.sl k9 0 0 1 1),(.sl
  k10 0 0 2 2)] 2 34 false 0 0 0) (tr (tl (.nd .lf (.row [(.so k102 12 0 4 0),(.so k127 9 0 3 0),(.so k151 12 0 4 0)] 3 141 true 3 0 0) .lf))))) (.nd
  (.nd (tl (tr (.nd .lf (.row [(.nat .i64 3)] 1 3 false 0 0 0) .lf))) (.row [(.sl k5 0 0 2 2),(.sl k6 0 0 1 1)] 2 34 false 0 0 0) (tr (tl (.nd .lf
  (.row [(.so k93 3 0 3 0),(.so k95 3 0 3 0),(.so k97 3 0 3 0),(.ref 0 k90)] 4 94 false 0 0 0) .lf)))) (.row [(.nat .i64 3)] 1 3 false 0 0 0) (tn (tn
  (tr (.nd .lf (.row [(.nat .i64 2)] 1 3 false 0 0 0) .lf)) (tl (tl (.nd .lf (.row [(.sl k146 0 0 1 1),(.nat .i64 2),(.nat .i64 0),(.sl k152 0 0 1
  1),(.nat .i64 3),(.nat .i64 0),(.sl k157 0 0 1 1),(.nat .i64 1),(.nat .i64 1),(.sl k5 0 0 2 2),(.nat .i64 3),(.nat .i64 2)] 12 143 true 0 0 0)
  .lf)))) (tr (tn (.nd .lf (.row [(.bool true),(.bool true),(.bool true)] 3 4 true 0 0 0) .lf) (.nd .lf (.row [(.sl k122 0 0 1 1),(.nat .i64 3),(.nat
  .i64 0),(.sl k132 0 0 1 1),(.nat .i64 1),(.nat .i64 1),(.sl k5 0 0 2 2),(.nat .i64 3),(.nat .i64 2)] 9 143 true 0 0 0) .lf))))))), k201⟩
def a0_2 : S := ⟨(tn (tn (tn (.nd .lf (.row [(.nat .i64 1),(.nat .i64 2)] 2 3 false 0 0 0) .lf) (.nd .lf (.row [(.sl k7 0 0 1 1),(.sl k8 0 0 2 2)] 2
  34 false 0 0 0) .lf)) (.nd (.nd .lf (.row [(.nat .i64 1),(.nat .i64 1)] 2 3 false 0 0 0) (tl (tr (.nd .lf (.row [(.nat .i64 1)] 1 3 false 0 0 0)
  .lf)))) (.row [(.nat .i64 3)] 1 3 false 0 0 0) (tl (tl (tr (.nd .lf (.row [(.sl k99 0 0 1 1),(.nat .i64 3),(.nat .i64 0),(.sl k103 0 0 1 1),(.nat
  .i64 2),(.nat .i64 0),(.sl k106 0 0 1 1),(.nat .i64 1),(.nat .i64 1),(.sl k5 0 0 2 2),(.nat .i64 3),(.nat .i64 2)] 12 143 true 0 0 0) .lf)))))) (tn
  (.nd (.nd .lf (.row [(.nat .i64 1)] 1 3 false 0 0 0) .lf) (.row [(.nat .i64 1),(.nat .i64 2)] 2 3 false 0 0 0) (.nd .lf (.row [(.sl k9 0 0 1 1),(.sl
  k10 0 0 2 2)] 2 34 false 0 0 0) (tr (tl (.nd .lf (.row [(.so k102 12 0 4 0),(.so k127 9 0 3 0),(.so k151 12 0 4 0)] 3 141 true 3 0 0) .lf))))) (.nd
  (.nd (tl (tr (.nd .lf (.row [(.nat .i64 3)] 1 3 false 0 0 0) .lf))) (.row [(.sl k5 0 0 2 2),(.sl k6 0 0 1 1)] 2 34 false 0 0 0) (tr (tl (.nd .lf
  (.row [(.so k93 3 0 3 0),(.so k95 3 0 3 0),(.so k97 3 0 3 0),(.ref 0 k90)] 4 94 false 0 0 0) .lf)))) (.row [(.nat .i64 3)] 1 3 false 0 0 0) (tn (tn
  (tr (.nd .lf (.row [(.nat .i64 2)] 1 3 false 0 0 0) .lf)) (tl (tl (.nd .lf (.row [(.sl k146 0 0 1 1),(.nat .i64 2),(.nat .i64 0),(.sl k152 0 0 1
  1),(.nat .i64 1),(.nat .i64 1),(.sl k159 0 0 1 1),(.nat .i64 3),(.nat .i64 0),(.sl k5 0 0 2 2),(.nat .i64 3),(.nat .i64 2)] 12 143 true 0 0 0)
  .lf)))) (tr (tn (.nd .lf (.row [(.bool true),(.bool true),(.bool true)] 3 4 true 0 0 0) .lf) (.nd .lf (.row [(.sl k122 0 0 1 1),(.nat .i64 3),(.nat
  .i64 0),(.sl k132 0 0 1 1),(.nat .i64 1),(.nat .i64 1),(.sl k5 0 0 2 2),(.nat .i64 3),(.nat .i64 2)] 9 143 true 0 0 0) .lf))))))), k202⟩
def a0_3 : S := ⟨(tn (tn (tn (.nd .lf (.row [(.nat .i64 1),(.nat .i64 2)] 2 3 false 0 0 0) .lf) (.nd .lf (.row [(.sl k7 0 0 1 1),(.sl k8 0 0 2 2)] 2
  34 false 0 0 0) .lf)) (.nd (.nd .lf (.row [(.nat .i64 1),(.nat .i64 1)] 2 3 false 0 0 0) (tl (tr (.nd .lf (.row [(.nat .i64 1)] 1 3 false 0 0 0)
  .lf)))) (.row [(.nat .i64 3)] 1 3 false 0 0 0) (tl (tl (tr (.nd .lf (.row [(.sl k99 0 0 1 1),(.nat .i64 3),(.nat .i64 0),(.sl k103 0 0 1 1),(.nat
  .i64 2),(.nat .i64 0),(.sl k106 0 0 1 1),(.nat .i64 1),(.nat .i64 1),(.sl k5 0 0 2 2),(.nat .i64 3),(.nat .i64 2)] 12 143 true 0 0 0) .lf)))))) (tn
  (.nd (.nd .lf (.row [(.nat .i64 1)] 1 3 false 0 0 0) (tr (tl (tl (.nd .lf (.row [(.sl k146 0 0 1 1),(.nat .i64 1),(.nat .i64 1),(.sl k154 0 0 1
  1),(.nat .i64 3),(.nat .i64 0),(.sl k159 0 0 1 1),(.nat .i64 2),(.nat .i64 0),(.sl k5 0 0 2 2),(.nat .i64 3),(.nat .i64 2)] 12 143 true 0 0 0)
  .lf))))) (.row [(.nat .i64 1),(.nat .i64 2)] 2 3 false 0 0 0) (.nd .lf (.row [(.sl k9 0 0 1 1),(.sl k10 0 0 2 2)] 2 34 false 0 0 0) (tr (tl (.nd .lf
  (.row [(.so k102 12 0 4 0),(.so k127 9 0 3 0),(.so k153 12 0 4 0)] 3 141 true 3 0 0) .lf))))) (.nd (.nd (tl (tr (.nd .lf (.row [(.nat .i64 3)] 1 3
  false 0 0 0) .lf))) (.row [(.sl k5 0 0 2 2),(.sl k6 0 0 1 1)] 2 34 false 0 0 0) (tr (tl (.nd .lf (.row [(.so k93 3 0 3 0),(.so k95 3 0 3 0),(.so k97
  3 0 3 0),(.ref 0 k90)] 4 94 false 0 0 0) .lf)))) (.row [(.nat .i64 3)] 1 3 false 0 0 0) (tn (tl (tr (.nd .lf (.row [(.nat .i64 2)] 1 3 false 0 0 0)
  .lf))) (tr (tn (.nd .lf (.row [(.bool true),(.bool true),(.bool true)] 3 4 true 0 0 0) .lf) (.nd .lf (.row [(.sl k122 0 0 1 1),(.nat .i64 3),(.nat
  .i64 0),(.sl k132 0 0 1 1),(.nat .i64 1),(.nat .i64 1),(.sl k5 0 0 2 2),(.nat .i64 3),(.nat .i64 2)] 9 143 true 0 0 0) .lf))))))), k203⟩
def a0_4 : S := ⟨(tn (tn (tn (.nd .lf (.row [(.nat .i64 1),(.nat .i64 2)] 2 3 false 0 0 0) .lf) (.nd .lf (.row [(.sl k7 0 0 1 1),(.sl k8 0 0 2 2)] 2
  34 false 0 0 0) .lf)) (.nd (.nd .lf (.row [(.nat .i64 1),(.nat .i64 1)] 2 3 false 0 0 0) (tl (tr (.nd .lf (.row [(.nat .i64 1)] 1 3 false 0 0 0)
  .lf)))) (.row [(.nat .i64 3)] 1 3 false 0 0 0) (tl (tl (tr (.nd .lf (.row [(.sl k99 0 0 1 1),(.nat .i64 3),(.nat .i64 0),(.sl k103 0 0 1 1),(.nat
  .i64 2),(.nat .i64 0),(.sl k106 0 0 1 1),(.nat .i64 1),(.nat .i64 1),(.sl k5 0 0 2 2),(.nat .i64 3),(.nat .i64 2)] 12 143 true 0 0 0) .lf)))))) (tn
  (.nd (.nd .lf (.row [(.nat .i64 1)] 1 3 false 0 0 0) (tr (tl (tl (.nd .lf (.row [(.sl k146 0 0 1 1),(.nat .i64 1),(.nat .i64 1),(.sl k154 0 0 1
  1),(.nat .i64 2),(.nat .i64 0),(.sl k159 0 0 1 1),(.nat .i64 3),(.nat .i64 0),(.sl k5 0 0 2 2),(.nat .i64 3),(.nat .i64 2)] 12 143 true 0 0 0)
  .lf))))) (.row [(.nat .i64 1),(.nat .i64 2)] 2 3 false 0 0 0) (.nd .lf (.row [(.sl k9 0 0 1 1),(.sl k10 0 0 2 2)] 2 34 false 0 0 0) (tr (tl (.nd .lf
  (.row [(.so k102 12 0 4 0),(.so k127 9 0 3 0),(.so k153 12 0 4 0)] 3 141 true 3 0 0) .lf))))) (.nd (.nd (tl (tr (.nd .lf (.row [(.nat .i64 3)] 1 3
  false 0 0 0) .lf))) (.row [(.sl k5 0 0 2 2),(.sl k6 0 0 1 1)] 2 34 false 0 0 0) (tr (tl (.nd .lf (.row [(.so k93 3 0 3 0),(.so k95 3 0 3 0),(.so k97
  3 0 3 0),(.ref 0 k90)] 4 94 false 0 0 0) .lf)))) (.row [(.nat .i64 3)] 1 3 false 0 0 0) (tn (tl (tr (.nd .lf (.row [(.nat .i64 2)] 1 3 false 0 0 0)
  .lf))) (tr (tn (.nd .lf (.row [(.bool true),(.bool true),(.bool true)] 3 4 true 0 0 0) .lf) (.nd .lf (.row [(.sl k122 0 0 1 1),(.nat .i64 3),(.nat
  .i64 0),(.sl k132 0 0 1 1),(.nat .i64 1),(.nat .i64 1),(.sl k5 0 0 2 2),(.nat .i64 3),(.nat .i64 2)] 9 143 true 0 0 0) .lf))))))), k204⟩
def a0_5 : S := ⟨(tn (tn (tn (.nd .lf (.row [(.nat .i64 1),(.nat .i64 2)] 2 3 false 0 0 0) .lf) (.nd .lf (.row [(.sl k7 0 0 1 1),(.sl k8 0 0 2 2)] 2
  34 false 0 0 0) .lf)) (.nd (.nd .lf (.row [(.nat .i64 1),(.nat .i64 1)] 2 3 false 0 0 0) (tl (tr (.nd .lf (.row [(.nat .i64 1)] 1 3 false 0 0 0)
  .lf)))) (.row [(.nat .i64 3)] 1 3 false 0 0 0) (tl (tl (tr (.nd .lf (.row [(.sl k99 0 0 1 1),(.nat .i64 3),(.nat .i64 0),(.sl k103 0 0 1 1),(.nat
  .i64 2),(.nat .i64 0),(.sl k106 0 0 1 1),(.nat .i64 1),(.nat .i64 1),(.sl k5 0 0 2 2),(.nat .i64 3),(.nat .i64 2)] 12 143 true 0 0 0) .lf)))))) (tn
  (.nd (.nd .lf (.row [(.nat .i64 1)] 1 3 false 0 0 0) .lf) (.row [(.nat .i64 1),(.nat .i64 2)] 2 3 false 0 0 0) (.nd .lf (.row [(.sl k9 0 0 1 1),(.sl
  k10 0 0 2 2)] 2 34 false 0 0 0) (tr (tl (.nd .lf (.row [(.so k102 12 0 4 0),(.so k127 9 0 3 0),(.so k151 12 0 4 0)] 3 141 true 3 0 0) .lf))))) (.nd
  (.nd (tl (tr (.nd .lf (.row [(.nat .i64 3)] 1 3 false 0 0 0) .lf))) (.row [(.sl k5 0 0 2 2),(.sl k6 0 0 1 1)] 2 34 false 0 0 0) (tr (tl (.nd .lf
  (.row [(.so k93 3 0 3 0),(.so k95 3 0 3 0),(.so k97 3 0 3 0),(.ref 0 k90)] 4 94 false 0 0 0) .lf)))) (.row [(.nat .i64 3)] 1 3 false 0 0 0) (tn (tn
  (tr (.nd .lf (.row [(.nat .i64 2)] 1 3 false 0 0 0) .lf)) (tl (tl (.nd .lf (.row [(.sl k146 0 0 1 1),(.nat .i64 3),(.nat .i64 0),(.sl k152 0 0 1
  1),(.nat .i64 2),(.nat .i64 0),(.sl k157 0 0 1 1),(.nat .i64 1),(.nat .i64 1),(.sl k5 0 0 2 2),(.nat .i64 3),(.nat .i64 2)] 12 143 true 0 0 0)
  .lf)))) (tr (tn (.nd .lf (.row [(.bool true),(.bool true),(.bool true)] 3 4 true 0 0 0) .lf) (.nd .lf (.row [(.sl k122 0 0 1 1),(.nat .i64 3),(.nat
  .i64 0),(.sl k128 0 0 1 1),(.nat .i64 1),(.nat .i64 1),(.sl k5 0 0 2 2),(.nat .i64 3),(.nat .i64 2)] 9 143 true 0 0 0) .lf))))))), k205⟩
def a0_6 : S := ⟨(tn (tn (tn (.nd .lf (.row [(.nat .i64 1),(.nat .i64 2)] 2 3 false 0 0 0) .lf) (.nd .lf (.row [(.sl k7 0 0 1 1),(.sl k8 0 0 2 2)] 2
  34 false 0 0 0) .lf)) (.nd (.nd .lf (.row [(.nat .i64 1),(.nat .i64 1)] 2 3 false 0 0 0) (tl (tr (.nd .lf (.row [(.nat .i64 1)] 1 3 false 0 0 0)
  .lf)))) (.row [(.nat .i64 3)] 1 3 false 0 0 0) (tl (tl (tr (.nd .lf (.row [(.sl k99 0 0 1 1),(.nat .i64 3),(.nat .i64 0),(.sl k103 0 0 1 1),(.nat
  .i64 2),(.nat .i64 0),(.sl k106 0 0 1 1),(.nat .i64 1),(.nat .i64 1),(.sl k5 0 0 2 2),(.nat .i64 3),(.nat .i64 2)] 12 143 true 0 0 0) .lf)))))) (tn
  (.nd (.nd .lf (.row [(.nat .i64 1)] 1 3 false 0 0 0) (tr (tl (tl (.nd .lf (.row [(.sl k146 0 0 1 1),(.nat .i64 1),(.nat .i64 1),(.sl k154 0 0 1
  1),(.nat .i64 2),(.nat .i64 0),(.sl k159 0 0 1 1),(.nat .i64 3),(.nat .i64 0),(.sl k5 0 0 2 2),(.nat .i64 3),(.nat .i64 2)] 12 143 true 0 0 0)
  .lf))))) (.row [(.nat .i64 1),(.nat .i64 2)] 2 3 false 0 0 0) (.nd .lf (.row [(.sl k9 0 0 1 1),(.sl k10 0 0 2 2)] 2 34 false 0 0 0) (tr (tl (.nd .lf
  (.row [(.so k102 12 0 4 0),(.so k127 9 0 3 0),(.so k153 12 0 4 0)] 3 141 true 3 0 0) .lf))))) (.nd (.nd (tl (tr (.nd .lf (.row [(.nat .i64 3)] 1 3
  false 0 0 0) .lf))) (.row [(.sl k5 0 0 2 2),(.sl k6 0 0 1 1)] 2 34 false 0 0 0) (tr (tl (.nd .lf (.row [(.so k93 3 0 3 0),(.so k95 3 0 3 0),(.so k97
  3 0 3 0),(.ref 0 k90)] 4 94 false 0 0 0) .lf)))) (.row [(.nat .i64 3)] 1 3 false 0 0 0) (tn (tl (tr (.nd .lf (.row [(.nat .i64 2)] 1 3 false 0 0 0)
  .lf))) (tr (tn (.nd .lf (.row [(.bool true),(.bool true),(.bool true)] 3 4 true 0 0 0) .lf) (.nd .lf (.row [(.sl k122 0 0 1 1),(.nat .i64 3),(.nat
  .i64 0),(.sl k128 0 0 1 1),(.nat .i64 1),(.nat .i64 1),(.sl k5 0 0 2 2),(.nat .i64 3),(.nat .i64 2)] 9 143 true 0 0 0) .lf))))))), k206⟩
def a0_7 : S := ⟨(tn (tn (tn (.nd .lf (.row [(.nat .i64 1),(.nat .i64 2)] 2 3 false 0 0 0) .lf) (.nd .lf (.row [(.sl k7 0 0 1 1),(.sl k8 0 0 2 2)] 2
  34 false 0 0 0) .lf)) (.nd (.nd .lf (.row [(.nat .i64 1),(.nat .i64 1)] 2 3 false 0 0 0) (tl (tr (.nd .lf (.row [(.nat .i64 1)] 1 3 false 0 0 0)
  .lf)))) (.row [(.nat .i64 3)] 1 3 false 0 0 0) (tl (tl (tr (.nd .lf (.row [(.sl k99 0 0 1 1),(.nat .i64 3),(.nat .i64 0),(.sl k103 0 0 1 1),(.nat
  .i64 2),(.nat .i64 0),(.sl k106 0 0 1 1),(.nat .i64 1),(.nat .i64 1),(.sl k5 0 0 2 2),(.nat .i64 3),(.nat .i64 2)] 12 143 true 0 0 0) .lf)))))) (tn
  (.nd (.nd .lf (.row [(.nat .i64 1)] 1 3 false 0 0 0) (tr (tl (tl (.nd .lf (.row [(.sl k146 0 0 1 1),(.nat .i64 1),(.nat .i64 1),(.sl k154 0 0 1
  1),(.nat .i64 3),(.nat .i64 0),(.sl k159 0 0 1 1),(.nat .i64 2),(.nat .i64 0),(.sl k5 0 0 2 2),(.nat .i64 3),(.nat .i64 2)] 12 143 true 0 0 0)
  .lf))))) (.row [(.nat .i64 1),(.nat .i64 2)] 2 3 false 0 0 0) (.nd .lf (.row [(.sl k9 0 0 1 1),(.sl k10 0 0 2 2)] 2 34 false 0 0 0) (tr (tl (.nd .lf
  (.row [(.so k102 12 0 4 0),(.so k127 9 0 3 0),(.so k153 12 0 4 0)] 3 141 true 3 0 0) .lf))))) (.nd (.nd (tl (tr (.nd .lf (.row [(.nat .i64 3)] 1 3
  false 0 0 0) .lf))) (.row [(.sl k5 0 0 2 2),(.sl k6 0 0 1 1)] 2 34 false 0 0 0) (tr (tl (.nd .lf (.row [(.so k93 3 0 3 0),(.so k95 3 0 3 0),(.so k97
  3 0 3 0),(.ref 0 k90)] 4 94 false 0 0 0) .lf)))) (.row [(.nat .i64 3)] 1 3 false 0 0 0) (tn (tl (tr (.nd .lf (.row [(.nat .i64 2)] 1 3 false 0 0 0)
  .lf))) (tr (tn (.nd .lf (.row [(.bool true),(.bool true),(.bool true)] 3 4 true 0 0 0) .lf) (.nd .lf (.row [(.sl k122 0 0 1 1),(.nat .i64 3),(.nat
  .i64 0),(.sl k128 0 0 1 1),(.nat .i64 1),(.nat .i64 1),(.sl k5 0 0 2 2),(.nat .i64 3),(.nat .i64 2)] 9 143 true 0 0 0) .lf))))))), k207⟩
def a0_8 : S := ⟨(tn (tn (tn (.nd .lf (.row [(.nat .i64 1),(.nat .i64 2)] 2 3 false 0 0 0) .lf) (.nd .lf (.row [(.sl k7 0 0 1 1),(.sl k8 0 0 2 2)] 2
  34 false 0 0 0) .lf)) (.nd (.nd .lf (.row [(.nat .i64 1),(.nat .i64 1)] 2 3 false 0 0 0) (tl (tr (.nd .lf (.row [(.nat .i64 1)] 1 3 false 0 0 0)
  .lf)))) (.row [(.nat .i64 3)] 1 3 false 0 0 0) (tl (tl (tr (.nd .lf (.row [(.sl k99 0 0 1 1),(.nat .i64 3),(.nat .i64 0),(.sl k103 0 0 1 1),(.nat
  .i64 2),(.nat .i64 0),(.sl k106 0 0 1 1),(.nat .i64 1),(.nat .i64 1),(.sl k5 0 0 2 2),(.nat .i64 3),(.nat .i64 2)] 12 143 true 0 0 0) .lf)))))) (tn
  (.nd (.nd .lf (.row [(.nat .i64 1)] 1 3 false 0 0 0) .lf) (.row [(.nat .i64 1),(.nat .i64 2)] 2 3 false 0 0 0) (.nd .lf (.row [(.sl k9 0 0 1 1),(.sl
  k10 0 0 2 2)] 2 34 false 0 0 0) (tr (tl (.nd .lf (.row [(.so k102 12 0 4 0),(.so k127 9 0 3 0),(.so k151 12 0 4 0)] 3 141 true 3 0 0) .lf))))) (.nd
  (.nd (tl (tr (.nd .lf (.row [(.nat .i64 3)] 1 3 false 0 0 0) .lf))) (.row [(.sl k5 0 0 2 2),(.sl k6 0 0 1 1)] 2 34 false 0 0 0) (tr (tl (.nd .lf
  (.row [(.so k93 3 0 3 0),(.so k95 3 0 3 0),(.so k97 3 0 3 0),(.ref 0 k90)] 4 94 false 0 0 0) .lf)))) (.row [(.nat .i64 3)] 1 3 false 0 0 0) (tn (tn
  (tr (.nd .lf (.row [(.nat .i64 2)] 1 3 false 0 0 0) .lf)) (tl (tl (.nd .lf (.row [(.sl k146 0 0 1 1),(.nat .i64 2),(.nat .i64 0),(.sl k152 0 0 1
  1),(.nat .i64 1),(.nat .i64 1),(.sl k159 0 0 1 1),(.nat .i64 3),(.nat .i64 0),(.sl k5 0 0 2 2),(.nat .i64 3),(.nat .i64 2)] 12 143 true 0 0 0)
  .lf)))) (tr (tn (.nd .lf (.row [(.bool true),(.bool true),(.bool true)] 3 4 true 0 0 0) .lf) (.nd .lf (.row [(.sl k122 0 0 1 1),(.nat .i64 3),(.nat
  .i64 0),(.sl k128 0 0 1 1),(.nat .i64 1),(.nat .i64 1),(.sl k5 0 0 2 2),(.nat .i64 3),(.nat .i64 2)] 9 143 true 0 0 0) .lf))))))), k208⟩
def a0_9 : S := ⟨(tn (tn (tn (.nd .lf (.row [(.nat .i64 1),(.nat .i64 2)] 2 3 false 0 0 0) .lf) (.nd .lf (.row [(.sl k7 0 0 1 1),(.sl k8 0 0 2 2)] 2
  34 false 0 0 0) .lf)) (.nd (.nd .lf (.row [(.nat .i64 1),(.nat .i64 1)] 2 3 false 0 0 0) (tl (tr (.nd .lf (.row [(.nat .i64 1)] 1 3 false 0 0 0)
  .lf)))) (.row [(.nat .i64 3)] 1 3 false 0 0 0) (tl (tl (tr (.nd .lf (.row [(.sl k99 0 0 1 1),(.nat .i64 3),(.nat .i64 0),(.sl k103 0 0 1 1),(.nat
  .i64 2),(.nat .i64 0),(.sl k106 0 0 1 1),(.nat .i64 1),(.nat .i64 1),(.sl k5 0 0 2 2),(.nat .i64 3),(.nat .i64 2)] 12 143 true 0 0 0) .lf)))))) (tn
  (.nd (.nd .lf (.row [(.nat .i64 1)] 1 3 false 0 0 0) .lf) (.row [(.nat .i64 1),(.nat .i64 2)] 2 3 false 0 0 0) (.nd .lf (.row [(.sl k9 0 0 1 1),(.sl
  k10 0 0 2 2)] 2 34 false 0 0 0) (tr (tl (.nd .lf (.row [(.so k102 12 0 4 0),(.so k127 9 0 3 0),(.so k151 12 0 4 0)] 3 141 true 3 0 0) .lf))))) (.nd
  (.nd (tl (tr (.nd .lf (.row [(.nat .i64 3)] 1 3 false 0 0 0) .lf))) (.row [(.sl k5 0 0 2 2),(.sl k6 0 0 1 1)] 2 34 false 0 0 0) (tr (tl (.nd .lf
  (.row [(.so k93 3 0 3 0),(.so k95 3 0 3 0),(.so k97 3 0 3 0),(.ref 0 k90)] 4 94 false 0 0 0) .lf)))) (.row [(.nat .i64 3)] 1 3 false 0 0 0) (tn (tn
  (tr (.nd .lf (.row [(.nat .i64 2)] 1 3 false 0 0 0) .lf)) (tl (tl (.nd .lf (.row [(.sl k146 0 0 1 1),(.nat .i64 2),(.nat .i64 0),(.sl k152 0 0 1
  1),(.nat .i64 3),(.nat .i64 0),(.sl k157 0 0 1 1),(.nat .i64 1),(.nat .i64 1),(.sl k5 0 0 2 2),(.nat .i64 3),(.nat .i64 2)] 12 143 true 0 0 0)
  .lf)))) (tr (tn (.nd .lf (.row [(.bool true),(.bool true),(.bool true)] 3 4 true 0 0 0) .lf) (.nd .lf (.row [(.sl k122 0 0 1 1),(.nat .i64 3),(.nat
  .i64 0),(.sl k128 0 0 1 1),(.nat .i64 1),(.nat .i64 1),(.sl k5 0 0 2 2),(.nat .i64 3),(.nat .i64 2)] 9 143 true 0 0 0) .lf))))))), k209⟩
def a0_10 : S := ⟨(tn (tn (tn (.nd .lf (.row [(.nat .i64 1),(.nat .i64 2)] 2 3 false 0 0 0) .lf) (.nd .lf (.row [(.sl k7 0 0 1 1),(.sl k8 0 0 2 2)] 2
  34 false 0 0 0) .lf)) (.nd (.nd .lf (.row [(.nat .i64 1),(.nat .i64 1)] 2 3 false 0 0 0) (tl (tr (.nd .lf (.row [(.nat .i64 1)] 1 3 false 0 0 0)
  .lf)))) (.row [(.nat .i64 3)] 1 3 false 0 0 0) (tl (tl (tr (.nd .lf (.row [(.sl k99 0 0 1 1),(.nat .i64 3),(.nat .i64 0),(.sl k103 0 0 1 1),(.nat
  .i64 2),(.nat .i64 0),(.sl k106 0 0 1 1),(.nat .i64 1),(.nat .i64 1),(.sl k5 0 0 2 2),(.nat .i64 3),(.nat .i64 2)] 12 143 true 0 0 0) .lf)))))) (tn
  (.nd (.nd .lf (.row [(.nat .i64 1)] 1 3 false 0 0 0) .lf) (.row [(.nat .i64 1),(.nat .i64 2)] 2 3 false 0 0 0) (.nd .lf (.row [(.sl k9 0 0 1 1),(.sl
  k10 0 0 2 2)] 2 34 false 0 0 0) (tr (tl (.nd .lf (.row [(.so k102 12 0 4 0),(.so k127 9 0 3 0),(.so k151 12 0 4 0)] 3 141 true 3 0 0) .lf))))) (.nd
  (.nd (tl (tr (.nd .lf (.row [(.nat .i64 3)] 1 3 false 0 0 0) .lf))) (.row [(.sl k5 0 0 2 2),(.sl k6 0 0 1 1)] 2 34 false 0 0 0) (tr (tl (.nd .lf
  (.row [(.so k93 3 0 3 0),(.so k95 3 0 3 0),(.so k97 3 0 3 0),(.ref 0 k90)] 4 94 false 0 0 0) .lf)))) (.row [(.nat .i64 3)] 1 3 false 0 0 0) (tn (tn
  (tr (.nd .lf (.row [(.nat .i64 2)] 1 3 false 0 0 0) .lf)) (tl (tl (.nd .lf (.row [(.sl k146 0 0 1 1),(.nat .i64 3),(.nat .i64 0),(.sl k152 0 0 1
  1),(.nat .i64 1),(.nat .i64 1),(.sl k159 0 0 1 1),(.nat .i64 2),(.nat .i64 0),(.sl k5 0 0 2 2),(.nat .i64 3),(.nat .i64 2)] 12 143 true 0 0 0)
  .lf)))) (tr (tn (.nd .lf (.row [(.bool true),(.bool true),(.bool true)] 3 4 true 0 0 0) .lf) (.nd .lf (.row [(.sl k122 0 0 1 1),(.nat .i64 3),(.nat
  .i64 0),(.sl k128 0 0 1 1),(.nat .i64 1),(.nat .i64 1),(.sl k5 0 0 2 2),(.nat .i64 3),(.nat .i64 2)] 9 143 true 0 0 0) .lf))))))), k210⟩
def a0_11 : S := ⟨(tn (tn (tn (.nd .lf (.row [(.nat .i64 1),(.nat .i64 2)] 2 3 false 0 0 0) .lf) (.nd .lf (.row [(.sl k7 0 0 1 1),(.sl k8 0 0 2 2)] 2
  34 false 0 0 0) .lf)) (.nd (.nd .lf (.row [(.nat .i64 1),(.nat .i64 1)] 2 3 false 0 0 0) (tl (tr (.nd .lf (.row [(.nat .i64 1)] 1 3 false 0 0 0)
  .lf)))) (.row [(.nat .i64 3)] 1 3 false 0 0 0) (tl (tl (tr (.nd .lf (.row [(.sl k99 0 0 1 1),(.nat .i64 3),(.nat .i64 0),(.sl k103 0 0 1 1),(.nat
  .i64 2),(.nat .i64 0),(.sl k106 0 0 1 1),(.nat .i64 1),(.nat .i64 1),(.sl k5 0 0 2 2),(.nat .i64 3),(.nat .i64 2)] 12 143 true 0 0 0) .lf)))))) (tn
  (.nd (.nd .lf (.row [(.nat .i64 1)] 1 3 false 0 0 0) .lf) (.row [(.nat .i64 1),(.nat .i64 2)] 2 3 false 0 0 0) (.nd .lf (.row [(.sl k9 0 0 1 1),(.sl
  k10 0 0 2 2)] 2 34 false 0 0 0) (tr (tl (.nd .lf (.row [(.so k102 12 0 4 0),(.so k131 9 0 3 0),(.so k151 12 0 4 0)] 3 141 true 3 0 0) .lf))))) (.nd
  (.nd (tl (tn (tl (.nd .lf (.row [(.sl k126 0 0 1 1),(.nat .i64 3),(.nat .i64 0),(.sl k132 0 0 1 1),(.nat .i64 1),(.nat .i64 1),(.sl k5 0 0 2
  2),(.nat .i64 3),(.nat .i64 2)] 9 143 true 0 0 0) .lf)) (.nd .lf (.row [(.nat .i64 3)] 1 3 false 0 0 0) .lf))) (.row [(.sl k5 0 0 2 2),(.sl k6 0 0 1
  1)] 2 34 false 0 0 0) (tr (tl (.nd .lf (.row [(.so k93 3 0 3 0),(.so k95 3 0 3 0),(.so k97 3 0 3 0),(.ref 0 k90)] 4 94 false 0 0 0) .lf)))) (.row
  [(.nat .i64 3)] 1 3 false 0 0 0) (tn (tn (tr (.nd .lf (.row [(.nat .i64 2)] 1 3 false 0 0 0) .lf)) (tl (tl (.nd .lf (.row [(.sl k146 0 0 1 1),(.nat
  .i64 3),(.nat .i64 0),(.sl k152 0 0 1 1),(.nat .i64 2),(.nat .i64 0),(.sl k157 0 0 1 1),(.nat .i64 1),(.nat .i64 1),(.sl k5 0 0 2 2),(.nat .i64
  3),(.nat .i64 2)] 12 143 true 0 0 0) .lf)))) (tr (tl (.nd .lf (.row [(.bool true),(.bool true),(.bool true)] 3 4 true 0 0 0) .lf))))))), k211⟩
def a0_12 : S := ⟨(tn (tn (tn (.nd .lf (.row [(.nat .i64 1),(.nat .i64 2)] 2 3 false 0 0 0) .lf) (.nd .lf (.row [(.sl k7 0 0 1 1),(.sl k8 0 0 2 2)] 2
  34 false 0 0 0) .lf)) (.nd (.nd .lf (.row [(.nat .i64 1),(.nat .i64 1)] 2 3 false 0 0 0) (tl (tr (.nd .lf (.row [(.nat .i64 1)] 1 3 false 0 0 0)
  .lf)))) (.row [(.nat .i64 3)] 1 3 false 0 0 0) (tl (tl (tr (.nd .lf (.row [(.sl k99 0 0 1 1),(.nat .i64 3),(.nat .i64 0),(.sl k103 0 0 1 1),(.nat
  .i64 2),(.nat .i64 0),(.sl k106 0 0 1 1),(.nat .i64 1),(.nat .i64 1),(.sl k5 0 0 2 2),(.nat .i64 3),(.nat .i64 2)] 12 143 true 0 0 0) .lf)))))) (tn
  (.nd (.nd .lf (.row [(.nat .i64 1)] 1 3 false 0 0 0) (tr (tl (tl (.nd .lf (.row [(.sl k146 0 0 1 1),(.nat .i64 1),(.nat .i64 1),(.sl k154 0 0 1
  1),(.nat .i64 2),(.nat .i64 0),(.sl k159 0 0 1 1),(.nat .i64 3),(.nat .i64 0),(.sl k5 0 0 2 2),(.nat .i64 3),(.nat .i64 2)] 12 143 true 0 0 0)
  .lf))))) (.row [(.nat .i64 1),(.nat .i64 2)] 2 3 false 0 0 0) (.nd .lf (.row [(.sl k9 0 0 1 1),(.sl k10 0 0 2 2)] 2 34 false 0 0 0) (tr (tl (.nd .lf
  (.row [(.so k102 12 0 4 0),(.so k131 9 0 3 0),(.so k153 12 0 4 0)] 3 141 true 3 0 0) .lf))))) (.nd (.nd (tl (tn (tl (.nd .lf (.row [(.sl k126 0 0 1
  1),(.nat .i64 3),(.nat .i64 0),(.sl k132 0 0 1 1),(.nat .i64 1),(.nat .i64 1),(.sl k5 0 0 2 2),(.nat .i64 3),(.nat .i64 2)] 9 143 true 0 0 0) .lf))
  (.nd .lf (.row [(.nat .i64 3)] 1 3 false 0 0 0) .lf))) (.row [(.sl k5 0 0 2 2),(.sl k6 0 0 1 1)] 2 34 false 0 0 0) (tr (tl (.nd .lf (.row [(.so k93
  3 0 3 0),(.so k95 3 0 3 0),(.so k97 3 0 3 0),(.ref 0 k90)] 4 94 false 0 0 0) .lf)))) (.row [(.nat .i64 3)] 1 3 false 0 0 0) (tn (tl (tr (.nd .lf
  (.row [(.nat .i64 2)] 1 3 false 0 0 0) .lf))) (tr (tl (.nd .lf (.row [(.bool true),(.bool true),(.bool true)] 3 4 true 0 0 0) .lf))))))), k212⟩
def a0_13 : S := ⟨(tn (tn (tn (.nd .lf (.row [(.nat .i64 1),(.nat .i64 2)] 2 3 false 0 0 0) .lf) (.nd .lf (.row [(.sl k7 0 0 1 1),(.sl k8 0 0 2 2)] 2
  34 false 0 0 0) .lf)) (.nd (.nd .lf (.row [(.nat .i64 1),(.nat .i64 1)] 2 3 false 0 0 0) (tl (tr (.nd .lf (.row [(.nat .i64 1)] 1 3 false 0 0 0)
  .lf)))) (.row [(.nat .i64 3)] 1 3 false 0 0 0) (tl (tl (tr (.nd .lf (.row [(.sl k99 0 0 1 1),(.nat .i64 3),(.nat .i64 0),(.sl k103 0 0 1 1),(.nat
  .i64 2),(.nat .i64 0),(.sl k106 0 0 1 1),(.nat .i64 1),(.nat .i64 1),(.sl k5 0 0 2 2),(.nat .i64 3),(.nat .i64 2)] 12 143 true 0 0 0) .lf)))))) (tn
  (.nd (.nd .lf (.row [(.nat .i64 1)] 1 3 false 0 0 0) (tr (tl (tl (.nd .lf (.row [(.sl k146 0 0 1 1),(.nat .i64 1),(.nat .i64 1),(.sl k154 0 0 1
  1),(.nat .i64 3),(.nat .i64 0),(.sl k159 0 0 1 1),(.nat .i64 2),(.nat .i64 0),(.sl k5 0 0 2 2),(.nat .i64 3),(.nat .i64 2)] 12 143 true 0 0 0)
  .lf))))) (.row [(.nat .i64 1),(.nat .i64 2)] 2 3 false 0 0 0) (.nd .lf (.row [(.sl k9 0 0 1 1),(.sl k10 0 0 2 2)] 2 34 false 0 0 0) (tr (tl (.nd .lf
  (.row [(.so k102 12 0 4 0),(.so k131 9 0 3 0),(.so k153 12 0 4 0)] 3 141 true 3 0 0) .lf))))) (.nd (.nd (tl (tn (tl (.nd .lf (.row [(.sl k126 0 0 1
  1),(.nat .i64 3),(.nat .i64 0),(.sl k132 0 0 1 1),(.nat .i64 1),(.nat .i64 1),(.sl k5 0 0 2 2),(.nat .i64 3),(.nat .i64 2)] 9 143 true 0 0 0) .lf))
  (.nd .lf (.row [(.nat .i64 3)] 1 3 false 0 0 0) .lf))) (.row [(.sl k5 0 0 2 2),(.sl k6 0 0 1 1)] 2 34 false 0 0 0) (tr (tl (.nd .lf (.row [(.so k93
  3 0 3 0),(.so k95 3 0 3 0),(.so k97 3 0 3 0),(.ref 0 k90)] 4 94 false 0 0 0) .lf)))) (.row [(.nat .i64 3)] 1 3 false 0 0 0) (tn (tl (tr (.nd .lf
  (.row [(.nat .i64 2)] 1 3 false 0 0 0) .lf))) (tr (tl (.nd .lf (.row [(.bool true),(.bool true),(.bool true)] 3 4 true 0 0 0) .lf))))))), k213⟩
def a0_14 : S := ⟨(tn (tn (tn (.nd .lf (.row [(.nat .i64 1),(.nat .i64 2)] 2 3 false 0 0 0) .lf) (.nd .lf (.row [(.sl k7 0 0 1 1),(.sl k8 0 0 2 2)] 2
  34 false 0 0 0) .lf)) (.nd (.nd .lf (.row [(.nat .i64 1),(.nat .i64 1)] 2 3 false 0 0 0) (tl (tr (.nd .lf (.row [(.nat .i64 1)] 1 3 false 0 0 0)
  .lf)))) (.row [(.nat .i64 3)] 1 3 false 0 0 0) (tl (tl (tr (.nd .lf (.row [(.sl k99 0 0 1 1),(.nat .i64 3),(.nat .i64 0),(.sl k103 0 0 1 1),(.nat
  .i64 2),(.nat .i64 0),(.sl k106 0 0 1 1),(.nat .i64 1),(.nat .i64 1),(.sl k5 0 0 2 2),(.nat .i64 3),(.nat .i64 2)] 12 143 true 0 0 0) .lf)))))) (tn
  (.nd (.nd .lf (.row [(.nat .i64 1)] 1 3 false 0 0 0) .lf) (.row [(.nat .i64 1),(.nat .i64 2)] 2 3 false 0 0 0) (.nd .lf (.row [(.sl k9 0 0 1 1),(.sl
  k10 0 0 2 2)] 2 34 false 0 0 0) (tr (tl (.nd .lf (.row [(.so k102 12 0 4 0),(.so k131 9 0 3 0),(.so k151 12 0 4 0)] 3 141 true 3 0 0) .lf))))) (.nd
  (.nd (tl (tn (tl (.nd .lf (.row [(.sl k126 0 0 1 1),(.nat .i64 3),(.nat .i64 0),(.sl k132 0 0 1 1),(.nat .i64 1),(.nat .i64 1),(.sl k5 0 0 2
  2),(.nat .i64 3),(.nat .i64 2)] 9 143 true 0 0 0) .lf)) (.nd .lf (.row [(.nat .i64 3)] 1 3 false 0 0 0) .lf))) (.row [(.sl k5 0 0 2 2),(.sl k6 0 0 1
  1)] 2 34 false 0 0 0) (tr (tl (.nd .lf (.row [(.so k93 3 0 3 0),(.so k95 3 0 3 0),(.so k97 3 0 3 0),(.ref 0 k90)] 4 94 false 0 0 0) .lf)))) (.row
  [(.nat .i64 3)] 1 3 false 0 0 0) (tn (tn (tr (.nd .lf (.row [(.nat .i64 2)] 1 3 false 0 0 0) .lf)) (tl (tl (.nd .lf (.row [(.sl k146 0 0 1 1),(.nat
  .i64 2),(.nat .i64 0),(.sl k152 0 0 1 1),(.nat .i64 1),(.nat .i64 1),(.sl k159 0 0 1 1),(.nat .i64 3),(.nat .i64 0),(.sl k5 0 0 2 2),(.nat .i64
  3),(.nat .i64 2)] 12 143 true 0 0 0) .lf)))) (tr (tl (.nd .lf (.row [(.bool true),(.bool true),(.bool true)] 3 4 true 0 0 0) .lf))))))), k214⟩
def a0_15 : S := ⟨(tn (tn (tn (.nd .lf (.row [(.nat .i64 1),(.nat .i64 2)] 2 3 false 0 0 0) .lf) (.nd .lf (.row [(.sl k7 0 0 1 1),(.sl k8 0 0 2 2)] 2
  34 false 0 0 0) .lf)) (.nd (.nd .lf (.row [(.nat .i64 1),(.nat .i64 1)] 2 3 false 0 0 0) (tl (tr (.nd .lf (.row [(.nat .i64 1)] 1 3 false 0 0 0)
  .lf)))) (.row [(.nat .i64 3)] 1 3 false 0 0 0) (tl (tl (tr (.nd .lf (.row [(.sl k99 0 0 1 1),(.nat .i64 3),(.nat .i64 0),(.sl k103 0 0 1 1),(.nat
  .i64 2),(.nat .i64 0),(.sl k106 0 0 1 1),(.nat .i64 1),(.nat .i64 1),(.sl k5 0 0 2 2),(.nat .i64 3),(.nat .i64 2)] 12 143 true 0 0 0) .lf)))))) (tn
  (.nd (.nd .lf (.row [(.nat .i64 1)] 1 3 false 0 0 0) .lf) (.row [(.nat .i64 1),(.nat .i64 2)] 2 3 false 0 0 0) (.nd .lf (.row [(.sl k9 0 0 1 1),(.sl
  k10 0 0 2 2)] 2 34 false 0 0 0) (tr (tl (.nd .lf (.row [(.so k102 12 0 4 0),(.so k131 9 0 3 0),(.so k151 12 0 4 0)] 3 141 true 3 0 0) .lf))))) (.nd
  (.nd (tl (tn (tl (.nd .lf (.row [(.sl k126 0 0 1 1),(.nat .i64 3),(.nat .i64 0),(.sl k132 0 0 1 1),(.nat .i64 1),(.nat .i64 1),(.sl k5 0 0 2
  2),(.nat .i64 3),(.nat .i64 2)] 9 143 true 0 0 0) .lf)) (.nd .lf (.row [(.nat .i64 3)] 1 3 false 0 0 0) .lf))) (.row [(.sl k5 0 0 2 2),(.sl k6 0 0 1
  1)] 2 34 false 0 0 0) (tr (tl (.nd .lf (.row [(.so k93 3 0 3 0),(.so k95 3 0 3 0),(.so k97 3 0 3 0),(.ref 0 k90)] 4 94 false 0 0 0) .lf)))) (.row
  [(.nat .i64 3)] 1 3 false 0 0 0) (tn (tn (tr (.nd .lf (.row [(.nat .i64 2)] 1 3 false 0 0 0) .lf)) (tl (tl (.nd .lf (.row [(.sl k146 0 0 1 1),(.nat
  .i64 2),(.nat .i64 0),(.sl k152 0 0 1 1),(.nat .i64 3),(.nat .i64 0),(.sl k157 0 0 1 1),(.nat .i64 1),(.nat .i64 1),(.sl k5 0 0 2 2),(.nat .i64
  3),(.nat .i64 2)] 12 143 true 0 0 0) .lf)))) (tr (tl (.nd .lf (.row [(.bool true),(.bool true),(.bool true)] 3 4 true 0 0 0) .lf))))))), k215⟩
def a0_16 : S := ⟨(tn (tn (tn (.nd .lf (.row [(.nat .i64 1),(.nat .i64 2)] 2 3 false 0 0 0) .lf) (.nd .lf (.row [(.sl k7 0 0 1 1),(.sl k8 0 0 2 2)] 2
  34 false 0 0 0) .lf)) (.nd (.nd .lf (.row [(.nat .i64 1),(.nat .i64 1)] 2 3 false 0 0 0) (tl (tr (.nd .lf (.row [(.nat .i64 1)] 1 3 false 0 0 0)
  .lf)))) (.row [(.nat .i64 3)] 1 3 false 0 0 0) (tl (tl (tr (.nd .lf (.row [(.sl k99 0 0 1 1),(.nat .i64 3),(.nat .i64 0),(.sl k103 0 0 1 1),(.nat
  .i64 2),(.nat .i64 0),(.sl k106 0 0 1 1),(.nat .i64 1),(.nat .i64 1),(.sl k5 0 0 2 2),(.nat .i64 3),(.nat .i64 2)] 12 143 true 0 0 0) .lf)))))) (tn
  (.nd (.nd .lf (.row [(.nat .i64 1)] 1 3 false 0 0 0) .lf) (.row [(.nat .i64 1),(.nat .i64 2)] 2 3 false 0 0 0) (.nd .lf (.row [(.sl k9 0 0 1 1),(.sl
  k10 0 0 2 2)] 2 34 false 0 0 0) (tr (tl (.nd .lf (.row [(.so k102 12 0 4 0),(.so k131 9 0 3 0),(.so k151 12 0 4 0)] 3 141 true 3 0 0) .lf))))) (.nd
  (.nd (tl (tn (tl (.nd .lf (.row [(.sl k126 0 0 1 1),(.nat .i64 3),(.nat .i64 0),(.sl k132 0 0 1 1),(.nat .i64 1),(.nat .i64 1),(.sl k5 0 0 2
  2),(.nat .i64 3),(.nat .i64 2)] 9 143 true 0 0 0) .lf)) (.nd .lf (.row [(.nat .i64 3)] 1 3 false 0 0 0) .lf))) (.row [(.sl k5 0 0 2 2),(.sl k6 0 0 1
  1)] 2 34 false 0 0 0) (tr (tl (.nd .lf (.row [(.so k93 3 0 3 0),(.so k95 3 0 3 0),(.so k97 3 0 3 0),(.ref 0 k90)] 4 94 false 0 0 0) .lf)))) (.row
  [(.nat .i64 3)] 1 3 false 0 0 0) (tn (tn (tr (.nd .lf (.row [(.nat .i64 2)] 1 3 false 0 0 0) .lf)) (tl (tl (.nd .lf (.row [(.sl k146 0 0 1 1),(.nat
  .i64 3),(.nat .i64 0),(.sl k152 0 0 1 1),(.nat .i64 1),(.nat .i64 1),(.sl k159 0 0 1 1),(.nat .i64 2),(.nat .i64 0),(.sl k5 0 0 2 2),(.nat .i64
  3),(.nat .i64 2)] 12 143 true 0 0 0) .lf)))) (tr (tl (.nd .lf (.row [(.bool true),(.bool true),(.bool true)] 3 4 true 0 0 0) .lf))))))), k216⟩
def a0_17 : S := ⟨(tn (tn (tn (.nd .lf (.row [(.nat .i64 1),(.nat .i64 2)] 2 3 false 0 0 0) .lf) (.nd .lf (.row [(.sl k7 0 0 1 1),(.sl k8 0 0 2 2)] 2
  34 false 0 0 0) .lf)) (.nd (.nd .lf (.row [(.nat .i64 1),(.nat .i64 1)] 2 3 false 0 0 0) (tl (tr (.nd .lf (.row [(.nat .i64 1)] 1 3 false 0 0 0)
  .lf)))) (.row [(.nat .i64 3)] 1 3 false 0 0 0) (tl (tl (tr (.nd .lf (.row [(.sl k99 0 0 1 1),(.nat .i64 3),(.nat .i64 0),(.sl k103 0 0 1 1),(.nat
  .i64 2),(.nat .i64 0),(.sl k106 0 0 1 1),(.nat .i64 1),(.nat .i64 1),(.sl k5 0 0 2 2),(.nat .i64 3),(.nat .i64 2)] 12 143 true 0 0 0) .lf)))))) (tn
  (.nd (.nd .lf (.row [(.nat .i64 1)] 1 3 false 0 0 0) .lf) (.row [(.nat .i64 1),(.nat .i64 2)] 2 3 false 0 0 0) (.nd (tl (tl (tl (.nd .lf (.row [(.sl
  k126 0 0 1 1),(.nat .i64 1),(.nat .i64 1),(.sl k134 0 0 1 1),(.nat .i64 3),(.nat .i64 0),(.sl k5 0 0 2 2),(.nat .i64 3),(.nat .i64 2)] 9 143 true 0
  0 0) .lf)))) (.row [(.sl k9 0 0 1 1),(.sl k10 0 0 2 2)] 2 34 false 0 0 0) (tr (tl (.nd .lf (.row [(.so k102 12 0 4 0),(.so k133 9 0 3 0),(.so k151
  12 0 4 0)] 3 141 true 3 0 0) .lf))))) (.nd (.nd (tl (tr (.nd .lf (.row [(.nat .i64 3)] 1 3 false 0 0 0) .lf))) (.row [(.sl k5 0 0 2 2),(.sl k6 0 0 1
  1)] 2 34 false 0 0 0) (tr (tl (.nd .lf (.row [(.so k93 3 0 3 0),(.so k95 3 0 3 0),(.so k97 3 0 3 0),(.ref 0 k90)] 4 94 false 0 0 0) .lf)))) (.row
  [(.nat .i64 3)] 1 3 false 0 0 0) (tn (tn (tr (.nd .lf (.row [(.nat .i64 2)] 1 3 false 0 0 0) .lf)) (tl (tl (.nd .lf (.row [(.sl k146 0 0 1 1),(.nat
  .i64 3),(.nat .i64 0),(.sl k152 0 0 1 1),(.nat .i64 2),(.nat .i64 0),(.sl k157 0 0 1 1),(.nat .i64 1),(.nat .i64 1),(.sl k5 0 0 2 2),(.nat .i64
  3),(.nat .i64 2)] 12 143 true 0 0 0) .lf)))) (tr (tl (.nd .lf (.row [(.bool true),(.bool true),(.bool true)] 3 4 true 0 0 0) .lf))))))), k217⟩
def a0_18 : S := ⟨(tn (tn (tn (.nd .lf (.row [(.nat .i64 1),(.nat .i64 2)] 2 3 false 0 0 0) .lf) (.nd .lf (.row [(.sl k7 0 0 1 1),(.sl k8 0 0 2 2)] 2
  34 false 0 0 0) .lf)) (.nd (.nd .lf (.row [(.nat .i64 1),(.nat .i64 1)] 2 3 false 0 0 0) (tl (tr (.nd .lf (.row [(.nat .i64 1)] 1 3 false 0 0 0)
  .lf)))) (.row [(.nat .i64 3)] 1 3 false 0 0 0) (tl (tl (tr (.nd .lf (.row [(.sl k99 0 0 1 1),(.nat .i64 3),(.nat .i64 0),(.sl k103 0 0 1 1),(.nat
  .i64 2),(.nat .i64 0),(.sl k106 0 0 1 1),(.nat .i64 1),(.nat .i64 1),(.sl k5 0 0 2 2),(.nat .i64 3),(.nat .i64 2)] 12 143 true 0 0 0) .lf)))))) (tn
  (.nd (.nd .lf (.row [(.nat .i64 1)] 1 3 false 0 0 0) (tr (tl (tl (.nd .lf (.row [(.sl k146 0 0 1 1),(.nat .i64 1),(.nat .i64 1),(.sl k154 0 0 1
  1),(.nat .i64 2),(.nat .i64 0),(.sl k159 0 0 1 1),(.nat .i64 3),(.nat .i64 0),(.sl k5 0 0 2 2),(.nat .i64 3),(.nat .i64 2)] 12 143 true 0 0 0)
  .lf))))) (.row [(.nat .i64 1),(.nat .i64 2)] 2 3 false 0 0 0) (.nd (tl (tl (tl (.nd .lf (.row [(.sl k126 0 0 1 1),(.nat .i64 1),(.nat .i64 1),(.sl
  k134 0 0 1 1),(.nat .i64 3),(.nat .i64 0),(.sl k5 0 0 2 2),(.nat .i64 3),(.nat .i64 2)] 9 143 true 0 0 0) .lf)))) (.row [(.sl k9 0 0 1 1),(.sl k10 0
  0 2 2)] 2 34 false 0 0 0) (tr (tl (.nd .lf (.row [(.so k102 12 0 4 0),(.so k133 9 0 3 0),(.so k153 12 0 4 0)] 3 141 true 3 0 0) .lf))))) (.nd (.nd
  (tl (tr (.nd .lf (.row [(.nat .i64 3)] 1 3 false 0 0 0) .lf))) (.row [(.sl k5 0 0 2 2),(.sl k6 0 0 1 1)] 2 34 false 0 0 0) (tr (tl (.nd .lf (.row
  [(.so k93 3 0 3 0),(.so k95 3 0 3 0),(.so k97 3 0 3 0),(.ref 0 k90)] 4 94 false 0 0 0) .lf)))) (.row [(.nat .i64 3)] 1 3 false 0 0 0) (tn (tl (tr
  (.nd .lf (.row [(.nat .i64 2)] 1 3 false 0 0 0) .lf))) (tr (tl (.nd .lf (.row [(.bool true),(.bool true),(.bool true)] 3 4 true 0 0 0) .lf))))))),
  k218⟩
def a0_19 : S := ⟨(tn (tn (tn (.nd .lf (.row [(.nat .i64 1),(.nat .i64 2)] 2 3 false 0 0 0) .lf) (.nd .lf (.row [(.sl k7 0 0 1 1),(.sl k8 0 0 2 2)] 2
  34 false 0 0 0) .lf)) (.nd (.nd .lf (.row [(.nat .i64 1),(.nat .i64 1)] 2 3 false 0 0 0) (tl (tr (.nd .lf (.row [(.nat .i64 1)] 1 3 false 0 0 0)
  .lf)))) (.row [(.nat .i64 3)] 1 3 false 0 0 0) (tl (tl (tr (.nd .lf (.row [(.sl k99 0 0 1 1),(.nat .i64 3),(.nat .i64 0),(.sl k103 0 0 1 1),(.nat
  .i64 2),(.nat .i64 0),(.sl k106 0 0 1 1),(.nat .i64 1),(.nat .i64 1),(.sl k5 0 0 2 2),(.nat .i64 3),(.nat .i64 2)] 12 143 true 0 0 0) .lf)))))) (tn
  (.nd (.nd .lf (.row [(.nat .i64 1)] 1 3 false 0 0 0) (tr (tl (tl (.nd .lf (.row [(.sl k146 0 0 1 1),(.nat .i64 1),(.nat .i64 1),(.sl k154 0 0 1
  1),(.nat .i64 3),(.nat .i64 0),(.sl k159 0 0 1 1),(.nat .i64 2),(.nat .i64 0),(.sl k5 0 0 2 2),(.nat .i64 3),(.nat .i64 2)] 12 143 true 0 0 0)
  .lf))))) (.row [(.nat .i64 1),(.nat .i64 2)] 2 3 false 0 0 0) (.nd (tl (tl (tl (.nd .lf (.row [(.sl k126 0 0 1 1),(.nat .i64 1),(.nat .i64 1),(.sl
  k134 0 0 1 1),(.nat .i64 3),(.nat .i64 0),(.sl k5 0 0 2 2),(.nat .i64 3),(.nat .i64 2)] 9 143 true 0 0 0) .lf)))) (.row [(.sl k9 0 0 1 1),(.sl k10 0
  0 2 2)] 2 34 false 0 0 0) (tr (tl (.nd .lf (.row [(.so k102 12 0 4 0),(.so k133 9 0 3 0),(.so k153 12 0 4 0)] 3 141 true 3 0 0) .lf))))) (.nd (.nd
  (tl (tr (.nd .lf (.row [(.nat .i64 3)] 1 3 false 0 0 0) .lf))) (.row [(.sl k5 0 0 2 2),(.sl k6 0 0 1 1)] 2 34 false 0 0 0) (tr (tl (.nd .lf (.row
  [(.so k93 3 0 3 0),(.so k95 3 0 3 0),(.so k97 3 0 3 0),(.ref 0 k90)] 4 94 false 0 0 0) .lf)))) (.row [(.nat .i64 3)] 1 3 false 0 0 0) (tn (tl (tr
  (.nd .lf (.row [(.nat .i64 2)] 1 3 false 0 0 0) .lf))) (tr (tl (.nd .lf (.row [(.bool true),(.bool true),(.bool true)] 3 4 true 0 0 0) .lf))))))),
  k219⟩
def a0_20 : S := ⟨(tn (tn (tn (.nd .lf (.row [(.nat .i64 1),(.nat .i64 2)] 2 3 false 0 0 0) .lf) (.nd .lf (.row [(.sl k7 0 0 1 1),(.sl k8 0 0 2 2)] 2
  34 false 0 0 0) .lf)) (.nd (.nd .lf (.row [(.nat .i64 1),(.nat .i64 1)] 2 3 false 0 0 0) (tl (tr (.nd .lf (.row [(.nat .i64 1)] 1 3 false 0 0 0)
  .lf)))) (.row [(.nat .i64 3)] 1 3 false 0 0 0) (tl (tl (tr (.nd .lf (.row [(.sl k99 0 0 1 1),(.nat .i64 3),(.nat .i64 0),(.sl k103 0 0 1 1),(.nat
  .i64 2),(.nat .i64 0),(.sl k106 0 0 1 1),(.nat .i64 1),(.nat .i64 1),(.sl k5 0 0 2 2),(.nat .i64 3),(.nat .i64 2)] 12 143 true 0 0 0) .lf)))))) (tn
  (.nd (.nd .lf (.row [(.nat .i64 1)] 1 3 false 0 0 0) .lf) (.row [(.nat .i64 1),(.nat .i64 2)] 2 3 false 0 0 0) (.nd (tl (tl (tl (.nd .lf (.row [(.sl
  k126 0 0 1 1),(.nat .i64 1),(.nat .i64 1),(.sl k134 0 0 1 1),(.nat .i64 3),(.nat .i64 0),(.sl k5 0 0 2 2),(.nat .i64 3),(.nat .i64 2)] 9 143 true 0
  0 0) .lf)))) (.row [(.sl k9 0 0 1 1),(.sl k10 0 0 2 2)] 2 34 false 0 0 0) (tr (tl (.nd .lf (.row [(.so k102 12 0 4 0),(.so k133 9 0 3 0),(.so k151
  12 0 4 0)] 3 141 true 3 0 0) .lf))))) (.nd (.nd (tl (tr (.nd .lf (.row [(.nat .i64 3)] 1 3 false 0 0 0) .lf))) (.row [(.sl k5 0 0 2 2),(.sl k6 0 0 1
  1)] 2 34 false 0 0 0) (tr (tl (.nd .lf (.row [(.so k93 3 0 3 0),(.so k95 3 0 3 0),(.so k97 3 0 3 0),(.ref 0 k90)] 4 94 false 0 0 0) .lf)))) (.row
  [(.nat .i64 3)] 1 3 false 0 0 0) (tn (tn (tr (.nd .lf (.row [(.nat .i64 2)] 1 3 false 0 0 0) .lf)) (tl (tl (.nd .lf (.row [(.sl k146 0 0 1 1),(.nat
  .i64 2),(.nat .i64 0),(.sl k152 0 0 1 1),(.nat .i64 1),(.nat .i64 1),(.sl k159 0 0 1 1),(.nat .i64 3),(.nat .i64 0),(.sl k5 0 0 2 2),(.nat .i64
  3),(.nat .i64 2)] 12 143 true 0 0 0) .lf)))) (tr (tl (.nd .lf (.row [(.bool true),(.bool true),(.bool true)] 3 4 true 0 0 0) .lf))))))), k220⟩
def a0_21 : S := ⟨(tn (tn (tn (.nd .lf (.row [(.nat .i64 1),(.nat .i64 2)] 2 3 false 0 0 0) .lf) (.nd .lf (.row [(.sl k7 0 0 1 1),(.sl k8 0 0 2 2)] 2
  34 false 0 0 0) .lf)) (.nd (.nd .lf (.row [(.nat .i64 1),(.nat .i64 1)] 2 3 false 0 0 0) (tl (tr (.nd .lf (.row [(.nat .i64 1)] 1 3 false 0 0 0)
  .lf)))) (.row [(.nat .i64 3)] 1 3 false 0 0 0) (tl (tl (tr (.nd .lf (.row [(.sl k99 0 0 1 1),(.nat .i64 3),(.nat .i64 0),(.sl k103 0 0 1 1),(.nat
  .i64 2),(.nat .i64 0),(.sl k106 0 0 1 1),(.nat .i64 1),(.nat .i64 1),(.sl k5 0 0 2 2),(.nat .i64 3),(.nat .i64 2)] 12 143 true 0 0 0) .lf)))))) (tn
  (.nd (.nd .lf (.row [(.nat .i64 1)] 1 3 false 0 0 0) .lf) (.row [(.nat .i64 1),(.nat .i64 2)] 2 3 false 0 0 0) (.nd (tl (tl (tl (.nd .lf (.row [(.sl
  k126 0 0 1 1),(.nat .i64 1),(.nat .i64 1),(.sl k134 0 0 1 1),(.nat .i64 3),(.nat .i64 0),(.sl k5 0 0 2 2),(.nat .i64 3),(.nat .i64 2)] 9 143 true 0
  0 0) .lf)))) (.row [(.sl k9 0 0 1 1),(.sl k10 0 0 2 2)] 2 34 false 0 0 0) (tr (tl (.nd .lf (.row [(.so k102 12 0 4 0),(.so k133 9 0 3 0),(.so k151
  12 0 4 0)] 3 141 true 3 0 0) .lf))))) (.nd (.nd (tl (tr (.nd .lf (.row [(.nat .i64 3)] 1 3 false 0 0 0) .lf))) (.row [(.sl k5 0 0 2 2),(.sl k6 0 0 1
  1)] 2 34 false 0 0 0) (tr (tl (.nd .lf (.row [(.so k93 3 0 3 0),(.so k95 3 0 3 0),(.so k97 3 0 3 0),(.ref 0 k90)] 4 94 false 0 0 0) .lf)))) (.row
  [(.nat .i64 3)] 1 3 false 0 0 0) (tn (tn (tr (.nd .lf (.row [(.nat .i64 2)] 1 3 false 0 0 0) .lf)) (tl (tl (.nd .lf (.row [(.sl k146 0 0 1 1),(.nat
  .i64 2),(.nat .i64 0),(.sl k152 0 0 1 1),(.nat .i64 3),(.nat .i64 0),(.sl k157 0 0 1 1),(.nat .i64 1),(.nat .i64 1),(.sl k5 0 0 2 2),(.nat .i64
  3),(.nat .i64 2)] 12 143 true 0 0 0) .lf)))) (tr (tl (.nd .lf (.row [(.bool true),(.bool true),(.bool true)] 3 4 true 0 0 0) .lf))))))), k221⟩
def a0_22 : S := ⟨(tn (tn (tn (.nd .lf (.row [(.nat .i64 1),(.nat .i64 2)] 2 3 false 0 0 0) .lf) (.nd .lf (.row [(.sl k7 0 0 1 1),(.sl k8 0 0 2 2)] 2
  34 false 0 0 0) .lf)) (.nd (.nd .lf (.row [(.nat .i64 1),(.nat .i64 1)] 2 3 false 0 0 0) (tl (tr (.nd .lf (.row [(.nat .i64 1)] 1 3 false 0 0 0)
  .lf)))) (.row [(.nat .i64 3)] 1 3 false 0 0 0) (tl (tl (tr (.nd .lf (.row [(.sl k99 0 0 1 1),(.nat .i64 3),(.nat .i64 0),(.sl k103 0 0 1 1),(.nat
  .i64 2),(.nat .i64 0),(.sl k106 0 0 1 1),(.nat .i64 1),(.nat .i64 1),(.sl k5 0 0 2 2),(.nat .i64 3),(.nat .i64 2)] 12 143 true 0 0 0) .lf)))))) (tn
  (.nd (.nd .lf (.row [(.nat .i64 1)] 1 3 false 0 0 0) .lf) (.row [(.nat .i64 1),(.nat .i64 2)] 2 3 false 0 0 0) (.nd (tl (tl (tl (.nd .lf (.row [(.sl
  k126 0 0 1 1),(.nat .i64 1),(.nat .i64 1),(.sl k134 0 0 1 1),(.nat .i64 3),(.nat .i64 0),(.sl k5 0 0 2 2),(.nat .i64 3),(.nat .i64 2)] 9 143 true 0
  0 0) .lf)))) (.row [(.sl k9 0 0 1 1),(.sl k10 0 0 2 2)] 2 34 false 0 0 0) (tr (tl (.nd .lf (.row [(.so k102 12 0 4 0),(.so k133 9 0 3 0),(.so k151
  12 0 4 0)] 3 141 true 3 0 0) .lf))))) (.nd (.nd (tl (tr (.nd .lf (.row [(.nat .i64 3)] 1 3 false 0 0 0) .lf))) (.row [(.sl k5 0 0 2 2),(.sl k6 0 0 1
  1)] 2 34 false 0 0 0) (tr (tl (.nd .lf (.row [(.so k93 3 0 3 0),(.so k95 3 0 3 0),(.so k97 3 0 3 0),(.ref 0 k90)] 4 94 false 0 0 0) .lf)))) (.row
  [(.nat .i64 3)] 1 3 false 0 0 0) (tn (tn (tr (.nd .lf (.row [(.nat .i64 2)] 1 3 false 0 0 0) .lf)) (tl (tl (.nd .lf (.row [(.sl k146 0 0 1 1),(.nat
  .i64 3),(.nat .i64 0),(.sl k152 0 0 1 1),(.nat .i64 1),(.nat .i64 1),(.sl k159 0 0 1 1),(.nat .i64 2),(.nat .i64 0),(.sl k5 0 0 2 2),(.nat .i64
  3),(.nat .i64 2)] 12 143 true 0 0 0) .lf)))) (tr (tl (.nd .lf (.row [(.bool true),(.bool true),(.bool true)] 3 4 true 0 0 0) .lf))))))), k222⟩
def a0_23 : S := ⟨(tn (tn (tn (.nd .lf (.row [(.nat .i64 1),(.nat .i64 2)] 2 3 false 0 0 0) .lf) (.nd .lf (.row [(.sl k7 0 0 1 1),(.sl k8 0 0 2 2)] 2
  34 false 0 0 0) .lf)) (.nd (.nd .lf (.row [(.nat .i64 1),(.nat .i64 1)] 2 3 false 0 0 0) (tl (tr (.nd .lf (.row [(.nat .i64 1)] 1 3 false 0 0 0)
  .lf)))) (.row [(.nat .i64 3)] 1 3 false 0 0 0) (tl (tl (tr (.nd .lf (.row [(.sl k99 0 0 1 1),(.nat .i64 3),(.nat .i64 0),(.sl k103 0 0 1 1),(.nat
  .i64 2),(.nat .i64 0),(.sl k106 0 0 1 1),(.nat .i64 1),(.nat .i64 1),(.sl k5 0 0 2 2),(.nat .i64 3),(.nat .i64 2)] 12 143 true 0 0 0) .lf)))))) (tn
  (.nd (.nd (tl (tl (tl (.nd .lf (.row [(.sl k122 0 0 1 1),(.nat .i64 1),(.nat .i64 1),(.sl k130 0 0 1 1),(.nat .i64 3),(.nat .i64 0),(.sl k5 0 0 2
  2),(.nat .i64 3),(.nat .i64 2)] 9 143 true 0 0 0) .lf)))) (.row [(.nat .i64 1)] 1 3 false 0 0 0) .lf) (.row [(.nat .i64 1),(.nat .i64 2)] 2 3 false
  0 0 0) (.nd .lf (.row [(.sl k9 0 0 1 1),(.sl k10 0 0 2 2)] 2 34 false 0 0 0) (tr (tl (.nd .lf (.row [(.so k102 12 0 4 0),(.so k129 9 0 3 0),(.so
  k151 12 0 4 0)] 3 141 true 3 0 0) .lf))))) (.nd (.nd (tl (tr (.nd .lf (.row [(.nat .i64 3)] 1 3 false 0 0 0) .lf))) (.row [(.sl k5 0 0 2 2),(.sl k6
  0 0 1 1)] 2 34 false 0 0 0) (tr (tl (.nd .lf (.row [(.so k93 3 0 3 0),(.so k95 3 0 3 0),(.so k97 3 0 3 0),(.ref 0 k90)] 4 94 false 0 0 0) .lf))))
  (.row [(.nat .i64 3)] 1 3 false 0 0 0) (tn (tn (tr (.nd .lf (.row [(.nat .i64 2)] 1 3 false 0 0 0) .lf)) (tl (tl (.nd .lf (.row [(.sl k146 0 0 1
  1),(.nat .i64 3),(.nat .i64 0),(.sl k152 0 0 1 1),(.nat .i64 2),(.nat .i64 0),(.sl k157 0 0 1 1),(.nat .i64 1),(.nat .i64 1),(.sl k5 0 0 2 2),(.nat
  .i64 3),(.nat .i64 2)] 12 143 true 0 0 0) .lf)))) (tr (tl (.nd .lf (.row [(.bool true),(.bool true),(.bool true)] 3 4 true 0 0 0) .lf))))))), k223⟩
def a0_24 : S := ⟨(tn (tn (tn (.nd .lf (.row [(.nat .i64 1),(.nat .i64 2)] 2 3 false 0 0 0) .lf) (.nd .lf (.row [(.sl k7 0 0 1 1),(.sl k8 0 0 2 2)] 2
  34 false 0 0 0) .lf)) (.nd (.nd .lf (.row [(.nat .i64 1),(.nat .i64 1)] 2 3 false 0 0 0) (tl (tr (.nd .lf (.row [(.nat .i64 1)] 1 3 false 0 0 0)
  .lf)))) (.row [(.nat .i64 3)] 1 3 false 0 0 0) (tl (tl (tr (.nd .lf (.row [(.sl k99 0 0 1 1),(.nat .i64 3),(.nat .i64 0),(.sl k103 0 0 1 1),(.nat
  .i64 2),(.nat .i64 0),(.sl k106 0 0 1 1),(.nat .i64 1),(.nat .i64 1),(.sl k5 0 0 2 2),(.nat .i64 3),(.nat .i64 2)] 12 143 true 0 0 0) .lf)))))) (tn
  (.nd (.nd (tl (tl (tl (.nd .lf (.row [(.sl k122 0 0 1 1),(.nat .i64 1),(.nat .i64 1),(.sl k130 0 0 1 1),(.nat .i64 3),(.nat .i64 0),(.sl k5 0 0 2
  2),(.nat .i64 3),(.nat .i64 2)] 9 143 true 0 0 0) .lf)))) (.row [(.nat .i64 1)] 1 3 false 0 0 0) (tr (tl (tl (.nd .lf (.row [(.sl k146 0 0 1
  1),(.nat .i64 1),(.nat .i64 1),(.sl k154 0 0 1 1),(.nat .i64 2),(.nat .i64 0),(.sl k159 0 0 1 1),(.nat .i64 3),(.nat .i64 0),(.sl k5 0 0 2 2),(.nat
  .i64 3),(.nat .i64 2)] 12 143 true 0 0 0) .lf))))) (.row [(.nat .i64 1),(.nat .i64 2)] 2 3 false 0 0 0) (.nd .lf (.row [(.sl k9 0 0 1 1),(.sl k10 0
  0 2 2)] 2 34 false 0 0 0) (tr (tl (.nd .lf (.row [(.so k102 12 0 4 0),(.so k129 9 0 3 0),(.so k153 12 0 4 0)] 3 141 true 3 0 0) .lf))))) (.nd (.nd
  (tl (tr (.nd .lf (.row [(.nat .i64 3)] 1 3 false 0 0 0) .lf))) (.row [(.sl k5 0 0 2 2),(.sl k6 0 0 1 1)] 2 34 false 0 0 0) (tr (tl (.nd .lf (.row
  [(.so k93 3 0 3 0),(.so k95 3 0 3 0),(.so k97 3 0 3 0),(.ref 0 k90)] 4 94 false 0 0 0) .lf)))) (.row [(.nat .i64 3)] 1 3 false 0 0 0) (tn (tl (tr
  (.nd .lf (.row [(.nat .i64 2)] 1 3 false 0 0 0) .lf))) (tr (tl (.nd .lf (.row [(.bool true),(.bool true),(.bool true)] 3 4 true 0 0 0) .lf))))))),
  k224⟩
def a0_25 : S := ⟨(tn (tn (tn (.nd .lf (.row [(.nat .i64 1),(.nat .i64 2)] 2 3 false 0 0 0) .lf) (.nd .lf (.row [(.sl k7 0 0 1 1),(.sl k8 0 0 2 2)] 2
  34 false 0 0 0) .lf)) (.nd (.nd .lf (.row [(.nat .i64 1),(.nat .i64 1)] 2 3 false 0 0 0) (tl (tr (.nd .lf (.row [(.nat .i64 1)] 1 3 false 0 0 0)
  .lf)))) (.row [(.nat .i64 3)] 1 3 false 0 0 0) (tl (tl (tr (.nd .lf (.row [(.sl k99 0 0 1 1),(.nat .i64 3),(.nat .i64 0),(.sl k103 0 0 1 1),(.nat
  .i64 2),(.nat .i64 0),(.sl k106 0 0 1 1),(.nat .i64 1),(.nat .i64 1),(.sl k5 0 0 2 2),(.nat .i64 3),(.nat .i64 2)] 12 143 true 0 0 0) .lf)))))) (tn
  (.nd (.nd (tl (tl (tl (.nd .lf (.row [(.sl k122 0 0 1 1),(.nat .i64 1),(.nat .i64 1),(.sl k130 0 0 1 1),(.nat .i64 3),(.nat .i64 0),(.sl k5 0 0 2
  2),(.nat .i64 3),(.nat .i64 2)] 9 143 true 0 0 0) .lf)))) (.row [(.nat .i64 1)] 1 3 false 0 0 0) (tr (tl (tl (.nd .lf (.row [(.sl k146 0 0 1
  1),(.nat .i64 1),(.nat .i64 1),(.sl k154 0 0 1 1),(.nat .i64 3),(.nat .i64 0),(.sl k159 0 0 1 1),(.nat .i64 2),(.nat .i64 0),(.sl k5 0 0 2 2),(.nat
  .i64 3),(.nat .i64 2)] 12 143 true 0 0 0) .lf))))) (.row [(.nat .i64 1),(.nat .i64 2)] 2 3 false 0 0 0) (.nd .lf (.row [(.sl k9 0 0 1 1),(.sl k10 0
  0 2 2)] 2 34 false 0 0 0) (tr (tl (.nd .lf (.row [(.so k102 12 0 4 0),(.so k129 9 0 3 0),(.so k153 12 0 4 0)] 3 141 true 3 0 0) .lf))))) (.nd (.nd
  (tl (tr (.nd .lf (.row [(.nat .i64 3)] 1 3 false 0 0 0) .lf))) (.row [(.sl k5 0 0 2 2),(.sl k6 0 0 1 1)] 2 34 false 0 0 0) (tr (tl (.nd .lf (.row
  [(.so k93 3 0 3 0),(.so k95 3 0 3 0),(.so k97 3 0 3 0),(.ref 0 k90)] 4 94 false 0 0 0) .lf)))) (.row [(.nat .i64 3)] 1 3 false 0 0 0) (tn (tl (tr
  (.nd .lf (.row [(.nat .i64 2)] 1 3 false 0 0 0) .lf))) (tr (tl (.nd .lf (.row [(.bool true),(.bool true),(.bool true)] 3 4 true 0 0 0) .lf))))))),
  k225⟩
def a0_26 : S := ⟨(tn (tn (tn (.nd .lf (.row [(.nat .i64 1),(.nat .i64 2)] 2 3 false 0 0 0) .lf) (.nd .lf (.row [(.sl k7 0 0 1 1),(.sl k8 0 0 2 2)] 2
  34 false 0 0 0) .lf)) (.nd (.nd .lf (.row [(.nat .i64 1),(.nat .i64 1)] 2 3 false 0 0 0) (tl (tr (.nd .lf (.row [(.nat .i64 1)] 1 3 false 0 0 0)
  .lf)))) (.row [(.nat .i64 3)] 1 3 false 0 0 0) (tl (tl (tr (.nd .lf (.row [(.sl k99 0 0 1 1),(.nat .i64 3),(.nat .i64 0),(.sl k103 0 0 1 1),(.nat
  .i64 2),(.nat .i64 0),(.sl k106 0 0 1 1),(.nat .i64 1),(.nat .i64 1),(.sl k5 0 0 2 2),(.nat .i64 3),(.nat .i64 2)] 12 143 true 0 0 0) .lf)))))) (tn
  (.nd (.nd (tl (tl (tl (.nd .lf (.row [(.sl k122 0 0 1 1),(.nat .i64 1),(.nat .i64 1),(.sl k130 0 0 1 1),(.nat .i64 3),(.nat .i64 0),(.sl k5 0 0 2
  2),(.nat .i64 3),(.nat .i64 2)] 9 143 true 0 0 0) .lf)))) (.row [(.nat .i64 1)] 1 3 false 0 0 0) .lf) (.row [(.nat .i64 1),(.nat .i64 2)] 2 3 false
  0 0 0) (.nd .lf (.row [(.sl k9 0 0 1 1),(.sl k10 0 0 2 2)] 2 34 false 0 0 0) (tr (tl (.nd .lf (.row [(.so k102 12 0 4 0),(.so k129 9 0 3 0),(.so
  k151 12 0 4 0)] 3 141 true 3 0 0) .lf))))) (.nd (.nd (tl (tr (.nd .lf (.row [(.nat .i64 3)] 1 3 false 0 0 0) .lf))) (.row [(.sl k5 0 0 2 2),(.sl k6
  0 0 1 1)] 2 34 false 0 0 0) (tr (tl (.nd .lf (.row [(.so k93 3 0 3 0),(.so k95 3 0 3 0),(.so k97 3 0 3 0),(.ref 0 k90)] 4 94 false 0 0 0) .lf))))
  (.row [(.nat .i64 3)] 1 3 false 0 0 0) (tn (tn (tr (.nd .lf (.row [(.nat .i64 2)] 1 3 false 0 0 0) .lf)) (tl (tl (.nd .lf (.row [(.sl k146 0 0 1
  1),(.nat .i64 2),(.nat .i64 0),(.sl k152 0 0 1 1),(.nat .i64 1),(.nat .i64 1),(.sl k159 0 0 1 1),(.nat .i64 3),(.nat .i64 0),(.sl k5 0 0 2 2),(.nat
  .i64 3),(.nat .i64 2)] 12 143 true 0 0 0) .lf)))) (tr (tl (.nd .lf (.row [(.bool true),(.bool true),(.bool true)] 3 4 true 0 0 0) .lf))))))), k226⟩
def a0_27 : S := ⟨(tn (tn (tn (.nd .lf (.row [(.nat .i64 1),(.nat .i64 2)] 2 3 false 0 0 0) .lf) (.nd .lf (.row [(.sl k7 0 0 1 1),(.sl k8 0 0 2 2)] 2
  34 false 0 0 0) .lf)) (.nd (.nd .lf (.row [(.nat .i64 1),(.nat .i64 1)] 2 3 false 0 0 0) (tl (tr (.nd .lf (.row [(.nat .i64 1)] 1 3 false 0 0 0)
  .lf)))) (.row [(.nat .i64 3)] 1 3 false 0 0 0) (tl (tl (tr (.nd .lf (.row [(.sl k99 0 0 1 1),(.nat .i64 3),(.nat .i64 0),(.sl k103 0 0 1 1),(.nat
  .i64 2),(.nat .i64 0),(.sl k106 0 0 1 1),(.nat .i64 1),(.nat .i64 1),(.sl k5 0 0 2 2),(.nat .i64 3),(.nat .i64 2)] 12 143 true 0 0 0) .lf)))))) (tn
  (.nd (.nd (tl (tl (tl (.nd .lf (.row [(.sl k122 0 0 1 1),(.nat .i64 1),(.nat .i64 1),(.sl k130 0 0 1 1),(.nat .i64 3),(.nat .i64 0),(.sl k5 0 0 2
  2),(.nat .i64 3),(.nat .i64 2)] 9 143 true 0 0 0) .lf)))) (.row [(.nat .i64 1)] 1 3 false 0 0 0) .lf) (.row [(.nat .i64 1),(.nat .i64 2)] 2 3 false
  0 0 0) (.nd .lf (.row [(.sl k9 0 0 1 1),(.sl k10 0 0 2 2)] 2 34 false 0 0 0) (tr (tl (.nd .lf (.row [(.so k102 12 0 4 0),(.so k129 9 0 3 0),(.so
  k151 12 0 4 0)] 3 141 true 3 0 0) .lf))))) (.nd (.nd (tl (tr (.nd .lf (.row [(.nat .i64 3)] 1 3 false 0 0 0) .lf))) (.row [(.sl k5 0 0 2 2),(.sl k6
  0 0 1 1)] 2 34 false 0 0 0) (tr (tl (.nd .lf (.row [(.so k93 3 0 3 0),(.so k95 3 0 3 0),(.so k97 3 0 3 0),(.ref 0 k90)] 4 94 false 0 0 0) .lf))))
  (.row [(.nat .i64 3)] 1 3 false 0 0 0) (tn (tn (tr (.nd .lf (.row [(.nat .i64 2)] 1 3 false 0 0 0) .lf)) (tl (tl (.nd .lf (.row [(.sl k146 0 0 1
  1),(.nat .i64 2),(.nat .i64 0),(.sl k152 0 0 1 1),(.nat .i64 3),(.nat .i64 0),(.sl k157 0 0 1 1),(.nat .i64 1),(.nat .i64 1),(.sl k5 0 0 2 2),(.nat
  .i64 3),(.nat .i64 2)] 12 143 true 0 0 0) .lf)))) (tr (tl (.nd .lf (.row [(.bool true),(.bool true),(.bool true)] 3 4 true 0 0 0) .lf))))))), k227⟩
def a0_28 : S := ⟨(tn (tn (tn (.nd .lf (.row [(.nat .i64 1),(.nat .i64 2)] 2 3 false 0 0 0) .lf) (.nd .lf (.row [(.sl k7 0 0 1 1),(.sl k8 0 0 2 2)] 2
  34 false 0 0 0) .lf)) (.nd (.nd .lf (.row [(.nat .i64 1),(.nat .i64 1)] 2 3 false 0 0 0) (tl (tr (.nd .lf (.row [(.nat .i64 1)] 1 3 false 0 0 0)
  .lf)))) (.row [(.nat .i64 3)] 1 3 false 0 0 0) (tl (tl (tr (.nd .lf (.row [(.sl k99 0 0 1 1),(.nat .i64 3),(.nat .i64 0),(.sl k103 0 0 1 1),(.nat
  .i64 2),(.nat .i64 0),(.sl k106 0 0 1 1),(.nat .i64 1),(.nat .i64 1),(.sl k5 0 0 2 2),(.nat .i64 3),(.nat .i64 2)] 12 143 true 0 0 0) .lf)))))) (tn
  (.nd (.nd (tl (tl (tl (.nd .lf (.row [(.sl k122 0 0 1 1),(.nat .i64 1),(.nat .i64 1),(.sl k130 0 0 1 1),(.nat .i64 3),(.nat .i64 0),(.sl k5 0 0 2
  2),(.nat .i64 3),(.nat .i64 2)] 9 143 true 0 0 0) .lf)))) (.row [(.nat .i64 1)] 1 3 false 0 0 0) .lf) (.row [(.nat .i64 1),(.nat .i64 2)] 2 3 false
  0 0 0) (.nd .lf (.row [(.sl k9 0 0 1 1),(.sl k10 0 0 2 2)] 2 34 false 0 0 0) (tr (tl (.nd .lf (.row [(.so k102 12 0 4 0),(.so k129 9 0 3 0),(.so
  k151 12 0 4 0)] 3 141 true 3 0 0) .lf))))) (.nd (.nd (tl (tr (.nd .lf (.row [(.nat .i64 3)] 1 3 false 0 0 0) .lf))) (.row [(.sl k5 0 0 2 2),(.sl k6
  0 0 1 1)] 2 34 false 0 0 0) (tr (tl (.nd .lf (.row [(.so k93 3 0 3 0),(.so k95 3 0 3 0),(.so k97 3 0 3 0),(.ref 0 k90)] 4 94 false 0 0 0) .lf))))
  (.row [(.nat .i64 3)] 1 3 false 0 0 0) (tn (tn (tr (.nd .lf (.row [(.nat .i64 2)] 1 3 false 0 0 0) .lf)) (tl (tl (.nd .lf (.row [(.sl k146 0 0 1
  1),(.nat .i64 3),(.nat .i64 0),(.sl k152 0 0 1 1),(.nat .i64 1),(.nat .i64 1),(.sl k159 0 0 1 1),(.nat .i64 2),(.nat .i64 0),(.sl k5 0 0 2 2),(.nat
  .i64 3),(.nat .i64 2)] 12 143 true 0 0 0) .lf)))) (tr (tl (.nd .lf (.row [(.bool true),(.bool true),(.bool true)] 3 4 true 0 0 0) .lf))))))), k228⟩
def a0_29 : S := ⟨(tn (tn (tn (.nd .lf (.row [(.nat .i64 1),(.nat .i64 2)] 2 3 false 0 0 0) .lf) (.nd .lf (.row [(.sl k7 0 0 1 1),(.sl k8 0 0 2 2)] 2
  34 false 0 0 0) .lf)) (.nd (.nd .lf (.row [(.nat .i64 1),(.nat .i64 1)] 2 3 false 0 0 0) (tl (tr (.nd .lf (.row [(.nat .i64 1)] 1 3 false 0 0 0)
  .lf)))) (.row [(.nat .i64 3)] 1 3 false 0 0 0) (tl (tl (tr (.nd .lf (.row [(.sl k99 0 0 1 1),(.nat .i64 3),(.nat .i64 0),(.sl k103 0 0 1 1),(.nat
  .i64 2),(.nat .i64 0),(.sl k106 0 0 1 1),(.nat .i64 1),(.nat .i64 1),(.sl k5 0 0 2 2),(.nat .i64 3),(.nat .i64 2)] 12 143 true 0 0 0) .lf)))))) (tn
  (.nd (.nd (tl (tl (tl (.nd .lf (.row [(.sl k122 0 0 1 1),(.nat .i64 1),(.nat .i64 1),(.sl k134 0 0 1 1),(.nat .i64 3),(.nat .i64 0),(.sl k5 0 0 2
  2),(.nat .i64 3),(.nat .i64 2)] 9 143 true 0 0 0) .lf)))) (.row [(.nat .i64 1)] 1 3 false 0 0 0) .lf) (.row [(.nat .i64 1),(.nat .i64 2)] 2 3 false
  0 0 0) (.nd .lf (.row [(.sl k9 0 0 1 1),(.sl k10 0 0 2 2)] 2 34 false 0 0 0) (tr (tl (.nd .lf (.row [(.so k102 12 0 4 0),(.so k129 9 0 3 0),(.so
  k151 12 0 4 0)] 3 141 true 3 0 0) .lf))))) (.nd (.nd (tl (tr (.nd .lf (.row [(.nat .i64 3)] 1 3 false 0 0 0) .lf))) (.row [(.sl k5 0 0 2 2),(.sl k6
  0 0 1 1)] 2 34 false 0 0 0) (tr (tl (.nd .lf (.row [(.so k93 3 0 3 0),(.so k95 3 0 3 0),(.so k97 3 0 3 0),(.ref 0 k90)] 4 94 false 0 0 0) .lf))))
  (.row [(.nat .i64 3)] 1 3 false 0 0 0) (tn (tn (tr (.nd .lf (.row [(.nat .i64 2)] 1 3 false 0 0 0) .lf)) (tl (tl (.nd .lf (.row [(.sl k146 0 0 1
  1),(.nat .i64 3),(.nat .i64 0),(.sl k152 0 0 1 1),(.nat .i64 2),(.nat .i64 0),(.sl k157 0 0 1 1),(.nat .i64 1),(.nat .i64 1),(.sl k5 0 0 2 2),(.nat
  .i64 3),(.nat .i64 2)] 12 143 true 0 0 0) .lf)))) (tr (tl (.nd .lf (.row [(.bool true),(.bool true),(.bool true)] 3 4 true 0 0 0) .lf))))))), k229⟩
def a0_30 : S := ⟨(tn (tn (tn (.nd .lf (.row [(.nat .i64 1),(.nat .i64 2)] 2 3 false 0 0 0) .lf) (.nd .lf (.row [(.sl k7 0 0 1 1),(.sl k8 0 0 2 2)] 2
  34 false 0 0 0) .lf)) (.nd (.nd .lf (.row [(.nat .i64 1),(.nat .i64 1)] 2 3 false 0 0 0) (tl (tr (.nd .lf (.row [(.nat .i64 1)] 1 3 false 0 0 0)
  .lf)))) (.row [(.nat .i64 3)] 1 3 false 0 0 0) (tl (tl (tr (.nd .lf (.row [(.sl k99 0 0 1 1),(.nat .i64 3),(.nat .i64 0),(.sl k103 0 0 1 1),(.nat
  .i64 2),(.nat .i64 0),(.sl k106 0 0 1 1),(.nat .i64 1),(.nat .i64 1),(.sl k5 0 0 2 2),(.nat .i64 3),(.nat .i64 2)] 12 143 true 0 0 0) .lf)))))) (tn
  (.nd (.nd (tl (tl (tl (.nd .lf (.row [(.sl k122 0 0 1 1),(.nat .i64 1),(.nat .i64 1),(.sl k134 0 0 1 1),(.nat .i64 3),(.nat .i64 0),(.sl k5 0 0 2
  2),(.nat .i64 3),(.nat .i64 2)] 9 143 true 0 0 0) .lf)))) (.row [(.nat .i64 1)] 1 3 false 0 0 0) (tr (tl (tl (.nd .lf (.row [(.sl k146 0 0 1
  1),(.nat .i64 1),(.nat .i64 1),(.sl k154 0 0 1 1),(.nat .i64 2),(.nat .i64 0),(.sl k159 0 0 1 1),(.nat .i64 3),(.nat .i64 0),(.sl k5 0 0 2 2),(.nat
  .i64 3),(.nat .i64 2)] 12 143 true 0 0 0) .lf))))) (.row [(.nat .i64 1),(.nat .i64 2)] 2 3 false 0 0 0) (.nd .lf (.row [(.sl k9 0 0 1 1),(.sl k10 0
  0 2 2)] 2 34 false 0 0 0) (tr (tl (.nd .lf (.row [(.so k102 12 0 4 0),(.so k129 9 0 3 0),(.so k153 12 0 4 0)] 3 141 true 3 0 0) .lf))))) (.nd (.nd
  (tl (tr (.nd .lf (.row [(.nat .i64 3)] 1 3 false 0 0 0) .lf))) (.row [(.sl k5 0 0 2 2),(.sl k6 0 0 1 1)] 2 34 false 0 0 0) (tr (tl (.nd .lf (.row
  [(.so k93 3 0 3 0),(.so k95 3 0 3 0),(.so k97 3 0 3 0),(.ref 0 k90)] 4 94 false 0 0 0) .lf)))) (.row [(.nat .i64 3)] 1 3 false 0 0 0) (tn (tl (tr
  (.nd .lf (.row [(.nat .i64 2)] 1 3 false 0 0 0) .lf))) (tr (tl (.nd .lf (.row [(.bool true),(.bool true),(.bool true)] 3 4 true 0 0 0) .lf))))))),
  k230⟩
def a0_31 : S := ⟨(tn (tn (tn (.nd .lf (.row [(.nat .i64 1),(.nat .i64 2)] 2 3 false 0 0 0) .lf) (.nd .lf (.row [(.sl k7 0 0 1 1),(.sl k8 0 0 2 2)] 2
  34 false 0 0 0) .lf)) (.nd (.nd .lf (.row [(.nat .i64 1),(.nat .i64 1)] 2 3 false 0 0 0) (tl (tr (.nd .lf (.row [(.nat .i64 1)] 1 3 false 0 0 0)
  .lf)))) (.row [(.nat .i64 3)] 1 3 false 0 0 0) (tl (tl (tr (.nd .lf (.row [(.sl k99 0 0 1 1),(.nat .i64 3),(.nat .i64 0),(.sl k103 0 0 1 1),(.nat
  .i64 2),(.nat .i64 0),(.sl k106 0 0 1 1),(.nat .i64 1),(.nat .i64 1),(.sl k5 0 0 2 2),(.nat .i64 3),(.nat .i64 2)] 12 143 true 0 0 0) .lf)))))) (tn
  (.nd (.nd (tl (tl (tl (.nd .lf (.row [(.sl k122 0 0 1 1),(.nat .i64 1),(.nat .i64 1),(.sl k134 0 0 1 1),(.nat .i64 3),(.nat .i64 0),(.sl k5 0 0 2
  2),(.nat .i64 3),(.nat .i64 2)] 9 143 true 0 0 0) .lf)))) (.row [(.nat .i64 1)] 1 3 false 0 0 0) (tr (tl (tl (.nd .lf (.row [(.sl k146 0 0 1
  1),(.nat .i64 1),(.nat .i64 1),(.sl k154 0 0 1 1),(.nat .i64 3),(.nat .i64 0),(.sl k159 0 0 1 1),(.nat .i64 2),(.nat .i64 0),(.sl k5 0 0 2 2),(.nat
  .i64 3),(.nat .i64 2)] 12 143 true 0 0 0) .lf))))) (.row [(.nat .i64 1),(.nat .i64 2)] 2 3 false 0 0 0) (.nd .lf (.row [(.sl k9 0 0 1 1),(.sl k10 0
  0 2 2)] 2 34 false 0 0 0) (tr (tl (.nd .lf (.row [(.so k102 12 0 4 0),(.so k129 9 0 3 0),(.so k153 12 0 4 0)] 3 141 true 3 0 0) .lf))))) (.nd (.nd
  (tl (tr (.nd .lf (.row [(.nat .i64 3)] 1 3 false 0 0 0) .lf))) (.row [(.sl k5 0 0 2 2),(.sl k6 0 0 1 1)] 2 34 false 0 0 0) (tr (tl (.nd .lf (.row
  [(.so k93 3 0 3 0),(.so k95 3 0 3 0),(.so k97 3 0 3 0),(.ref 0 k90)] 4 94 false 0 0 0) .lf)))) (.row [(.nat .i64 3)] 1 3 false 0 0 0) (tn (tl (tr
  (.nd .lf (.row [(.nat .i64 2)] 1 3 false 0 0 0) .lf))) (tr (tl (.nd .lf (.row [(.bool true),(.bool true),(.bool true)] 3 4 true 0 0 0) .lf))))))),
  k231⟩
def a0_32 : S := ⟨(tn (tn (tn (.nd .lf (.row [(.nat .i64 1),(.nat .i64 2)] 2 3 false 0 0 0) .lf) (.nd .lf (.row [(.sl k7 0 0 1 1),(.sl k8 0 0 2 2)] 2
  34 false 0 0 0) .lf)) (.nd (.nd .lf (.row [(.nat .i64 1),(.nat .i64 1)] 2 3 false 0 0 0) (tl (tr (.nd .lf (.row [(.nat .i64 1)] 1 3 false 0 0 0)
  .lf)))) (.row [(.nat .i64 3)] 1 3 false 0 0 0) (tl (tl (tr (.nd .lf (.row [(.sl k99 0 0 1 1),(.nat .i64 3),(.nat .i64 0),(.sl k103 0 0 1 1),(.nat
  .i64 2),(.nat .i64 0),(.sl k106 0 0 1 1),(.nat .i64 1),(.nat .i64 1),(.sl k5 0 0 2 2),(.nat .i64 3),(.nat .i64 2)] 12 143 true 0 0 0) .lf)))))) (tn
  (.nd (.nd (tl (tl (tl (.nd .lf (.row [(.sl k122 0 0 1 1),(.nat .i64 1),(.nat .i64 1),(.sl k134 0 0 1 1),(.nat .i64 3),(.nat .i64 0),(.sl k5 0 0 2
  2),(.nat .i64 3),(.nat .i64 2)] 9 143 true 0 0 0) .lf)))) (.row [(.nat .i64 1)] 1 3 false 0 0 0) .lf) (.row [(.nat .i64 1),(.nat .i64 2)] 2 3 false
  0 0 0) (.nd .lf (.row [(.sl k9 0 0 1 1),(.sl k10 0 0 2 2)] 2 34 false 0 0 0) (tr (tl (.nd .lf (.row [(.so k102 12 0 4 0),(.so k129 9 0 3 0),(.so
  k151 12 0 4 0)] 3 141 true 3 0 0) .lf))))) (.nd (.nd (tl (tr (.nd .lf (.row [(.nat .i64 3)] 1 3 false 0 0 0) .lf))) (.row [(.sl k5 0 0 2 2),(.sl k6
  0 0 1 1)] 2 34 false 0 0 0) (tr (tl (.nd .lf (.row [(.so k93 3 0 3 0),(.so k95 3 0 3 0),(.so k97 3 0 3 0),(.ref 0 k90)] 4 94 false 0 0 0) .lf))))
  (.row [(.nat .i64 3)] 1 3 false 0 0 0) (tn (tn (tr (.nd .lf (.row [(.nat .i64 2)] 1 3 false 0 0 0) .lf)) (tl (tl (.nd .lf (.row [(.sl k146 0 0 1
  1),(.nat .i64 2),(.nat .i64 0),(.sl k152 0 0 1 1),(.nat .i64 1),(.nat .i64 1),(.sl k159 0 0 1 1),(.nat .i64 3),(.nat .i64 0),(.sl k5 0 0 2 2),(.nat
  .i64 3),(.nat .i64 2)] 12 143 true 0 0 0) .lf)))) (tr (tl (.nd .lf (.row [(.bool true),(.bool true),(.bool true)] 3 4 true 0 0 0) .lf))))))), k232⟩
def a0_33 : S := ⟨(tn (tn (tn (.nd .lf (.row [(.nat .i64 1),(.nat .i64 2)] 2 3 false 0 0 0) .lf) (.nd .lf (.row [(.sl k7 0 0 1 1),(.sl k8 0 0 2 2)] 2
  34 false 0 0 0) .lf)) (.nd (.nd .lf (.row [(.nat .i64 1),(.nat .i64 1)] 2 3 false 0 0 0) (tl (tr (.nd .lf (.row [(.nat .i64 1)] 1 3 false 0 0 0)
  .lf)))) (.row [(.nat .i64 3)] 1 3 false 0 0 0) (tl (tl (tr (.nd .lf (.row [(.sl k99 0 0 1 1),(.nat .i64 3),(.nat .i64 0),(.sl k103 0 0 1 1),(.nat
  .i64 2),(.nat .i64 0),(.sl k106 0 0 1 1),(.nat .i64 1),(.nat .i64 1),(.sl k5 0 0 2 2),(.nat .i64 3),(.nat .i64 2)] 12 143 true 0 0 0) .lf)))))) (tn
  (.nd (.nd (tl (tl (tl (.nd .lf (.row [(.sl k122 0 0 1 1),(.nat .i64 1),(.nat .i64 1),(.sl k134 0 0 1 1),(.nat .i64 3),(.nat .i64 0),(.sl k5 0 0 2
  2),(.nat .i64 3),(.nat .i64 2)] 9 143 true 0 0 0) .lf)))) (.row [(.nat .i64 1)] 1 3 false 0 0 0) .lf) (.row [(.nat .i64 1),(.nat .i64 2)] 2 3 false
  0 0 0) (.nd .lf (.row [(.sl k9 0 0 1 1),(.sl k10 0 0 2 2)] 2 34 false 0 0 0) (tr (tl (.nd .lf (.row [(.so k102 12 0 4 0),(.so k129 9 0 3 0),(.so
  k151 12 0 4 0)] 3 141 true 3 0 0) .lf))))) (.nd (.nd (tl (tr (.nd .lf (.row [(.nat .i64 3)] 1 3 false 0 0 0) .lf))) (.row [(.sl k5 0 0 2 2),(.sl k6
  0 0 1 1)] 2 34 false 0 0 0) (tr (tl (.nd .lf (.row [(.so k93 3 0 3 0),(.so k95 3 0 3 0),(.so k97 3 0 3 0),(.ref 0 k90)] 4 94 false 0 0 0) .lf))))
  (.row [(.nat .i64 3)] 1 3 false 0 0 0) (tn (tn (tr (.nd .lf (.row [(.nat .i64 2)] 1 3 false 0 0 0) .lf)) (tl (tl (.nd .lf (.row [(.sl k146 0 0 1
  1),(.nat .i64 2),(.nat .i64 0),(.sl k152 0 0 1 1),(.nat .i64 3),(.nat .i64 0),(.sl k157 0 0 1 1),(.nat .i64 1),(.nat .i64 1),(.sl k5 0 0 2 2),(.nat
  .i64 3),(.nat .i64 2)] 12 143 true 0 0 0) .lf)))) (tr (tl (.nd .lf (.row [(.bool true),(.bool true),(.bool true)] 3 4 true 0 0 0) .lf))))))), k233⟩
def a0_34 : S := ⟨(tn (tn (tn (.nd .lf (.row [(.nat .i64 1),(.nat .i64 2)] 2 3 false 0 0 0) .lf) (.nd .lf (.row [(.sl k7 0 0 1 1),(.sl k8 0 0 2 2)] 2
  34 false 0 0 0) .lf)) (.nd (.nd .lf (.row [(.nat .i64 1),(.nat .i64 1)] 2 3 false 0 0 0) (tl (tr (.nd .lf (.row [(.nat .i64 1)] 1 3 false 0 0 0)
  .lf)))) (.row [(.nat .i64 3)] 1 3 false 0 0 0) (tl (tl (tr (.nd .lf (.row [(.sl k99 0 0 1 1),(.nat .i64 3),(.nat .i64 0),(.sl k103 0 0 1 1),(.nat
  .i64 2),(.nat .i64 0),(.sl k106 0 0 1 1),(.nat .i64 1),(.nat .i64 1),(.sl k5 0 0 2 2),(.nat .i64 3),(.nat .i64 2)] 12 143 true 0 0 0) .lf)))))) (tn
  (.nd (.nd (tl (tl (tl (.nd .lf (.row [(.sl k122 0 0 1 1),(.nat .i64 1),(.nat .i64 1),(.sl k134 0 0 1 1),(.nat .i64 3),(.nat .i64 0),(.sl k5 0 0 2
  2),(.nat .i64 3),(.nat .i64 2)] 9 143 true 0 0 0) .lf)))) (.row [(.nat .i64 1)] 1 3 false 0 0 0) .lf) (.row [(.nat .i64 1),(.nat .i64 2)] 2 3 false
  0 0 0) (.nd .lf (.row [(.sl k9 0 0 1 1),(.sl k10 0 0 2 2)] 2 34 false 0 0 0) (tr (tl (.nd .lf (.row [(.so k102 12 0 4 0),(.so k129 9 0 3 0),(.so
  k151 12 0 4 0)] 3 141 true 3 0 0) .lf))))) (.nd (.nd (tl (tr (.nd .lf (.row [(.nat .i64 3)] 1 3 false 0 0 0) .lf))) (.row [(.sl k5 0 0 2 2),(.sl k6
  0 0 1 1)] 2 34 false 0 0 0) (tr (tl (.nd .lf (.row [(.so k93 3 0 3 0),(.so k95 3 0 3 0),(.so k97 3 0 3 0),(.ref 0 k90)] 4 94 false 0 0 0) .lf))))
  (.row [(.nat .i64 3)] 1 3 false 0 0 0) (tn (tn (tr (.nd .lf (.row [(.nat .i64 2)] 1 3 false 0 0 0) .lf)) (tl (tl (.nd .lf (.row [(.sl k146 0 0 1
  1),(.nat .i64 3),(.nat .i64 0),(.sl k152 0 0 1 1),(.nat .i64 1),(.nat .i64 1),(.sl k159 0 0 1 1),(.nat .i64 2),(.nat .i64 0),(.sl k5 0 0 2 2),(.nat
  .i64 3),(.nat .i64 2)] 12 143 true 0 0 0) .lf)))) (tr (tl (.nd .lf (.row [(.bool true),(.bool true),(.bool true)] 3 4 true 0 0 0) .lf))))))), k234⟩
def a0_35 : S := ⟨(tn (tn (tn (.nd .lf (.row [(.nat .i64 1),(.nat .i64 2)] 2 3 false 0 0 0) .lf) (.nd .lf (.row [(.sl k7 0 0 1 1),(.sl k8 0 0 2 2)] 2
  34 false 0 0 0) .lf)) (.nd (.nd .lf (.row [(.nat .i64 1),(.nat .i64 1)] 2 3 false 0 0 0) .lf) (.row [(.nat .i64 3)] 1 3 false 0 0 0) (tl (tl (tr
  (.nd .lf (.row [(.sl k99 0 0 1 1),(.nat .i64 3),(.nat .i64 0),(.sl k103 0 0 1 1),(.nat .i64 1),(.nat .i64 1),(.sl k111 0 0 1 1),(.nat .i64 2),(.nat
  .i64 0),(.sl k5 0 0 2 2),(.nat .i64 3),(.nat .i64 2)] 12 143 true 0 0 0) .lf)))))) (tn (.nd (.nd .lf (.row [(.nat .i64 1)] 1 3 false 0 0 0) .lf)
  (.row [(.nat .i64 1),(.nat .i64 2)] 2 3 false 0 0 0) (.nd .lf (.row [(.sl k9 0 0 1 1),(.sl k10 0 0 2 2)] 2 34 false 0 0 0) (tr (tl (.nd .lf (.row
  [(.so k102 12 0 4 0),(.so k127 9 0 3 0),(.so k151 12 0 4 0)] 3 141 true 3 0 0) .lf))))) (.nd (.nd (tl (tr (.nd .lf (.row [(.nat .i64 3)] 1 3 false 0
  0 0) .lf))) (.row [(.sl k5 0 0 2 2),(.sl k6 0 0 1 1)] 2 34 false 0 0 0) (tr (tl (.nd .lf (.row [(.so k93 3 0 3 0),(.so k95 3 0 3 0),(.so k97 3 0 3
  0),(.ref 0 k90)] 4 94 false 0 0 0) .lf)))) (.row [(.nat .i64 3)] 1 3 false 0 0 0) (tn (tn (tr (.nd .lf (.row [(.nat .i64 1)] 1 3 false 0 0 0) .lf))
  (tl (tl (.nd .lf (.row [(.sl k146 0 0 1 1),(.nat .i64 3),(.nat .i64 0),(.sl k152 0 0 1 1),(.nat .i64 2),(.nat .i64 0),(.sl k157 0 0 1 1),(.nat .i64
  1),(.nat .i64 1),(.sl k5 0 0 2 2),(.nat .i64 3),(.nat .i64 2)] 12 143 true 0 0 0) .lf)))) (tn (tr (.nd .lf (.row [(.nat .i64 2)] 1 3 false 0 0 0)
  .lf)) (tn (.nd .lf (.row [(.bool true),(.bool true),(.bool true)] 3 4 true 0 0 0) .lf) (.nd .lf (.row [(.sl k122 0 0 1 1),(.nat .i64 3),(.nat .i64
  0),(.sl k132 0 0 1 1),(.nat .i64 1),(.nat .i64 1),(.sl k5 0 0 2 2),(.nat .i64 3),(.nat .i64 2)] 9 143 true 0 0 0) .lf))))))), k235⟩
def a0_36 : S := ⟨(tn (tn (tn (.nd .lf (.row [(.nat .i64 1),(.nat .i64 2)] 2 3 false 0 0 0) .lf) (.nd .lf (.row [(.sl k7 0 0 1 1),(.sl k8 0 0 2 2)] 2
  34 false 0 0 0) .lf)) (.nd (.nd .lf (.row [(.nat .i64 1),(.nat .i64 1)] 2 3 false 0 0 0) .lf) (.row [(.nat .i64 3)] 1 3 false 0 0 0) (tl (tl (tr
  (.nd .lf (.row [(.sl k99 0 0 1 1),(.nat .i64 3),(.nat .i64 0),(.sl k103 0 0 1 1),(.nat .i64 1),(.nat .i64 1),(.sl k111 0 0 1 1),(.nat .i64 2),(.nat
  .i64 0),(.sl k5 0 0 2 2),(.nat .i64 3),(.nat .i64 2)] 12 143 true 0 0 0) .lf)))))) (tn (.nd (.nd (tl (tl (tl (.nd .lf (.row [(.sl k122 0 0 1
  1),(.nat .i64 1),(.nat .i64 1),(.sl k134 0 0 1 1),(.nat .i64 3),(.nat .i64 0),(.sl k5 0 0 2 2),(.nat .i64 3),(.nat .i64 2)] 9 143 true 0 0 0)
  .lf)))) (.row [(.nat .i64 1)] 1 3 false 0 0 0) .lf) (.row [(.nat .i64 1),(.nat .i64 2)] 2 3 false 0 0 0) (.nd .lf (.row [(.sl k9 0 0 1 1),(.sl k10 0
  0 2 2)] 2 34 false 0 0 0) (tr (tl (.nd .lf (.row [(.so k102 12 0 4 0),(.so k129 9 0 3 0),(.so k151 12 0 4 0)] 3 141 true 3 0 0) .lf))))) (.nd (.nd
  (tl (tr (.nd .lf (.row [(.nat .i64 3)] 1 3 false 0 0 0) .lf))) (.row [(.sl k5 0 0 2 2),(.sl k6 0 0 1 1)] 2 34 false 0 0 0) (tr (tl (.nd .lf (.row
  [(.so k93 3 0 3 0),(.so k95 3 0 3 0),(.so k97 3 0 3 0),(.ref 0 k90)] 4 94 false 0 0 0) .lf)))) (.row [(.nat .i64 3)] 1 3 false 0 0 0) (tn (tn (tr
  (.nd .lf (.row [(.nat .i64 1)] 1 3 false 0 0 0) .lf)) (tl (tl (.nd .lf (.row [(.sl k146 0 0 1 1),(.nat .i64 3),(.nat .i64 0),(.sl k152 0 0 1
  1),(.nat .i64 1),(.nat .i64 1),(.sl k159 0 0 1 1),(.nat .i64 2),(.nat .i64 0),(.sl k5 0 0 2 2),(.nat .i64 3),(.nat .i64 2)] 12 143 true 0 0 0)
  .lf)))) (tn (tr (.nd .lf (.row [(.nat .i64 2)] 1 3 false 0 0 0) .lf)) (tl (.nd .lf (.row [(.bool true),(.bool true),(.bool true)] 3 4 true 0 0 0)
  .lf))))))), k236⟩
def a0_37 : S := ⟨(tn (tn (tn (.nd .lf (.row [(.nat .i64 1),(.nat .i64 2)] 2 3 false 0 0 0) .lf) (.nd .lf (.row [(.sl k7 0 0 1 1),(.sl k8 0 0 2 2)] 2
  34 false 0 0 0) .lf)) (.nd (.nd .lf (.row [(.nat .i64 1),(.nat .i64 1)] 2 3 false 0 0 0) .lf) (.row [(.nat .i64 3)] 1 3 false 0 0 0) (tl (tl (tr
  (.nd .lf (.row [(.sl k99 0 0 1 1),(.nat .i64 3),(.nat .i64 0),(.sl k103 0 0 1 1),(.nat .i64 1),(.nat .i64 1),(.sl k111 0 0 1 1),(.nat .i64 2),(.nat
  .i64 0),(.sl k5 0 0 2 2),(.nat .i64 3),(.nat .i64 2)] 12 143 true 0 0 0) .lf)))))) (tn (.nd (.nd (tl (tl (tl (.nd .lf (.row [(.sl k122 0 0 1
  1),(.nat .i64 1),(.nat .i64 1),(.sl k134 0 0 1 1),(.nat .i64 3),(.nat .i64 0),(.sl k5 0 0 2 2),(.nat .i64 3),(.nat .i64 2)] 9 143 true 0 0 0)
  .lf)))) (.row [(.nat .i64 1)] 1 3 false 0 0 0) .lf) (.row [(.nat .i64 1),(.nat .i64 2)] 2 3 false 0 0 0) (.nd .lf (.row [(.sl k9 0 0 1 1),(.sl k10 0
  0 2 2)] 2 34 false 0 0 0) (tr (tl (.nd .lf (.row [(.so k102 12 0 4 0),(.so k129 9 0 3 0),(.so k151 12 0 4 0)] 3 141 true 3 0 0) .lf))))) (.nd (.nd
  (tl (tr (.nd .lf (.row [(.nat .i64 3)] 1 3 false 0 0 0) .lf))) (.row [(.sl k5 0 0 2 2),(.sl k6 0 0 1 1)] 2 34 false 0 0 0) (tr (tl (.nd .lf (.row
  [(.so k93 3 0 3 0),(.so k95 3 0 3 0),(.so k97 3 0 3 0),(.ref 0 k90)] 4 94 false 0 0 0) .lf)))) (.row [(.nat .i64 3)] 1 3 false 0 0 0) (tn (tn (tr
  (.nd .lf (.row [(.nat .i64 1)] 1 3 false 0 0 0) .lf)) (tl (tl (.nd .lf (.row [(.sl k146 0 0 1 1),(.nat .i64 2),(.nat .i64 0),(.sl k152 0 0 1
  1),(.nat .i64 3),(.nat .i64 0),(.sl k157 0 0 1 1),(.nat .i64 1),(.nat .i64 1),(.sl k5 0 0 2 2),(.nat .i64 3),(.nat .i64 2)] 12 143 true 0 0 0)
  .lf)))) (tn (tr (.nd .lf (.row [(.nat .i64 2)] 1 3 false 0 0 0) .lf)) (tl (.nd .lf (.row [(.bool true),(.bool true),(.bool true)] 3 4 true 0 0 0)
  .lf))))))), k237⟩
def a0_38 : S := ⟨(tn (tn (tn (.nd .lf (.row [(.nat .i64 1),(.nat .i64 2)] 2 3 false 0 0 0) .lf) (.nd .lf (.row [(.sl k7 0 0 1 1),(.sl k8 0 0 2 2)] 2
  34 false 0 0 0) .lf)) (.nd (.nd .lf (.row [(.nat .i64 1),(.nat .i64 1)] 2 3 false 0 0 0) .lf) (.row [(.nat .i64 3)] 1 3 false 0 0 0) (tl (tl (tr
  (.nd .lf (.row [(.sl k99 0 0 1 1),(.nat .i64 3),(.nat .i64 0),(.sl k103 0 0 1 1),(.nat .i64 1),(.nat .i64 1),(.sl k111 0 0 1 1),(.nat .i64 2),(.nat
  .i64 0),(.sl k5 0 0 2 2),(.nat .i64 3),(.nat .i64 2)] 12 143 true 0 0 0) .lf)))))) (tn (.nd (.nd (tl (tl (tl (.nd .lf (.row [(.sl k122 0 0 1
  1),(.nat .i64 1),(.nat .i64 1),(.sl k134 0 0 1 1),(.nat .i64 3),(.nat .i64 0),(.sl k5 0 0 2 2),(.nat .i64 3),(.nat .i64 2)] 9 143 true 0 0 0)
  .lf)))) (.row [(.nat .i64 1)] 1 3 false 0 0 0) .lf) (.row [(.nat .i64 1),(.nat .i64 2)] 2 3 false 0 0 0) (.nd .lf (.row [(.sl k9 0 0 1 1),(.sl k10 0
  0 2 2)] 2 34 false 0 0 0) (tr (tl (.nd .lf (.row [(.so k102 12 0 4 0),(.so k129 9 0 3 0),(.so k151 12 0 4 0)] 3 141 true 3 0 0) .lf))))) (.nd (.nd
  (tl (tr (.nd .lf (.row [(.nat .i64 3)] 1 3 false 0 0 0) .lf))) (.row [(.sl k5 0 0 2 2),(.sl k6 0 0 1 1)] 2 34 false 0 0 0) (tr (tl (.nd .lf (.row
  [(.so k93 3 0 3 0),(.so k95 3 0 3 0),(.so k97 3 0 3 0),(.ref 0 k90)] 4 94 false 0 0 0) .lf)))) (.row [(.nat .i64 3)] 1 3 false 0 0 0) (tn (tn (tr
  (.nd .lf (.row [(.nat .i64 1)] 1 3 false 0 0 0) .lf)) (tl (tl (.nd .lf (.row [(.sl k146 0 0 1 1),(.nat .i64 2),(.nat .i64 0),(.sl k152 0 0 1
  1),(.nat .i64 1),(.nat .i64 1),(.sl k159 0 0 1 1),(.nat .i64 3),(.nat .i64 0),(.sl k5 0 0 2 2),(.nat .i64 3),(.nat .i64 2)] 12 143 true 0 0 0)
  .lf)))) (tn (tr (.nd .lf (.row [(.nat .i64 2)] 1 3 false 0 0 0) .lf)) (tl (.nd .lf (.row [(.bool true),(.bool true),(.bool true)] 3 4 true 0 0 0)
  .lf))))))), k238⟩
def a0_39 : S := ⟨(tn (tn (tn (.nd .lf (.row [(.nat .i64 1),(.nat .i64 2)] 2 3 false 0 0 0) .lf) (.nd .lf (.row [(.sl k7 0 0 1 1),(.sl k8 0 0 2 2)] 2
  34 false 0 0 0) .lf)) (.nd (.nd .lf (.row [(.nat .i64 1),(.nat .i64 1)] 2 3 false 0 0 0) .lf) (.row [(.nat .i64 3)] 1 3 false 0 0 0) (tl (tl (tr
  (.nd .lf (.row [(.sl k99 0 0 1 1),(.nat .i64 3),(.nat .i64 0),(.sl k103 0 0 1 1),(.nat .i64 1),(.nat .i64 1),(.sl k111 0 0 1 1),(.nat .i64 2),(.nat
  .i64 0),(.sl k5 0 0 2 2),(.nat .i64 3),(.nat .i64 2)] 12 143 true 0 0 0) .lf)))))) (tn (.nd (.nd (tl (tl (tl (.nd .lf (.row [(.sl k122 0 0 1
  1),(.nat .i64 1),(.nat .i64 1),(.sl k134 0 0 1 1),(.nat .i64 3),(.nat .i64 0),(.sl k5 0 0 2 2),(.nat .i64 3),(.nat .i64 2)] 9 143 true 0 0 0)
  .lf)))) (.row [(.nat .i64 1)] 1 3 false 0 0 0) (tr (tl (tl (.nd .lf (.row [(.sl k146 0 0 1 1),(.nat .i64 1),(.nat .i64 1),(.sl k154 0 0 1 1),(.nat
  .i64 3),(.nat .i64 0),(.sl k159 0 0 1 1),(.nat .i64 2),(.nat .i64 0),(.sl k5 0 0 2 2),(.nat .i64 3),(.nat .i64 2)] 12 143 true 0 0 0) .lf))))) (.row
  [(.nat .i64 1),(.nat .i64 2)] 2 3 false 0 0 0) (.nd .lf (.row [(.sl k9 0 0 1 1),(.sl k10 0 0 2 2)] 2 34 false 0 0 0) (tr (tl (.nd .lf (.row [(.so
  k102 12 0 4 0),(.so k129 9 0 3 0),(.so k153 12 0 4 0)] 3 141 true 3 0 0) .lf))))) (.nd (.nd (tl (tr (.nd .lf (.row [(.nat .i64 3)] 1 3 false 0 0 0)
  .lf))) (.row [(.sl k5 0 0 2 2),(.sl k6 0 0 1 1)] 2 34 false 0 0 0) (tr (tl (.nd .lf (.row [(.so k93 3 0 3 0),(.so k95 3 0 3 0),(.so k97 3 0 3
  0),(.ref 0 k90)] 4 94 false 0 0 0) .lf)))) (.row [(.nat .i64 3)] 1 3 false 0 0 0) (tn (tl (tr (.nd .lf (.row [(.nat .i64 1)] 1 3 false 0 0 0) .lf)))
  (tn (tr (.nd .lf (.row [(.nat .i64 2)] 1 3 false 0 0 0) .lf)) (tl (.nd .lf (.row [(.bool true),(.bool true),(.bool true)] 3 4 true 0 0 0)
  .lf))))))), k239⟩
def a0_40 : S := ⟨(tn (tn (tn (.nd .lf (.row [(.nat .i64 1),(.nat .i64 2)] 2 3 false 0 0 0) .lf) (.nd .lf (.row [(.sl k7 0 0 1 1),(.sl k8 0 0 2 2)] 2
  34 false 0 0 0) .lf)) (.nd (.nd .lf (.row [(.nat .i64 1),(.nat .i64 1)] 2 3 false 0 0 0) .lf) (.row [(.nat .i64 3)] 1 3 false 0 0 0) (tl (tl (tr
  (.nd .lf (.row [(.sl k99 0 0 1 1),(.nat .i64 3),(.nat .i64 0),(.sl k103 0 0 1 1),(.nat .i64 1),(.nat .i64 1),(.sl k111 0 0 1 1),(.nat .i64 2),(.nat
  .i64 0),(.sl k5 0 0 2 2),(.nat .i64 3),(.nat .i64 2)] 12 143 true 0 0 0) .lf)))))) (tn (.nd (.nd (tl (tl (tl (.nd .lf (.row [(.sl k122 0 0 1
  1),(.nat .i64 1),(.nat .i64 1),(.sl k134 0 0 1 1),(.nat .i64 3),(.nat .i64 0),(.sl k5 0 0 2 2),(.nat .i64 3),(.nat .i64 2)] 9 143 true 0 0 0)
  .lf)))) (.row [(.nat .i64 1)] 1 3 false 0 0 0) (tr (tl (tl (.nd .lf (.row [(.sl k146 0 0 1 1),(.nat .i64 1),(.nat .i64 1),(.sl k154 0 0 1 1),(.nat
  .i64 2),(.nat .i64 0),(.sl k159 0 0 1 1),(.nat .i64 3),(.nat .i64 0),(.sl k5 0 0 2 2),(.nat .i64 3),(.nat .i64 2)] 12 143 true 0 0 0) .lf))))) (.row
  [(.nat .i64 1),(.nat .i64 2)] 2 3 false 0 0 0) (.nd .lf (.row [(.sl k9 0 0 1 1),(.sl k10 0 0 2 2)] 2 34 false 0 0 0) (tr (tl (.nd .lf (.row [(.so
  k102 12 0 4 0),(.so k129 9 0 3 0),(.so k153 12 0 4 0)] 3 141 true 3 0 0) .lf))))) (.nd (.nd (tl (tr (.nd .lf (.row [(.nat .i64 3)] 1 3 false 0 0 0)
  .lf))) (.row [(.sl k5 0 0 2 2),(.sl k6 0 0 1 1)] 2 34 false 0 0 0) (tr (tl (.nd .lf (.row [(.so k93 3 0 3 0),(.so k95 3 0 3 0),(.so k97 3 0 3
  0),(.ref 0 k90)] 4 94 false 0 0 0) .lf)))) (.row [(.nat .i64 3)] 1 3 false 0 0 0) (tn (tl (tr (.nd .lf (.row [(.nat .i64 1)] 1 3 false 0 0 0) .lf)))
  (tn (tr (.nd .lf (.row [(.nat .i64 2)] 1 3 false 0 0 0) .lf)) (tl (.nd .lf (.row [(.bool true),(.bool true),(.bool true)] 3 4 true 0 0 0)
  .lf))))))), k240⟩
def a0_41 : S := ⟨(tn (tn (tn (.nd .lf (.row [(.nat .i64 1),(.nat .i64 2)] 2 3 false 0 0 0) .lf) (.nd .lf (.row [(.sl k7 0 0 1 1),(.sl k8 0 0 2 2)] 2
  34 false 0 0 0) .lf)) (.nd (.nd .lf (.row [(.nat .i64 1),(.nat .i64 1)] 2 3 false 0 0 0) .lf) (.row [(.nat .i64 3)] 1 3 false 0 0 0) (tl (tl (tr
  (.nd .lf (.row [(.sl k99 0 0 1 1),(.nat .i64 3),(.nat .i64 0),(.sl k103 0 0 1 1),(.nat .i64 1),(.nat .i64 1),(.sl k111 0 0 1 1),(.nat .i64 2),(.nat
  .i64 0),(.sl k5 0 0 2 2),(.nat .i64 3),(.nat .i64 2)] 12 143 true 0 0 0) .lf)))))) (tn (.nd (.nd (tl (tl (tl (.nd .lf (.row [(.sl k122 0 0 1
  1),(.nat .i64 1),(.nat .i64 1),(.sl k134 0 0 1 1),(.nat .i64 3),(.nat .i64 0),(.sl k5 0 0 2 2),(.nat .i64 3),(.nat .i64 2)] 9 143 true 0 0 0)
  .lf)))) (.row [(.nat .i64 1)] 1 3 false 0 0 0) .lf) (.row [(.nat .i64 1),(.nat .i64 2)] 2 3 false 0 0 0) (.nd .lf (.row [(.sl k9 0 0 1 1),(.sl k10 0
  0 2 2)] 2 34 false 0 0 0) (tr (tl (.nd .lf (.row [(.so k102 12 0 4 0),(.so k129 9 0 3 0),(.so k151 12 0 4 0)] 3 141 true 3 0 0) .lf))))) (.nd (.nd
  (tl (tr (.nd .lf (.row [(.nat .i64 3)] 1 3 false 0 0 0) .lf))) (.row [(.sl k5 0 0 2 2),(.sl k6 0 0 1 1)] 2 34 false 0 0 0) (tr (tl (.nd .lf (.row
  [(.so k93 3 0 3 0),(.so k95 3 0 3 0),(.so k97 3 0 3 0),(.ref 0 k90)] 4 94 false 0 0 0) .lf)))) (.row [(.nat .i64 3)] 1 3 false 0 0 0) (tn (tn (tr
  (.nd .lf (.row [(.nat .i64 1)] 1 3 false 0 0 0) .lf)) (tl (tl (.nd .lf (.row [(.sl k146 0 0 1 1),(.nat .i64 3),(.nat .i64 0),(.sl k152 0 0 1
  1),(.nat .i64 2),(.nat .i64 0),(.sl k157 0 0 1 1),(.nat .i64 1),(.nat .i64 1),(.sl k5 0 0 2 2),(.nat .i64 3),(.nat .i64 2)] 12 143 true 0 0 0)
  .lf)))) (tn (tr (.nd .lf (.row [(.nat .i64 2)] 1 3 false 0 0 0) .lf)) (tl (.nd .lf (.row [(.bool true),(.bool true),(.bool true)] 3 4 true 0 0 0)
  .lf))))))), k241⟩
def a0_42 : S := ⟨(tn (tn (tn (.nd .lf (.row [(.nat .i64 1),(.nat .i64 2)] 2 3 false 0 0 0) .lf) (.nd .lf (.row [(.sl k7 0 0 1 1),(.sl k8 0 0 2 2)] 2
  34 false 0 0 0) .lf)) (.nd (.nd .lf (.row [(.nat .i64 1),(.nat .i64 1)] 2 3 false 0 0 0) .lf) (.row [(.nat .i64 3)] 1 3 false 0 0 0) (tl (tl (tr
  (.nd .lf (.row [(.sl k99 0 0 1 1),(.nat .i64 3),(.nat .i64 0),(.sl k103 0 0 1 1),(.nat .i64 1),(.nat .i64 1),(.sl k111 0 0 1 1),(.nat .i64 2),(.nat
  .i64 0),(.sl k5 0 0 2 2),(.nat .i64 3),(.nat .i64 2)] 12 143 true 0 0 0) .lf)))))) (tn (.nd (.nd (tl (tl (tl (.nd .lf (.row [(.sl k122 0 0 1
  1),(.nat .i64 1),(.nat .i64 1),(.sl k130 0 0 1 1),(.nat .i64 3),(.nat .i64 0),(.sl k5 0 0 2 2),(.nat .i64 3),(.nat .i64 2)] 9 143 true 0 0 0)
  .lf)))) (.row [(.nat .i64 1)] 1 3 false 0 0 0) .lf) (.row [(.nat .i64 1),(.nat .i64 2)] 2 3 false 0 0 0) (.nd .lf (.row [(.sl k9 0 0 1 1),(.sl k10 0
  0 2 2)] 2 34 false 0 0 0) (tr (tl (.nd .lf (.row [(.so k102 12 0 4 0),(.so k129 9 0 3 0),(.so k151 12 0 4 0)] 3 141 true 3 0 0) .lf))))) (.nd (.nd
  (tl (tr (.nd .lf (.row [(.nat .i64 3)] 1 3 false 0 0 0) .lf))) (.row [(.sl k5 0 0 2 2),(.sl k6 0 0 1 1)] 2 34 false 0 0 0) (tr (tl (.nd .lf (.row
  [(.so k93 3 0 3 0),(.so k95 3 0 3 0),(.so k97 3 0 3 0),(.ref 0 k90)] 4 94 false 0 0 0) .lf)))) (.row [(.nat .i64 3)] 1 3 false 0 0 0) (tn (tn (tr
  (.nd .lf (.row [(.nat .i64 1)] 1 3 false 0 0 0) .lf)) (tl (tl (.nd .lf (.row [(.sl k146 0 0 1 1),(.nat .i64 3),(.nat .i64 0),(.sl k152 0 0 1
  1),(.nat .i64 1),(.nat .i64 1),(.sl k159 0 0 1 1),(.nat .i64 2),(.nat .i64 0),(.sl k5 0 0 2 2),(.nat .i64 3),(.nat .i64 2)] 12 143 true 0 0 0)
  .lf)))) (tn (tr (.nd .lf (.row [(.nat .i64 2)] 1 3 false 0 0 0) .lf)) (tl (.nd .lf (.row [(.bool true),(.bool true),(.bool true)] 3 4 true 0 0 0)
  .lf))))))), k242⟩
def a0_43 : S := ⟨(tn (tn (tn (.nd .lf (.row [(.nat .i64 1),(.nat .i64 2)] 2 3 false 0 0 0) .lf) (.nd .lf (.row [(.sl k7 0 0 1 1),(.sl k8 0 0 2 2)] 2
  34 false 0 0 0) .lf)) (.nd (.nd .lf (.row [(.nat .i64 1),(.nat .i64 1)] 2 3 false 0 0 0) .lf) (.row [(.nat .i64 3)] 1 3 false 0 0 0) (tl (tl (tr
  (.nd .lf (.row [(.sl k99 0 0 1 1),(.nat .i64 3),(.nat .i64 0),(.sl k103 0 0 1 1),(.nat .i64 1),(.nat .i64 1),(.sl k111 0 0 1 1),(.nat .i64 2),(.nat
  .i64 0),(.sl k5 0 0 2 2),(.nat .i64 3),(.nat .i64 2)] 12 143 true 0 0 0) .lf)))))) (tn (.nd (.nd (tl (tl (tl (.nd .lf (.row [(.sl k122 0 0 1
  1),(.nat .i64 1),(.nat .i64 1),(.sl k130 0 0 1 1),(.nat .i64 3),(.nat .i64 0),(.sl k5 0 0 2 2),(.nat .i64 3),(.nat .i64 2)] 9 143 true 0 0 0)
  .lf)))) (.row [(.nat .i64 1)] 1 3 false 0 0 0) .lf) (.row [(.nat .i64 1),(.nat .i64 2)] 2 3 false 0 0 0) (.nd .lf (.row [(.sl k9 0 0 1 1),(.sl k10 0
  0 2 2)] 2 34 false 0 0 0) (tr (tl (.nd .lf (.row [(.so k102 12 0 4 0),(.so k129 9 0 3 0),(.so k151 12 0 4 0)] 3 141 true 3 0 0) .lf))))) (.nd (.nd
  (tl (tr (.nd .lf (.row [(.nat .i64 3)] 1 3 false 0 0 0) .lf))) (.row [(.sl k5 0 0 2 2),(.sl k6 0 0 1 1)] 2 34 false 0 0 0) (tr (tl (.nd .lf (.row
  [(.so k93 3 0 3 0),(.so k95 3 0 3 0),(.so k97 3 0 3 0),(.ref 0 k90)] 4 94 false 0 0 0) .lf)))) (.row [(.nat .i64 3)] 1 3 false 0 0 0) (tn (tn (tr
  (.nd .lf (.row [(.nat .i64 1)] 1 3 false 0 0 0) .lf)) (tl (tl (.nd .lf (.row [(.sl k146 0 0 1 1),(.nat .i64 2),(.nat .i64 0),(.sl k152 0 0 1
  1),(.nat .i64 3),(.nat .i64 0),(.sl k157 0 0 1 1),(.nat .i64 1),(.nat .i64 1),(.sl k5 0 0 2 2),(.nat .i64 3),(.nat .i64 2)] 12 143 true 0 0 0)
  .lf)))) (tn (tr (.nd .lf (.row [(.nat .i64 2)] 1 3 false 0 0 0) .lf)) (tl (.nd .lf (.row [(.bool true),(.bool true),(.bool true)] 3 4 true 0 0 0)
  .lf))))))), k243⟩
def a0_44 : S := ⟨(tn (tn (tn (.nd .lf (.row [(.nat .i64 1),(.nat .i64 2)] 2 3 false 0 0 0) .lf) (.nd .lf (.row [(.sl k7 0 0 1 1),(.sl k8 0 0 2 2)] 2
  34 false 0 0 0) .lf)) (.nd (.nd .lf (.row [(.nat .i64 1),(.nat .i64 1)] 2 3 false 0 0 0) .lf) (.row [(.nat .i64 3)] 1 3 false 0 0 0) (tl (tl (tr
  (.nd .lf (.row [(.sl k99 0 0 1 1),(.nat .i64 3),(.nat .i64 0),(.sl k103 0 0 1 1),(.nat .i64 1),(.nat .i64 1),(.sl k111 0 0 1 1),(.nat .i64 2),(.nat
  .i64 0),(.sl k5 0 0 2 2),(.nat .i64 3),(.nat .i64 2)] 12 143 true 0 0 0) .lf)))))) (tn (.nd (.nd (tl (tl (tl (.nd .lf (.row [(.sl k122 0 0 1
  1),(.nat .i64 1),(.nat .i64 1),(.sl k130 0 0 1 1),(.nat .i64 3),(.nat .i64 0),(.sl k5 0 0 2 2),(.nat .i64 3),(.nat .i64 2)] 9 143 true 0 0 0)
  .lf)))) (.row [(.nat .i64 1)] 1 3 false 0 0 0) .lf) (.row [(.nat .i64 1),(.nat .i64 2)] 2 3 false 0 0 0) (.nd .lf (.row [(.sl k9 0 0 1 1),(.sl k10 0
  0 2 2)] 2 34 false 0 0 0) (tr (tl (.nd .lf (.row [(.so k102 12 0 4 0),(.so k129 9 0 3 0),(.so k151 12 0 4 0)] 3 141 true 3 0 0) .lf))))) (.nd (.nd
  (tl (tr (.nd .lf (.row [(.nat .i64 3)] 1 3 false 0 0 0) .lf))) (.row [(.sl k5 0 0 2 2),(.sl k6 0 0 1 1)] 2 34 false 0 0 0) (tr (tl (.nd .lf (.row
  [(.so k93 3 0 3 0),(.so k95 3 0 3 0),(.so k97 3 0 3 0),(.ref 0 k90)] 4 94 false 0 0 0) .lf)))) (.row [(.nat .i64 3)] 1 3 false 0 0 0) (tn (tn (tr
  (.nd .lf (.row [(.nat .i64 1)] 1 3 false 0 0 0) .lf)) (tl (tl (.nd .lf (.row [(.sl k146 0 0 1 1),(.nat .i64 2),(.nat .i64 0),(.sl k152 0 0 1
  1),(.nat .i64 1),(.nat .i64 1),(.sl k159 0 0 1 1),(.nat .i64 3),(.nat .i64 0),(.sl k5 0 0 2 2),(.nat .i64 3),(.nat .i64 2)] 12 143 true 0 0 0)
  .lf)))) (tn (tr (.nd .lf (.row [(.nat .i64 2)] 1 3 false 0 0 0) .lf)) (tl (.nd .lf (.row [(.bool true),(.bool true),(.bool true)] 3 4 true 0 0 0)
  .lf))))))), k244⟩
def a0_45 : S := ⟨(tn (tn (tn (.nd .lf (.row [(.nat .i64 1),(.nat .i64 2)] 2 3 false 0 0 0) .lf) (.nd .lf (.row [(.sl k7 0 0 1 1),(.sl k8 0 0 2 2)] 2
  34 false 0 0 0) .lf)) (.nd (.nd .lf (.row [(.nat .i64 1),(.nat .i64 1)] 2 3 false 0 0 0) .lf) (.row [(.nat .i64 3)] 1 3 false 0 0 0) (tl (tl (tr
  (.nd .lf (.row [(.sl k99 0 0 1 1),(.nat .i64 3),(.nat .i64 0),(.sl k103 0 0 1 1),(.nat .i64 1),(.nat .i64 1),(.sl k111 0 0 1 1),(.nat .i64 2),(.nat
  .i64 0),(.sl k5 0 0 2 2),(.nat .i64 3),(.nat .i64 2)] 12 143 true 0 0 0) .lf)))))) (tn (.nd (.nd (tl (tl (tl (.nd .lf (.row [(.sl k122 0 0 1
  1),(.nat .i64 1),(.nat .i64 1),(.sl k130 0 0 1 1),(.nat .i64 3),(.nat .i64 0),(.sl k5 0 0 2 2),(.nat .i64 3),(.nat .i64 2)] 9 143 true 0 0 0)
  .lf)))) (.row [(.nat .i64 1)] 1 3 false 0 0 0) (tr (tl (tl (.nd .lf (.row [(.sl k146 0 0 1 1),(.nat .i64 1),(.nat .i64 1),(.sl k154 0 0 1 1),(.nat
  .i64 3),(.nat .i64 0),(.sl k159 0 0 1 1),(.nat .i64 2),(.nat .i64 0),(.sl k5 0 0 2 2),(.nat .i64 3),(.nat .i64 2)] 12 143 true 0 0 0) .lf))))) (.row
  [(.nat .i64 1),(.nat .i64 2)] 2 3 false 0 0 0) (.nd .lf (.row [(.sl k9 0 0 1 1),(.sl k10 0 0 2 2)] 2 34 false 0 0 0) (tr (tl (.nd .lf (.row [(.so
  k102 12 0 4 0),(.so k129 9 0 3 0),(.so k153 12 0 4 0)] 3 141 true 3 0 0) .lf))))) (.nd (.nd (tl (tr (.nd .lf (.row [(.nat .i64 3)] 1 3 false 0 0 0)
  .lf))) (.row [(.sl k5 0 0 2 2),(.sl k6 0 0 1 1)] 2 34 false 0 0 0) (tr (tl (.nd .lf (.row [(.so k93 3 0 3 0),(.so k95 3 0 3 0),(.so k97 3 0 3
  0),(.ref 0 k90)] 4 94 false 0 0 0) .lf)))) (.row [(.nat .i64 3)] 1 3 false 0 0 0) (tn (tl (tr (.nd .lf (.row [(.nat .i64 1)] 1 3 false 0 0 0) .lf)))
  (tn (tr (.nd .lf (.row [(.nat .i64 2)] 1 3 false 0 0 0) .lf)) (tl (.nd .lf (.row [(.bool true),(.bool true),(.bool true)] 3 4 true 0 0 0)
  .lf))))))), k245⟩
def a0_46 : S := ⟨(tn (tn (tn (.nd .lf (.row [(.nat .i64 1),(.nat .i64 2)] 2 3 false 0 0 0) .lf) (.nd .lf (.row [(.sl k7 0 0 1 1),(.sl k8 0 0 2 2)] 2
  34 false 0 0 0) .lf)) (.nd (.nd .lf (.row [(.nat .i64 1),(.nat .i64 1)] 2 3 false 0 0 0) .lf) (.row [(.nat .i64 3)] 1 3 false 0 0 0) (tl (tl (tr
  (.nd .lf (.row [(.sl k99 0 0 1 1),(.nat .i64 3),(.nat .i64 0),(.sl k103 0 0 1 1),(.nat .i64 1),(.nat .i64 1),(.sl k111 0 0 1 1),(.nat .i64 2),(.nat
  .i64 0),(.sl k5 0 0 2 2),(.nat .i64 3),(.nat .i64 2)] 12 143 true 0 0 0) .lf)))))) (tn (.nd (.nd (tl (tl (tl (.nd .lf (.row [(.sl k122 0 0 1
  1),(.nat .i64 1),(.nat .i64 1),(.sl k130 0 0 1 1),(.nat .i64 3),(.nat .i64 0),(.sl k5 0 0 2 2),(.nat .i64 3),(.nat .i64 2)] 9 143 true 0 0 0)
  .lf)))) (.row [(.nat .i64 1)] 1 3 false 0 0 0) (tr (tl (tl (.nd .lf (.row [(.sl k146 0 0 1 1),(.nat .i64 1),(.nat .i64 1),(.sl k154 0 0 1 1),(.nat
  .i64 2),(.nat .i64 0),(.sl k159 0 0 1 1),(.nat .i64 3),(.nat .i64 0),(.sl k5 0 0 2 2),(.nat .i64 3),(.nat .i64 2)] 12 143 true 0 0 0) .lf))))) (.row
  [(.nat .i64 1),(.nat .i64 2)] 2 3 false 0 0 0) (.nd .lf (.row [(.sl k9 0 0 1 1),(.sl k10 0 0 2 2)] 2 34 false 0 0 0) (tr (tl (.nd .lf (.row [(.so
  k102 12 0 4 0),(.so k129 9 0 3 0),(.so k153 12 0 4 0)] 3 141 true 3 0 0) .lf))))) (.nd (.nd (tl (tr (.nd .lf (.row [(.nat .i64 3)] 1 3 false 0 0 0)
  .lf))) (.row [(.sl k5 0 0 2 2),(.sl k6 0 0 1 1)] 2 34 false 0 0 0) (tr (tl (.nd .lf (.row [(.so k93 3 0 3 0),(.so k95 3 0 3 0),(.so k97 3 0 3
  0),(.ref 0 k90)] 4 94 false 0 0 0) .lf)))) (.row [(.nat .i64 3)] 1 3 false 0 0 0) (tn (tl (tr (.nd .lf (.row [(.nat .i64 1)] 1 3 false 0 0 0) .lf)))
  (tn (tr (.nd .lf (.row [(.nat .i64 2)] 1 3 false 0 0 0) .lf)) (tl (.nd .lf (.row [(.bool true),(.bool true),(.bool true)] 3 4 true 0 0 0)
  .lf))))))), k246⟩
def a0_47 : S := ⟨(tn (tn (tn (.nd .lf (.row [(.nat .i64 1),(.nat .i64 2)] 2 3 false 0 0 0) .lf) (.nd .lf (.row [(.sl k7 0 0 1 1),(.sl k8 0 0 2 2)] 2
  34 false 0 0 0) .lf)) (.nd (.nd .lf (.row [(.nat .i64 1),(.nat .i64 1)] 2 3 false 0 0 0) .lf) (.row [(.nat .i64 3)] 1 3 false 0 0 0) (tl (tl (tr
  (.nd .lf (.row [(.sl k99 0 0 1 1),(.nat .i64 3),(.nat .i64 0),(.sl k103 0 0 1 1),(.nat .i64 1),(.nat .i64 1),(.sl k111 0 0 1 1),(.nat .i64 2),(.nat
  .i64 0),(.sl k5 0 0 2 2),(.nat .i64 3),(.nat .i64 2)] 12 143 true 0 0 0) .lf)))))) (tn (.nd (.nd (tl (tl (tl (.nd .lf (.row [(.sl k122 0 0 1
  1),(.nat .i64 1),(.nat .i64 1),(.sl k130 0 0 1 1),(.nat .i64 3),(.nat .i64 0),(.sl k5 0 0 2 2),(.nat .i64 3),(.nat .i64 2)] 9 143 true 0 0 0)
  .lf)))) (.row [(.nat .i64 1)] 1 3 false 0 0 0) .lf) (.row [(.nat .i64 1),(.nat .i64 2)] 2 3 false 0 0 0) (.nd .lf (.row [(.sl k9 0 0 1 1),(.sl k10 0
  0 2 2)] 2 34 false 0 0 0) (tr (tl (.nd .lf (.row [(.so k102 12 0 4 0),(.so k129 9 0 3 0),(.so k151 12 0 4 0)] 3 141 true 3 0 0) .lf))))) (.nd (.nd
  (tl (tr (.nd .lf (.row [(.nat .i64 3)] 1 3 false 0 0 0) .lf))) (.row [(.sl k5 0 0 2 2),(.sl k6 0 0 1 1)] 2 34 false 0 0 0) (tr (tl (.nd .lf (.row
  [(.so k93 3 0 3 0),(.so k95 3 0 3 0),(.so k97 3 0 3 0),(.ref 0 k90)] 4 94 false 0 0 0) .lf)))) (.row [(.nat .i64 3)] 1 3 false 0 0 0) (tn (tn (tr
  (.nd .lf (.row [(.nat .i64 1)] 1 3 false 0 0 0) .lf)) (tl (tl (.nd .lf (.row [(.sl k146 0 0 1 1),(.nat .i64 3),(.nat .i64 0),(.sl k152 0 0 1
  1),(.nat .i64 2),(.nat .i64 0),(.sl k157 0 0 1 1),(.nat .i64 1),(.nat .i64 1),(.sl k5 0 0 2 2),(.nat .i64 3),(.nat .i64 2)] 12 143 true 0 0 0)
  .lf)))) (tn (tr (.nd .lf (.row [(.nat .i64 2)] 1 3 false 0 0 0) .lf)) (tl (.nd .lf (.row [(.bool true),(.bool true),(.bool true)] 3 4 true 0 0 0)
  .lf))))))), k247⟩
def a0_48 : S := ⟨(tn (tn (tn (.nd .lf (.row [(.nat .i64 1),(.nat .i64 2)] 2 3 false 0 0 0) .lf) (.nd .lf (.row [(.sl k7 0 0 1 1),(.sl k8 0 0 2 2)] 2
  34 false 0 0 0) .lf)) (.nd (.nd .lf (.row [(.nat .i64 1),(.nat .i64 1)] 2 3 false 0 0 0) .lf) (.row [(.nat .i64 3)] 1 3 false 0 0 0) (tl (tl (tr
  (.nd .lf (.row [(.sl k99 0 0 1 1),(.nat .i64 3),(.nat .i64 0),(.sl k103 0 0 1 1),(.nat .i64 1),(.nat .i64 1),(.sl k111 0 0 1 1),(.nat .i64 2),(.nat
  .i64 0),(.sl k5 0 0 2 2),(.nat .i64 3),(.nat .i64 2)] 12 143 true 0 0 0) .lf)))))) (tn (.nd (.nd .lf (.row [(.nat .i64 1)] 1 3 false 0 0 0) .lf)
  (.row [(.nat .i64 1),(.nat .i64 2)] 2 3 false 0 0 0) (.nd (tl (tl (tl (.nd .lf (.row [(.sl k126 0 0 1 1),(.nat .i64 1),(.nat .i64 1),(.sl k134 0 0 1
  1),(.nat .i64 3),(.nat .i64 0),(.sl k5 0 0 2 2),(.nat .i64 3),(.nat .i64 2)] 9 143 true 0 0 0) .lf)))) (.row [(.sl k9 0 0 1 1),(.sl k10 0 0 2 2)] 2
  34 false 0 0 0) (tr (tl (.nd .lf (.row [(.so k102 12 0 4 0),(.so k133 9 0 3 0),(.so k151 12 0 4 0)] 3 141 true 3 0 0) .lf))))) (.nd (.nd (tl (tr
  (.nd .lf (.row [(.nat .i64 3)] 1 3 false 0 0 0) .lf))) (.row [(.sl k5 0 0 2 2),(.sl k6 0 0 1 1)] 2 34 false 0 0 0) (tr (tl (.nd .lf (.row [(.so k93
  3 0 3 0),(.so k95 3 0 3 0),(.so k97 3 0 3 0),(.ref 0 k90)] 4 94 false 0 0 0) .lf)))) (.row [(.nat .i64 3)] 1 3 false 0 0 0) (tn (tn (tr (.nd .lf
  (.row [(.nat .i64 1)] 1 3 false 0 0 0) .lf)) (tl (tl (.nd .lf (.row [(.sl k146 0 0 1 1),(.nat .i64 3),(.nat .i64 0),(.sl k152 0 0 1 1),(.nat .i64
  1),(.nat .i64 1),(.sl k159 0 0 1 1),(.nat .i64 2),(.nat .i64 0),(.sl k5 0 0 2 2),(.nat .i64 3),(.nat .i64 2)] 12 143 true 0 0 0) .lf)))) (tn (tr
  (.nd .lf (.row [(.nat .i64 2)] 1 3 false 0 0 0) .lf)) (tl (.nd .lf (.row [(.bool true),(.bool true),(.bool true)] 3 4 true 0 0 0) .lf))))))), k248⟩
def a0_49 : S := ⟨(tn (tn (tn (.nd .lf (.row [(.nat .i64 1),(.nat .i64 2)] 2 3 false 0 0 0) .lf) (.nd .lf (.row [(.sl k7 0 0 1 1),(.sl k8 0 0 2 2)] 2
  34 false 0 0 0) .lf)) (.nd (.nd .lf (.row [(.nat .i64 1),(.nat .i64 1)] 2 3 false 0 0 0) .lf) (.row [(.nat .i64 3)] 1 3 false 0 0 0) (tl (tl (tr
  (.nd .lf (.row [(.sl k99 0 0 1 1),(.nat .i64 3),(.nat .i64 0),(.sl k103 0 0 1 1),(.nat .i64 1),(.nat .i64 1),(.sl k111 0 0 1 1),(.nat .i64 2),(.nat
  .i64 0),(.sl k5 0 0 2 2),(.nat .i64 3),(.nat .i64 2)] 12 143 true 0 0 0) .lf)))))) (tn (.nd (.nd .lf (.row [(.nat .i64 1)] 1 3 false 0 0 0) .lf)
  (.row [(.nat .i64 1),(.nat .i64 2)] 2 3 false 0 0 0) (.nd (tl (tl (tl (.nd .lf (.row [(.sl k126 0 0 1 1),(.nat .i64 1),(.nat .i64 1),(.sl k134 0 0 1
  1),(.nat .i64 3),(.nat .i64 0),(.sl k5 0 0 2 2),(.nat .i64 3),(.nat .i64 2)] 9 143 true 0 0 0) .lf)))) (.row [(.sl k9 0 0 1 1),(.sl k10 0 0 2 2)] 2
  34 false 0 0 0) (tr (tl (.nd .lf (.row [(.so k102 12 0 4 0),(.so k133 9 0 3 0),(.so k151 12 0 4 0)] 3 141 true 3 0 0) .lf))))) (.nd (.nd (tl (tr
  (.nd .lf (.row [(.nat .i64 3)] 1 3 false 0 0 0) .lf))) (.row [(.sl k5 0 0 2 2),(.sl k6 0 0 1 1)] 2 34 false 0 0 0) (tr (tl (.nd .lf (.row [(.so k93
  3 0 3 0),(.so k95 3 0 3 0),(.so k97 3 0 3 0),(.ref 0 k90)] 4 94 false 0 0 0) .lf)))) (.row [(.nat .i64 3)] 1 3 false 0 0 0) (tn (tn (tr (.nd .lf
  (.row [(.nat .i64 1)] 1 3 false 0 0 0) .lf)) (tl (tl (.nd .lf (.row [(.sl k146 0 0 1 1),(.nat .i64 2),(.nat .i64 0),(.sl k152 0 0 1 1),(.nat .i64
  3),(.nat .i64 0),(.sl k157 0 0 1 1),(.nat .i64 1),(.nat .i64 1),(.sl k5 0 0 2 2),(.nat .i64 3),(.nat .i64 2)] 12 143 true 0 0 0) .lf)))) (tn (tr
  (.nd .lf (.row [(.nat .i64 2)] 1 3 false 0 0 0) .lf)) (tl (.nd .lf (.row [(.bool true),(.bool true),(.bool true)] 3 4 true 0 0 0) .lf))))))), k249⟩
def a0_50 : S := ⟨(tn (tn (tn (.nd .lf (.row [(.nat .i64 1),(.nat .i64 2)] 2 3 false 0 0 0) .lf) (.nd .lf (.row [(.sl k7 0 0 1 1),(.sl k8 0 0 2 2)] 2
  34 false 0 0 0) .lf)) (.nd (.nd .lf (.row [(.nat .i64 1),(.nat .i64 1)] 2 3 false 0 0 0) .lf) (.row [(.nat .i64 3)] 1 3 false 0 0 0) (tl (tl (tr
  (.nd .lf (.row [(.sl k99 0 0 1 1),(.nat .i64 3),(.nat .i64 0),(.sl k103 0 0 1 1),(.nat .i64 1),(.nat .i64 1),(.sl k111 0 0 1 1),(.nat .i64 2),(.nat
  .i64 0),(.sl k5 0 0 2 2),(.nat .i64 3),(.nat .i64 2)] 12 143 true 0 0 0) .lf)))))) (tn (.nd (.nd .lf (.row [(.nat .i64 1)] 1 3 false 0 0 0) .lf)
  (.row [(.nat .i64 1),(.nat .i64 2)] 2 3 false 0 0 0) (.nd (tl (tl (tl (.nd .lf (.row [(.sl k126 0 0 1 1),(.nat .i64 1),(.nat .i64 1),(.sl k134 0 0 1
  1),(.nat .i64 3),(.nat .i64 0),(.sl k5 0 0 2 2),(.nat .i64 3),(.nat .i64 2)] 9 143 true 0 0 0) .lf)))) (.row [(.sl k9 0 0 1 1),(.sl k10 0 0 2 2)] 2
  34 false 0 0 0) (tr (tl (.nd .lf (.row [(.so k102 12 0 4 0),(.so k133 9 0 3 0),(.so k151 12 0 4 0)] 3 141 true 3 0 0) .lf))))) (.nd (.nd (tl (tr
  (.nd .lf (.row [(.nat .i64 3)] 1 3 false 0 0 0) .lf))) (.row [(.sl k5 0 0 2 2),(.sl k6 0 0 1 1)] 2 34 false 0 0 0) (tr (tl (.nd .lf (.row [(.so k93
  3 0 3 0),(.so k95 3 0 3 0),(.so k97 3 0 3 0),(.ref 0 k90)] 4 94 false 0 0 0) .lf)))) (.row [(.nat .i64 3)] 1 3 false 0 0 0) (tn (tn (tr (.nd .lf
  (.row [(.nat .i64 1)] 1 3 false 0 0 0) .lf)) (tl (tl (.nd .lf (.row [(.sl k146 0 0 1 1),(.nat .i64 2),(.nat .i64 0),(.sl k152 0 0 1 1),(.nat .i64
  1),(.nat .i64 1),(.sl k159 0 0 1 1),(.nat .i64 3),(.nat .i64 0),(.sl k5 0 0 2 2),(.nat .i64 3),(.nat .i64 2)] 12 143 true 0 0 0) .lf)))) (tn (tr
  (.nd .lf (.row [(.nat .i64 2)] 1 3 false 0 0 0) .lf)) (tl (.nd .lf (.row [(.bool true),(.bool true),(.bool true)] 3 4 true 0 0 0) .lf))))))), k250⟩
def a0_51 : S := ⟨(tn (tn (tn (.nd .lf (.row [(.nat .i64 1),(.nat .i64 2)] 2 3 false 0 0 0) .lf) (.nd .lf (.row [(.sl k7 0 0 1 1),(.sl k8 0 0 2 2)] 2
  34 false 0 0 0) .lf)) (.nd (.nd .lf (.row [(.nat .i64 1),(.nat .i64 1)] 2 3 false 0 0 0) .lf) (.row [(.nat .i64 3)] 1 3 false 0 0 0) (tl (tl (tr
  (.nd .lf (.row [(.sl k99 0 0 1 1),(.nat .i64 3),(.nat .i64 0),(.sl k103 0 0 1 1),(.nat .i64 1),(.nat .i64 1),(.sl k111 0 0 1 1),(.nat .i64 2),(.nat
  .i64 0),(.sl k5 0 0 2 2),(.nat .i64 3),(.nat .i64 2)] 12 143 true 0 0 0) .lf)))))) (tn (.nd (.nd .lf (.row [(.nat .i64 1)] 1 3 false 0 0 0) (tr (tl
  (tl (.nd .lf (.row [(.sl k146 0 0 1 1),(.nat .i64 1),(.nat .i64 1),(.sl k154 0 0 1 1),(.nat .i64 3),(.nat .i64 0),(.sl k159 0 0 1 1),(.nat .i64
  2),(.nat .i64 0),(.sl k5 0 0 2 2),(.nat .i64 3),(.nat .i64 2)] 12 143 true 0 0 0) .lf))))) (.row [(.nat .i64 1),(.nat .i64 2)] 2 3 false 0 0 0) (.nd
  (tl (tl (tl (.nd .lf (.row [(.sl k126 0 0 1 1),(.nat .i64 1),(.nat .i64 1),(.sl k134 0 0 1 1),(.nat .i64 3),(.nat .i64 0),(.sl k5 0 0 2 2),(.nat
  .i64 3),(.nat .i64 2)] 9 143 true 0 0 0) .lf)))) (.row [(.sl k9 0 0 1 1),(.sl k10 0 0 2 2)] 2 34 false 0 0 0) (tr (tl (.nd .lf (.row [(.so k102 12 0
  4 0),(.so k133 9 0 3 0),(.so k153 12 0 4 0)] 3 141 true 3 0 0) .lf))))) (.nd (.nd (tl (tr (.nd .lf (.row [(.nat .i64 3)] 1 3 false 0 0 0) .lf)))
  (.row [(.sl k5 0 0 2 2),(.sl k6 0 0 1 1)] 2 34 false 0 0 0) (tr (tl (.nd .lf (.row [(.so k93 3 0 3 0),(.so k95 3 0 3 0),(.so k97 3 0 3 0),(.ref 0
  k90)] 4 94 false 0 0 0) .lf)))) (.row [(.nat .i64 3)] 1 3 false 0 0 0) (tn (tl (tr (.nd .lf (.row [(.nat .i64 1)] 1 3 false 0 0 0) .lf))) (tn (tr
  (.nd .lf (.row [(.nat .i64 2)] 1 3 false 0 0 0) .lf)) (tl (.nd .lf (.row [(.bool true),(.bool true),(.bool true)] 3 4 true 0 0 0) .lf))))))), k251⟩
def a0_52 : S := ⟨(tn (tn (tn (.nd .lf (.row [(.nat .i64 1),(.nat .i64 2)] 2 3 false 0 0 0) .lf) (.nd .lf (.row [(.sl k7 0 0 1 1),(.sl k8 0 0 2 2)] 2
  34 false 0 0 0) .lf)) (.nd (.nd .lf (.row [(.nat .i64 1),(.nat .i64 1)] 2 3 false 0 0 0) .lf) (.row [(.nat .i64 3)] 1 3 false 0 0 0) (tl (tl (tr
  (.nd .lf (.row [(.sl k99 0 0 1 1),(.nat .i64 3),(.nat .i64 0),(.sl k103 0 0 1 1),(.nat .i64 1),(.nat .i64 1),(.sl k111 0 0 1 1),(.nat .i64 2),(.nat
  .i64 0),(.sl k5 0 0 2 2),(.nat .i64 3),(.nat .i64 2)] 12 143 true 0 0 0) .lf)))))) (tn (.nd (.nd .lf (.row [(.nat .i64 1)] 1 3 false 0 0 0) (tr (tl
  (tl (.nd .lf (.row [(.sl k146 0 0 1 1),(.nat .i64 1),(.nat .i64 1),(.sl k154 0 0 1 1),(.nat .i64 2),(.nat .i64 0),(.sl k159 0 0 1 1),(.nat .i64
  3),(.nat .i64 0),(.sl k5 0 0 2 2),(.nat .i64 3),(.nat .i64 2)] 12 143 true 0 0 0) .lf))))) (.row [(.nat .i64 1),(.nat .i64 2)] 2 3 false 0 0 0) (.nd
  (tl (tl (tl (.nd .lf (.row [(.sl k126 0 0 1 1),(.nat .i64 1),(.nat .i64 1),(.sl k134 0 0 1 1),(.nat .i64 3),(.nat .i64 0),(.sl k5 0 0 2 2),(.nat
  .i64 3),(.nat .i64 2)] 9 143 true 0 0 0) .lf)))) (.row [(.sl k9 0 0 1 1),(.sl k10 0 0 2 2)] 2 34 false 0 0 0) (tr (tl (.nd .lf (.row [(.so k102 12 0
  4 0),(.so k133 9 0 3 0),(.so k153 12 0 4 0)] 3 141 true 3 0 0) .lf))))) (.nd (.nd (tl (tr (.nd .lf (.row [(.nat .i64 3)] 1 3 false 0 0 0) .lf)))
  (.row [(.sl k5 0 0 2 2),(.sl k6 0 0 1 1)] 2 34 false 0 0 0) (tr (tl (.nd .lf (.row [(.so k93 3 0 3 0),(.so k95 3 0 3 0),(.so k97 3 0 3 0),(.ref 0
  k90)] 4 94 false 0 0 0) .lf)))) (.row [(.nat .i64 3)] 1 3 false 0 0 0) (tn (tl (tr (.nd .lf (.row [(.nat .i64 1)] 1 3 false 0 0 0) .lf))) (tn (tr
  (.nd .lf (.row [(.nat .i64 2)] 1 3 false 0 0 0) .lf)) (tl (.nd .lf (.row [(.bool true),(.bool true),(.bool true)] 3 4 true 0 0 0) .lf))))))), k252⟩
def a0_53 : S := ⟨(tn (tn (tn (.nd .lf (.row [(.nat .i64 1),(.nat .i64 2)] 2 3 false 0 0 0) .lf) (.nd .lf (.row [(.sl k7 0 0 1 1),(.sl k8 0 0 2 2)] 2
  34 false 0 0 0) .lf)) (.nd (.nd .lf (.row [(.nat .i64 1),(.nat .i64 1)] 2 3 false 0 0 0) .lf) (.row [(.nat .i64 3)] 1 3 false 0 0 0) (tl (tl (tr
  (.nd .lf (.row [(.sl k99 0 0 1 1),(.nat .i64 3),(.nat .i64 0),(.sl k103 0 0 1 1),(.nat .i64 1),(.nat .i64 1),(.sl k111 0 0 1 1),(.nat .i64 2),(.nat
  .i64 0),(.sl k5 0 0 2 2),(.nat .i64 3),(.nat .i64 2)] 12 143 true 0 0 0) .lf)))))) (tn (.nd (.nd .lf (.row [(.nat .i64 1)] 1 3 false 0 0 0) .lf)
  (.row [(.nat .i64 1),(.nat .i64 2)] 2 3 false 0 0 0) (.nd (tl (tl (tl (.nd .lf (.row [(.sl k126 0 0 1 1),(.nat .i64 1),(.nat .i64 1),(.sl k134 0 0 1
  1),(.nat .i64 3),(.nat .i64 0),(.sl k5 0 0 2 2),(.nat .i64 3),(.nat .i64 2)] 9 143 true 0 0 0) .lf)))) (.row [(.sl k9 0 0 1 1),(.sl k10 0 0 2 2)] 2
  34 false 0 0 0) (tr (tl (.nd .lf (.row [(.so k102 12 0 4 0),(.so k133 9 0 3 0),(.so k151 12 0 4 0)] 3 141 true 3 0 0) .lf))))) (.nd (.nd (tl (tr
  (.nd .lf (.row [(.nat .i64 3)] 1 3 false 0 0 0) .lf))) (.row [(.sl k5 0 0 2 2),(.sl k6 0 0 1 1)] 2 34 false 0 0 0) (tr (tl (.nd .lf (.row [(.so k93
  3 0 3 0),(.so k95 3 0 3 0),(.so k97 3 0 3 0),(.ref 0 k90)] 4 94 false 0 0 0) .lf)))) (.row [(.nat .i64 3)] 1 3 false 0 0 0) (tn (tn (tr (.nd .lf
  (.row [(.nat .i64 1)] 1 3 false 0 0 0) .lf)) (tl (tl (.nd .lf (.row [(.sl k146 0 0 1 1),(.nat .i64 3),(.nat .i64 0),(.sl k152 0 0 1 1),(.nat .i64
  2),(.nat .i64 0),(.sl k157 0 0 1 1),(.nat .i64 1),(.nat .i64 1),(.sl k5 0 0 2 2),(.nat .i64 3),(.nat .i64 2)] 12 143 true 0 0 0) .lf)))) (tn (tr
  (.nd .lf (.row [(.nat .i64 2)] 1 3 false 0 0 0) .lf)) (tl (.nd .lf (.row [(.bool true),(.bool true),(.bool true)] 3 4 true 0 0 0) .lf))))))), k253⟩
def a0_54 : S := ⟨(tn (tn (tn (.nd .lf (.row [(.nat .i64 1),(.nat .i64 2)] 2 3 false 0 0 0) .lf) (.nd .lf (.row [(.sl k7 0 0 1 1),(.sl k8 0 0 2 2)] 2
  34 false 0 0 0) .lf)) (.nd (.nd .lf (.row [(.nat .i64 1),(.nat .i64 1)] 2 3 false 0 0 0) .lf) (.row [(.nat .i64 3)] 1 3 false 0 0 0) (tl (tl (tr
  (.nd .lf (.row [(.sl k99 0 0 1 1),(.nat .i64 3),(.nat .i64 0),(.sl k103 0 0 1 1),(.nat .i64 1),(.nat .i64 1),(.sl k111 0 0 1 1),(.nat .i64 2),(.nat
  .i64 0),(.sl k5 0 0 2 2),(.nat .i64 3),(.nat .i64 2)] 12 143 true 0 0 0) .lf)))))) (tn (.nd (.nd .lf (.row [(.nat .i64 1)] 1 3 false 0 0 0) .lf)
  (.row [(.nat .i64 1),(.nat .i64 2)] 2 3 false 0 0 0) (.nd .lf (.row [(.sl k9 0 0 1 1),(.sl k10 0 0 2 2)] 2 34 false 0 0 0) (tr (tl (.nd .lf (.row
  [(.so k102 12 0 4 0),(.so k131 9 0 3 0),(.so k151 12 0 4 0)] 3 141 true 3 0 0) .lf))))) (.nd (.nd (tl (tn (tl (.nd .lf (.row [(.sl k126 0 0 1
  1),(.nat .i64 3),(.nat .i64 0),(.sl k132 0 0 1 1),(.nat .i64 1),(.nat .i64 1),(.sl k5 0 0 2 2),(.nat .i64 3),(.nat .i64 2)] 9 143 true 0 0 0) .lf))
  (.nd .lf (.row [(.nat .i64 3)] 1 3 false 0 0 0) .lf))) (.row [(.sl k5 0 0 2 2),(.sl k6 0 0 1 1)] 2 34 false 0 0 0) (tr (tl (.nd .lf (.row [(.so k93
  3 0 3 0),(.so k95 3 0 3 0),(.so k97 3 0 3 0),(.ref 0 k90)] 4 94 false 0 0 0) .lf)))) (.row [(.nat .i64 3)] 1 3 false 0 0 0) (tn (tn (tr (.nd .lf
  (.row [(.nat .i64 1)] 1 3 false 0 0 0) .lf)) (tl (tl (.nd .lf (.row [(.sl k146 0 0 1 1),(.nat .i64 3),(.nat .i64 0),(.sl k152 0 0 1 1),(.nat .i64
  1),(.nat .i64 1),(.sl k159 0 0 1 1),(.nat .i64 2),(.nat .i64 0),(.sl k5 0 0 2 2),(.nat .i64 3),(.nat .i64 2)] 12 143 true 0 0 0) .lf)))) (tn (tr
  (.nd .lf (.row [(.nat .i64 2)] 1 3 false 0 0 0) .lf)) (tl (.nd .lf (.row [(.bool true),(.bool true),(.bool true)] 3 4 true 0 0 0) .lf))))))), k254⟩
def a0_55 : S := ⟨(tn (tn (tn (.nd .lf (.row [(.nat .i64 1),(.nat .i64 2)] 2 3 false 0 0 0) .lf) (.nd .lf (.row [(.sl k7 0 0 1 1),(.sl k8 0 0 2 2)] 2
  34 false 0 0 0) .lf)) (.nd (.nd .lf (.row [(.nat .i64 1),(.nat .i64 1)] 2 3 false 0 0 0) .lf) (.row [(.nat .i64 3)] 1 3 false 0 0 0) (tl (tl (tr
  (.nd .lf (.row [(.sl k99 0 0 1 1),(.nat .i64 3),(.nat .i64 0),(.sl k103 0 0 1 1),(.nat .i64 1),(.nat .i64 1),(.sl k111 0 0 1 1),(.nat .i64 2),(.nat
  .i64 0),(.sl k5 0 0 2 2),(.nat .i64 3),(.nat .i64 2)] 12 143 true 0 0 0) .lf)))))) (tn (.nd (.nd .lf (.row [(.nat .i64 1)] 1 3 false 0 0 0) .lf)
  (.row [(.nat .i64 1),(.nat .i64 2)] 2 3 false 0 0 0) (.nd .lf (.row [(.sl k9 0 0 1 1),(.sl k10 0 0 2 2)] 2 34 false 0 0 0) (tr (tl (.nd .lf (.row
  [(.so k102 12 0 4 0),(.so k131 9 0 3 0),(.so k151 12 0 4 0)] 3 141 true 3 0 0) .lf))))) (.nd (.nd (tl (tn (tl (.nd .lf (.row [(.sl k126 0 0 1
  1),(.nat .i64 3),(.nat .i64 0),(.sl k132 0 0 1 1),(.nat .i64 1),(.nat .i64 1),(.sl k5 0 0 2 2),(.nat .i64 3),(.nat .i64 2)] 9 143 true 0 0 0) .lf))
  (.nd .lf (.row [(.nat .i64 3)] 1 3 false 0 0 0) .lf))) (.row [(.sl k5 0 0 2 2),(.sl k6 0 0 1 1)] 2 34 false 0 0 0) (tr (tl (.nd .lf (.row [(.so k93
  3 0 3 0),(.so k95 3 0 3 0),(.so k97 3 0 3 0),(.ref 0 k90)] 4 94 false 0 0 0) .lf)))) (.row [(.nat .i64 3)] 1 3 false 0 0 0) (tn (tn (tr (.nd .lf
  (.row [(.nat .i64 1)] 1 3 false 0 0 0) .lf)) (tl (tl (.nd .lf (.row [(.sl k146 0 0 1 1),(.nat .i64 2),(.nat .i64 0),(.sl k152 0 0 1 1),(.nat .i64
  3),(.nat .i64 0),(.sl k157 0 0 1 1),(.nat .i64 1),(.nat .i64 1),(.sl k5 0 0 2 2),(.nat .i64 3),(.nat .i64 2)] 12 143 true 0 0 0) .lf)))) (tn (tr
  (.nd .lf (.row [(.nat .i64 2)] 1 3 false 0 0 0) .lf)) (tl (.nd .lf (.row [(.bool true),(.bool true),(.bool true)] 3 4 true 0 0 0) .lf))))))), k255⟩
def a0_56 : S := ⟨(tn (tn (tn (.nd .lf (.row [(.nat .i64 1),(.nat .i64 2)] 2 3 false 0 0 0) .lf) (.nd .lf (.row [(.sl k7 0 0 1 1),(.sl k8 0 0 2 2)] 2
  34 false 0 0 0) .lf)) (.nd (.nd .lf (.row [(.nat .i64 1),(.nat .i64 1)] 2 3 false 0 0 0) .lf) (.row [(.nat .i64 3)] 1 3 false 0 0 0) (tl (tl (tr
  (.nd .lf (.row [(.sl k99 0 0 1 1),(.nat .i64 3),(.nat .i64 0),(.sl k103 0 0 1 1),(.nat .i64 1),(.nat .i64 1),(.sl k111 0 0 1 1),(.nat .i64 2),(.nat
  .i64 0),(.sl k5 0 0 2 2),(.nat .i64 3),(.nat .i64 2)] 12 143 true 0 0 0) .lf)))))) (tn (.nd (.nd .lf (.row [(.nat .i64 1)] 1 3 false 0 0 0) .lf)
  (.row [(.nat .i64 1),(.nat .i64 2)] 2 3 false 0 0 0) (.nd .lf (.row [(.sl k9 0 0 1 1),(.sl k10 0 0 2 2)] 2 34 false 0 0 0) (tr (tl (.nd .lf (.row
  [(.so k102 12 0 4 0),(.so k131 9 0 3 0),(.so k151 12 0 4 0)] 3 141 true 3 0 0) .lf))))) (.nd (.nd (tl (tn (tl (.nd .lf (.row [(.sl k126 0 0 1
  1),(.nat .i64 3),(.nat .i64 0),(.sl k132 0 0 1 1),(.nat .i64 1),(.nat .i64 1),(.sl k5 0 0 2 2),(.nat .i64 3),(.nat .i64 2)] 9 143 true 0 0 0) .lf))
  (.nd .lf (.row [(.nat .i64 3)] 1 3 false 0 0 0) .lf))) (.row [(.sl k5 0 0 2 2),(.sl k6 0 0 1 1)] 2 34 false 0 0 0) (tr (tl (.nd .lf (.row [(.so k93
  3 0 3 0),(.so k95 3 0 3 0),(.so k97 3 0 3 0),(.ref 0 k90)] 4 94 false 0 0 0) .lf)))) (.row [(.nat .i64 3)] 1 3 false 0 0 0) (tn (tn (tr (.nd .lf
  (.row [(.nat .i64 1)] 1 3 false 0 0 0) .lf)) (tl (tl (.nd .lf (.row [(.sl k146 0 0 1 1),(.nat .i64 2),(.nat .i64 0),(.sl k152 0 0 1 1),(.nat .i64
  1),(.nat .i64 1),(.sl k159 0 0 1 1),(.nat .i64 3),(.nat .i64 0),(.sl k5 0 0 2 2),(.nat .i64 3),(.nat .i64 2)] 12 143 true 0 0 0) .lf)))) (tn (tr
  (.nd .lf (.row [(.nat .i64 2)] 1 3 false 0 0 0) .lf)) (tl (.nd .lf (.row [(.bool true),(.bool true),(.bool true)] 3 4 true 0 0 0) .lf))))))), k256⟩
def a0_57 : S := ⟨(tn (tn (tn (.nd .lf (.row [(.nat .i64 1),(.nat .i64 2)] 2 3 false 0 0 0) .lf) (.nd .lf (.row [(.sl k7 0 0 1 1),(.sl k8 0 0 2 2)] 2
  34 false 0 0 0) .lf)) (.nd (.nd .lf (.row [(.nat .i64 1),(.nat .i64 1)] 2 3 false 0 0 0) .lf) (.row [(.nat .i64 3)] 1 3 false 0 0 0) (tl (tl (tr
  (.nd .lf (.row [(.sl k99 0 0 1 1),(.nat .i64 3),(.nat .i64 0),(.sl k103 0 0 1 1),(.nat .i64 1),(.nat .i64 1),(.sl k111 0 0 1 1),(.nat .i64 2),(.nat
  .i64 0),(.sl k5 0 0 2 2),(.nat .i64 3),(.nat .i64 2)] 12 143 true 0 0 0) .lf)))))) (tn (.nd (.nd .lf (.row [(.nat .i64 1)] 1 3 false 0 0 0) (tr (tl
  (tl (.nd .lf (.row [(.sl k146 0 0 1 1),(.nat .i64 1),(.nat .i64 1),(.sl k154 0 0 1 1),(.nat .i64 3),(.nat .i64 0),(.sl k159 0 0 1 1),(.nat .i64
  2),(.nat .i64 0),(.sl k5 0 0 2 2),(.nat .i64 3),(.nat .i64 2)] 12 143 true 0 0 0) .lf))))) (.row [(.nat .i64 1),(.nat .i64 2)] 2 3 false 0 0 0) (.nd
  .lf (.row [(.sl k9 0 0 1 1),(.sl k10 0 0 2 2)] 2 34 false 0 0 0) (tr (tl (.nd .lf (.row [(.so k102 12 0 4 0),(.so k131 9 0 3 0),(.so k153 12 0 4 0)]
  3 141 true 3 0 0) .lf))))) (.nd (.nd (tl (tn (tl (.nd .lf (.row [(.sl k126 0 0 1 1),(.nat .i64 3),(.nat .i64 0),(.sl k132 0 0 1 1),(.nat .i64
  1),(.nat .i64 1),(.sl k5 0 0 2 2),(.nat .i64 3),(.nat .i64 2)] 9 143 true 0 0 0) .lf)) (.nd .lf (.row [(.nat .i64 3)] 1 3 false 0 0 0) .lf))) (.row
  [(.sl k5 0 0 2 2),(.sl k6 0 0 1 1)] 2 34 false 0 0 0) (tr (tl (.nd .lf (.row [(.so k93 3 0 3 0),(.so k95 3 0 3 0),(.so k97 3 0 3 0),(.ref 0 k90)] 4
  94 false 0 0 0) .lf)))) (.row [(.nat .i64 3)] 1 3 false 0 0 0) (tn (tl (tr (.nd .lf (.row [(.nat .i64 1)] 1 3 false 0 0 0) .lf))) (tn (tr (.nd .lf
  (.row [(.nat .i64 2)] 1 3 false 0 0 0) .lf)) (tl (.nd .lf (.row [(.bool true),(.bool true),(.bool true)] 3 4 true 0 0 0) .lf))))))), k257⟩
def a0_58 : S := ⟨(tn (tn (tn (.nd .lf (.row [(.nat .i64 1),(.nat .i64 2)] 2 3 false 0 0 0) .lf) (.nd .lf (.row [(.sl k7 0 0 1 1),(.sl k8 0 0 2 2)] 2
  34 false 0 0 0) .lf)) (.nd (.nd .lf (.row [(.nat .i64 1),(.nat .i64 1)] 2 3 false 0 0 0) .lf) (.row [(.nat .i64 3)] 1 3 false 0 0 0) (tl (tl (tr
  (.nd .lf (.row [(.sl k99 0 0 1 1),(.nat .i64 3),(.nat .i64 0),(.sl k103 0 0 1 1),(.nat .i64 1),(.nat .i64 1),(.sl k111 0 0 1 1),(.nat .i64 2),(.nat
  .i64 0),(.sl k5 0 0 2 2),(.nat .i64 3),(.nat .i64 2)] 12 143 true 0 0 0) .lf)))))) (tn (.nd (.nd .lf (.row [(.nat .i64 1)] 1 3 false 0 0 0) (tr (tl
  (tl (.nd .lf (.row [(.sl k146 0 0 1 1),(.nat .i64 1),(.nat .i64 1),(.sl k154 0 0 1 1),(.nat .i64 2),(.nat .i64 0),(.sl k159 0 0 1 1),(.nat .i64
  3),(.nat .i64 0),(.sl k5 0 0 2 2),(.nat .i64 3),(.nat .i64 2)] 12 143 true 0 0 0) .lf))))) (.row [(.nat .i64 1),(.nat .i64 2)] 2 3 false 0 0 0) (.nd
  .lf (.row [(.sl k9 0 0 1 1),(.sl k10 0 0 2 2)] 2 34 false 0 0 0) (tr (tl (.nd .lf (.row [(.so k102 12 0 4 0),(.so k131 9 0 3 0),(.so k153 12 0 4 0)]
  3 141 true 3 0 0) .lf))))) (.nd (.nd (tl (tn (tl (.nd .lf (.row [(.sl k126 0 0 1 1),(.nat .i64 3),(.nat .i64 0),(.sl k132 0 0 1 1),(.nat .i64
  1),(.nat .i64 1),(.sl k5 0 0 2 2),(.nat .i64 3),(.nat .i64 2)] 9 143 true 0 0 0) .lf)) (.nd .lf (.row [(.nat .i64 3)] 1 3 false 0 0 0) .lf))) (.row
  [(.sl k5 0 0 2 2),(.sl k6 0 0 1 1)] 2 34 false 0 0 0) (tr (tl (.nd .lf (.row [(.so k93 3 0 3 0),(.so k95 3 0 3 0),(.so k97 3 0 3 0),(.ref 0 k90)] 4
  94 false 0 0 0) .lf)))) (.row [(.nat .i64 3)] 1 3 false 0 0 0) (tn (tl (tr (.nd .lf (.row [(.nat .i64 1)] 1 3 false 0 0 0) .lf))) (tn (tr (.nd .lf
  (.row [(.nat .i64 2)] 1 3 false 0 0 0) .lf)) (tl (.nd .lf (.row [(.bool true),(.bool true),(.bool true)] 3 4 true 0 0 0) .lf))))))), k258⟩
def a0_59 : S := ⟨(tn (tn (tn (.nd .lf (.row [(.nat .i64 1),(.nat .i64 2)] 2 3 false 0 0 0) .lf) (.nd .lf (.row [(.sl k7 0 0 1 1),(.sl k8 0 0 2 2)] 2
  34 false 0 0 0) .lf)) (.nd (.nd .lf (.row [(.nat .i64 1),(.nat .i64 1)] 2 3 false 0 0 0) .lf) (.row [(.nat .i64 3)] 1 3 false 0 0 0) (tl (tl (tr
  (.nd .lf (.row [(.sl k99 0 0 1 1),(.nat .i64 3),(.nat .i64 0),(.sl k103 0 0 1 1),(.nat .i64 1),(.nat .i64 1),(.sl k111 0 0 1 1),(.nat .i64 2),(.nat
  .i64 0),(.sl k5 0 0 2 2),(.nat .i64 3),(.nat .i64 2)] 12 143 true 0 0 0) .lf)))))) (tn (.nd (.nd .lf (.row [(.nat .i64 1)] 1 3 false 0 0 0) .lf)
  (.row [(.nat .i64 1),(.nat .i64 2)] 2 3 false 0 0 0) (.nd .lf (.row [(.sl k9 0 0 1 1),(.sl k10 0 0 2 2)] 2 34 false 0 0 0) (tr (tl (.nd .lf (.row
  [(.so k102 12 0 4 0),(.so k131 9 0 3 0),(.so k151 12 0 4 0)] 3 141 true 3 0 0) .lf))))) (.nd (.nd (tl (tn (tl (.nd .lf (.row [(.sl k126 0 0 1
  1),(.nat .i64 3),(.nat .i64 0),(.sl k132 0 0 1 1),(.nat .i64 1),(.nat .i64 1),(.sl k5 0 0 2 2),(.nat .i64 3),(.nat .i64 2)] 9 143 true 0 0 0) .lf))
  (.nd .lf (.row [(.nat .i64 3)] 1 3 false 0 0 0) .lf))) (.row [(.sl k5 0 0 2 2),(.sl k6 0 0 1 1)] 2 34 false 0 0 0) (tr (tl (.nd .lf (.row [(.so k93
  3 0 3 0),(.so k95 3 0 3 0),(.so k97 3 0 3 0),(.ref 0 k90)] 4 94 false 0 0 0) .lf)))) (.row [(.nat .i64 3)] 1 3 false 0 0 0) (tn (tn (tr (.nd .lf
  (.row [(.nat .i64 1)] 1 3 false 0 0 0) .lf)) (tl (tl (.nd .lf (.row [(.sl k146 0 0 1 1),(.nat .i64 3),(.nat .i64 0),(.sl k152 0 0 1 1),(.nat .i64
  2),(.nat .i64 0),(.sl k157 0 0 1 1),(.nat .i64 1),(.nat .i64 1),(.sl k5 0 0 2 2),(.nat .i64 3),(.nat .i64 2)] 12 143 true 0 0 0) .lf)))) (tn (tr
  (.nd .lf (.row [(.nat .i64 2)] 1 3 false 0 0 0) .lf)) (tl (.nd .lf (.row [(.bool true),(.bool true),(.bool true)] 3 4 true 0 0 0) .lf))))))), k259⟩
def a0_60 : S := ⟨(tn (tn (tn (.nd .lf (.row [(.nat .i64 1),(.nat .i64 2)] 2 3 false 0 0 0) .lf) (.nd .lf (.row [(.sl k7 0 0 1 1),(.sl k8 0 0 2 2)] 2
  34 false 0 0 0) .lf)) (.nd (.nd .lf (.row [(.nat .i64 1),(.nat .i64 1)] 2 3 false 0 0 0) .lf) (.row [(.nat .i64 3)] 1 3 false 0 0 0) (tl (tl (tr
  (.nd .lf (.row [(.sl k99 0 0 1 1),(.nat .i64 3),(.nat .i64 0),(.sl k103 0 0 1 1),(.nat .i64 1),(.nat .i64 1),(.sl k111 0 0 1 1),(.nat .i64 2),(.nat
  .i64 0),(.sl k5 0 0 2 2),(.nat .i64 3),(.nat .i64 2)] 12 143 true 0 0 0) .lf)))))) (tn (.nd (.nd .lf (.row [(.nat .i64 1)] 1 3 false 0 0 0) .lf)
  (.row [(.nat .i64 1),(.nat .i64 2)] 2 3 false 0 0 0) (.nd .lf (.row [(.sl k9 0 0 1 1),(.sl k10 0 0 2 2)] 2 34 false 0 0 0) (tr (tl (.nd .lf (.row
  [(.so k102 12 0 4 0),(.so k127 9 0 3 0),(.so k151 12 0 4 0)] 3 141 true 3 0 0) .lf))))) (.nd (.nd (tl (tr (.nd .lf (.row [(.nat .i64 3)] 1 3 false 0
  0 0) .lf))) (.row [(.sl k5 0 0 2 2),(.sl k6 0 0 1 1)] 2 34 false 0 0 0) (tr (tl (.nd .lf (.row [(.so k93 3 0 3 0),(.so k95 3 0 3 0),(.so k97 3 0 3
  0),(.ref 0 k90)] 4 94 false 0 0 0) .lf)))) (.row [(.nat .i64 3)] 1 3 false 0 0 0) (tn (tn (tr (.nd .lf (.row [(.nat .i64 1)] 1 3 false 0 0 0) .lf))
  (tl (tl (.nd .lf (.row [(.sl k146 0 0 1 1),(.nat .i64 3),(.nat .i64 0),(.sl k152 0 0 1 1),(.nat .i64 1),(.nat .i64 1),(.sl k159 0 0 1 1),(.nat .i64
  2),(.nat .i64 0),(.sl k5 0 0 2 2),(.nat .i64 3),(.nat .i64 2)] 12 143 true 0 0 0) .lf)))) (tn (tr (.nd .lf (.row [(.nat .i64 2)] 1 3 false 0 0 0)
  .lf)) (tn (.nd .lf (.row [(.bool true),(.bool true),(.bool true)] 3 4 true 0 0 0) .lf) (.nd .lf (.row [(.sl k122 0 0 1 1),(.nat .i64 3),(.nat .i64
  0),(.sl k128 0 0 1 1),(.nat .i64 1),(.nat .i64 1),(.sl k5 0 0 2 2),(.nat .i64 3),(.nat .i64 2)] 9 143 true 0 0 0) .lf))))))), k260⟩
def a0_61 : S := ⟨(tn (tn (tn (.nd .lf (.row [(.nat .i64 1),(.nat .i64 2)] 2 3 false 0 0 0) .lf) (.nd .lf (.row [(.sl k7 0 0 1 1),(.sl k8 0 0 2 2)] 2
  34 false 0 0 0) .lf)) (.nd (.nd .lf (.row [(.nat .i64 1),(.nat .i64 1)] 2 3 false 0 0 0) .lf) (.row [(.nat .i64 3)] 1 3 false 0 0 0) (tl (tl (tr
  (.nd .lf (.row [(.sl k99 0 0 1 1),(.nat .i64 3),(.nat .i64 0),(.sl k103 0 0 1 1),(.nat .i64 1),(.nat .i64 1),(.sl k111 0 0 1 1),(.nat .i64 2),(.nat
  .i64 0),(.sl k5 0 0 2 2),(.nat .i64 3),(.nat .i64 2)] 12 143 true 0 0 0) .lf)))))) (tn (.nd (.nd .lf (.row [(.nat .i64 1)] 1 3 false 0 0 0) .lf)
  (.row [(.nat .i64 1),(.nat .i64 2)] 2 3 false 0 0 0) (.nd .lf (.row [(.sl k9 0 0 1 1),(.sl k10 0 0 2 2)] 2 34 false 0 0 0) (tr (tl (.nd .lf (.row
  [(.so k102 12 0 4 0),(.so k127 9 0 3 0),(.so k151 12 0 4 0)] 3 141 true 3 0 0) .lf))))) (.nd (.nd (tl (tr (.nd .lf (.row [(.nat .i64 3)] 1 3 false 0
  0 0) .lf))) (.row [(.sl k5 0 0 2 2),(.sl k6 0 0 1 1)] 2 34 false 0 0 0) (tr (tl (.nd .lf (.row [(.so k93 3 0 3 0),(.so k95 3 0 3 0),(.so k97 3 0 3
  0),(.ref 0 k90)] 4 94 false 0 0 0) .lf)))) (.row [(.nat .i64 3)] 1 3 false 0 0 0) (tn (tn (tr (.nd .lf (.row [(.nat .i64 1)] 1 3 false 0 0 0) .lf))
  (tl (tl (.nd .lf (.row [(.sl k146 0 0 1 1),(.nat .i64 2),(.nat .i64 0),(.sl k152 0 0 1 1),(.nat .i64 3),(.nat .i64 0),(.sl k157 0 0 1 1),(.nat .i64
  1),(.nat .i64 1),(.sl k5 0 0 2 2),(.nat .i64 3),(.nat .i64 2)] 12 143 true 0 0 0) .lf)))) (tn (tr (.nd .lf (.row [(.nat .i64 2)] 1 3 false 0 0 0)
  .lf)) (tn (.nd .lf (.row [(.bool true),(.bool true),(.bool true)] 3 4 true 0 0 0) .lf) (.nd .lf (.row [(.sl k122 0 0 1 1),(.nat .i64 3),(.nat .i64
  0),(.sl k128 0 0 1 1),(.nat .i64 1),(.nat .i64 1),(.sl k5 0 0 2 2),(.nat .i64 3),(.nat .i64 2)] 9 143 true 0 0 0) .lf))))))), k261⟩
def a0_62 : S := ⟨(tn (tn (tn (.nd .lf (.row [(.nat .i64 1),(.nat .i64 2)] 2 3 false 0 0 0) .lf) (.nd .lf (.row [(.sl k7 0 0 1 1),(.sl k8 0 0 2 2)] 2
  34 false 0 0 0) .lf)) (.nd (.nd .lf (.row [(.nat .i64 1),(.nat .i64 1)] 2 3 false 0 0 0) .lf) (.row [(.nat .i64 3)] 1 3 false 0 0 0) (tl (tl (tr
  (.nd .lf (.row [(.sl k99 0 0 1 1),(.nat .i64 3),(.nat .i64 0),(.sl k103 0 0 1 1),(.nat .i64 1),(.nat .i64 1),(.sl k111 0 0 1 1),(.nat .i64 2),(.nat
  .i64 0),(.sl k5 0 0 2 2),(.nat .i64 3),(.nat .i64 2)] 12 143 true 0 0 0) .lf)))))) (tn (.nd (.nd .lf (.row [(.nat .i64 1)] 1 3 false 0 0 0) .lf)
  (.row [(.nat .i64 1),(.nat .i64 2)] 2 3 false 0 0 0) (.nd .lf (.row [(.sl k9 0 0 1 1),(.sl k10 0 0 2 2)] 2 34 false 0 0 0) (tr (tl (.nd .lf (.row
  [(.so k102 12 0 4 0),(.so k127 9 0 3 0),(.so k151 12 0 4 0)] 3 141 true 3 0 0) .lf))))) (.nd (.nd (tl (tr (.nd .lf (.row [(.nat .i64 3)] 1 3 false 0
  0 0) .lf))) (.row [(.sl k5 0 0 2 2),(.sl k6 0 0 1 1)] 2 34 false 0 0 0) (tr (tl (.nd .lf (.row [(.so k93 3 0 3 0),(.so k95 3 0 3 0),(.so k97 3 0 3
  0),(.ref 0 k90)] 4 94 false 0 0 0) .lf)))) (.row [(.nat .i64 3)] 1 3 false 0 0 0) (tn (tn (tr (.nd .lf (.row [(.nat .i64 1)] 1 3 false 0 0 0) .lf))
  (tl (tl (.nd .lf (.row [(.sl k146 0 0 1 1),(.nat .i64 2),(.nat .i64 0),(.sl k152 0 0 1 1),(.nat .i64 1),(.nat .i64 1),(.sl k159 0 0 1 1),(.nat .i64
  3),(.nat .i64 0),(.sl k5 0 0 2 2),(.nat .i64 3),(.nat .i64 2)] 12 143 true 0 0 0) .lf)))) (tn (tr (.nd .lf (.row [(.nat .i64 2)] 1 3 false 0 0 0)
  .lf)) (tn (.nd .lf (.row [(.bool true),(.bool true),(.bool true)] 3 4 true 0 0 0) .lf) (.nd .lf (.row [(.sl k122 0 0 1 1),(.nat .i64 3),(.nat .i64
  0),(.sl k128 0 0 1 1),(.nat .i64 1),(.nat .i64 1),(.sl k5 0 0 2 2),(.nat .i64 3),(.nat .i64 2)] 9 143 true 0 0 0) .lf))))))), k262⟩
def a0_63 : S := ⟨(tn (tn (tn (.nd .lf (.row [(.nat .i64 1),(.nat .i64 2)] 2 3 false 0 0 0) .lf) (.nd .lf (.row [(.sl k7 0 0 1 1),(.sl k8 0 0 2 2)] 2
  34 false 0 0 0) .lf)) (.nd (.nd .lf (.row [(.nat .i64 1),(.nat .i64 1)] 2 3 false 0 0 0) .lf) (.row [(.nat .i64 3)] 1 3 false 0 0 0) (tl (tl (tr
  (.nd .lf (.row [(.sl k99 0 0 1 1),(.nat .i64 3),(.nat .i64 0),(.sl k103 0 0 1 1),(.nat .i64 1),(.nat .i64 1),(.sl k111 0 0 1 1),(.nat .i64 2),(.nat
  .i64 0),(.sl k5 0 0 2 2),(.nat .i64 3),(.nat .i64 2)] 12 143 true 0 0 0) .lf)))))) (tn (.nd (.nd .lf (.row [(.nat .i64 1)] 1 3 false 0 0 0) (tr (tl
  (tl (.nd .lf (.row [(.sl k146 0 0 1 1),(.nat .i64 1),(.nat .i64 1),(.sl k154 0 0 1 1),(.nat .i64 3),(.nat .i64 0),(.sl k159 0 0 1 1),(.nat .i64
  2),(.nat .i64 0),(.sl k5 0 0 2 2),(.nat .i64 3),(.nat .i64 2)] 12 143 true 0 0 0) .lf))))) (.row [(.nat .i64 1),(.nat .i64 2)] 2 3 false 0 0 0) (.nd
  .lf (.row [(.sl k9 0 0 1 1),(.sl k10 0 0 2 2)] 2 34 false 0 0 0) (tr (tl (.nd .lf (.row [(.so k102 12 0 4 0),(.so k127 9 0 3 0),(.so k153 12 0 4 0)]
  3 141 true 3 0 0) .lf))))) (.nd (.nd (tl (tr (.nd .lf (.row [(.nat .i64 3)] 1 3 false 0 0 0) .lf))) (.row [(.sl k5 0 0 2 2),(.sl k6 0 0 1 1)] 2 34
  false 0 0 0) (tr (tl (.nd .lf (.row [(.so k93 3 0 3 0),(.so k95 3 0 3 0),(.so k97 3 0 3 0),(.ref 0 k90)] 4 94 false 0 0 0) .lf)))) (.row [(.nat .i64
  3)] 1 3 false 0 0 0) (tn (tl (tr (.nd .lf (.row [(.nat .i64 1)] 1 3 false 0 0 0) .lf))) (tn (tr (.nd .lf (.row [(.nat .i64 2)] 1 3 false 0 0 0)
  .lf)) (tn (.nd .lf (.row [(.bool true),(.bool true),(.bool true)] 3 4 true 0 0 0) .lf) (.nd .lf (.row [(.sl k122 0 0 1 1),(.nat .i64 3),(.nat .i64
  0),(.sl k128 0 0 1 1),(.nat .i64 1),(.nat .i64 1),(.sl k5 0 0 2 2),(.nat .i64 3),(.nat .i64 2)] 9 143 true 0 0 0) .lf))))))), k263⟩
def a0_64 : S := ⟨(tn (tn (tn (.nd .lf (.row [(.nat .i64 1),(.nat .i64 2)] 2 3 false 0 0 0) .lf) (.nd .lf (.row [(.sl k7 0 0 1 1),(.sl k8 0 0 2 2)] 2
  34 false 0 0 0) .lf)) (.nd (.nd .lf (.row [(.nat .i64 1),(.nat .i64 1)] 2 3 false 0 0 0) .lf) (.row [(.nat .i64 3)] 1 3 false 0 0 0) (tl (tl (tr
  (.nd .lf (.row [(.sl k99 0 0 1 1),(.nat .i64 3),(.nat .i64 0),(.sl k103 0 0 1 1),(.nat .i64 1),(.nat .i64 1),(.sl k111 0 0 1 1),(.nat .i64 2),(.nat
  .i64 0),(.sl k5 0 0 2 2),(.nat .i64 3),(.nat .i64 2)] 12 143 true 0 0 0) .lf)))))) (tn (.nd (.nd .lf (.row [(.nat .i64 1)] 1 3 false 0 0 0) (tr (tl
  (tl (.nd .lf (.row [(.sl k146 0 0 1 1),(.nat .i64 1),(.nat .i64 1),(.sl k154 0 0 1 1),(.nat .i64 2),(.nat .i64 0),(.sl k159 0 0 1 1),(.nat .i64
  3),(.nat .i64 0),(.sl k5 0 0 2 2),(.nat .i64 3),(.nat .i64 2)] 12 143 true 0 0 0) .lf))))) (.row [(.nat .i64 1),(.nat .i64 2)] 2 3 false 0 0 0) (.nd
  .lf (.row [(.sl k9 0 0 1 1),(.sl k10 0 0 2 2)] 2 34 false 0 0 0) (tr (tl (.nd .lf (.row [(.so k102 12 0 4 0),(.so k127 9 0 3 0),(.so k153 12 0 4 0)]
  3 141 true 3 0 0) .lf))))) (.nd (.nd (tl (tr (.nd .lf (.row [(.nat .i64 3)] 1 3 false 0 0 0) .lf))) (.row [(.sl k5 0 0 2 2),(.sl k6 0 0 1 1)] 2 34
  false 0 0 0) (tr (tl (.nd .lf (.row [(.so k93 3 0 3 0),(.so k95 3 0 3 0),(.so k97 3 0 3 0),(.ref 0 k90)] 4 94 false 0 0 0) .lf)))) (.row [(.nat .i64
  3)] 1 3 false 0 0 0) (tn (tl (tr (.nd .lf (.row [(.nat .i64 1)] 1 3 false 0 0 0) .lf))) (tn (tr (.nd .lf (.row [(.nat .i64 2)] 1 3 false 0 0 0)
  .lf)) (tn (.nd .lf (.row [(.bool true),(.bool true),(.bool true)] 3 4 true 0 0 0) .lf) (.nd .lf (.row [(.sl k122 0 0 1 1),(.nat .i64 3),(.nat .i64
  0),(.sl k128 0 0 1 1),(.nat .i64 1),(.nat .i64 1),(.sl k5 0 0 2 2),(.nat .i64 3),(.nat .i64 2)] 9 143 true 0 0 0) .lf))))))), k264⟩
def a0_65 : S := ⟨(tn (tn (tn (.nd .lf (.row [(.nat .i64 1),(.nat .i64 2)] 2 3 false 0 0 0) .lf) (.nd .lf (.row [(.sl k7 0 0 1 1),(.sl k8 0 0 2 2)] 2
  34 false 0 0 0) .lf)) (.nd (.nd .lf (.row [(.nat .i64 1),(.nat .i64 1)] 2 3 false 0 0 0) .lf) (.row [(.nat .i64 3)] 1 3 false 0 0 0) (tl (tl (tr
  (.nd .lf (.row [(.sl k99 0 0 1 1),(.nat .i64 3),(.nat .i64 0),(.sl k103 0 0 1 1),(.nat .i64 1),(.nat .i64 1),(.sl k111 0 0 1 1),(.nat .i64 2),(.nat
  .i64 0),(.sl k5 0 0 2 2),(.nat .i64 3),(.nat .i64 2)] 12 143 true 0 0 0) .lf)))))) (tn (.nd (.nd .lf (.row [(.nat .i64 1)] 1 3 false 0 0 0) .lf)
  (.row [(.nat .i64 1),(.nat .i64 2)] 2 3 false 0 0 0) (.nd .lf (.row [(.sl k9 0 0 1 1),(.sl k10 0 0 2 2)] 2 34 false 0 0 0) (tr (tl (.nd .lf (.row
  [(.so k102 12 0 4 0),(.so k127 9 0 3 0),(.so k151 12 0 4 0)] 3 141 true 3 0 0) .lf))))) (.nd (.nd (tl (tr (.nd .lf (.row [(.nat .i64 3)] 1 3 false 0
  0 0) .lf))) (.row [(.sl k5 0 0 2 2),(.sl k6 0 0 1 1)] 2 34 false 0 0 0) (tr (tl (.nd .lf (.row [(.so k93 3 0 3 0),(.so k95 3 0 3 0),(.so k97 3 0 3
  0),(.ref 0 k90)] 4 94 false 0 0 0) .lf)))) (.row [(.nat .i64 3)] 1 3 false 0 0 0) (tn (tn (tr (.nd .lf (.row [(.nat .i64 1)] 1 3 false 0 0 0) .lf))
  (tl (tl (.nd .lf (.row [(.sl k146 0 0 1 1),(.nat .i64 3),(.nat .i64 0),(.sl k152 0 0 1 1),(.nat .i64 2),(.nat .i64 0),(.sl k157 0 0 1 1),(.nat .i64
  1),(.nat .i64 1),(.sl k5 0 0 2 2),(.nat .i64 3),(.nat .i64 2)] 12 143 true 0 0 0) .lf)))) (tn (tr (.nd .lf (.row [(.nat .i64 2)] 1 3 false 0 0 0)
  .lf)) (tn (.nd .lf (.row [(.bool true),(.bool true),(.bool true)] 3 4 true 0 0 0) .lf) (.nd .lf (.row [(.sl k122 0 0 1 1),(.nat .i64 3),(.nat .i64
  0),(.sl k128 0 0 1 1),(.nat .i64 1),(.nat .i64 1),(.sl k5 0 0 2 2),(.nat .i64 3),(.nat .i64 2)] 9 143 true 0 0 0) .lf))))))), k265⟩
def a0_66 : S := ⟨(tn (tn (tn (.nd .lf (.row [(.nat .i64 1),(.nat .i64 2)] 2 3 false 0 0 0) .lf) (.nd .lf (.row [(.sl k7 0 0 1 1),(.sl k8 0 0 2 2)] 2
  34 false 0 0 0) .lf)) (.nd (.nd .lf (.row [(.nat .i64 1),(.nat .i64 1)] 2 3 false 0 0 0) .lf) (.row [(.nat .i64 3)] 1 3 false 0 0 0) (tl (tl (tr
  (.nd .lf (.row [(.sl k99 0 0 1 1),(.nat .i64 3),(.nat .i64 0),(.sl k103 0 0 1 1),(.nat .i64 1),(.nat .i64 1),(.sl k111 0 0 1 1),(.nat .i64 2),(.nat
  .i64 0),(.sl k5 0 0 2 2),(.nat .i64 3),(.nat .i64 2)] 12 143 true 0 0 0) .lf)))))) (tn (.nd (.nd .lf (.row [(.nat .i64 1)] 1 3 false 0 0 0) (tr (tl
  (tl (.nd .lf (.row [(.sl k146 0 0 1 1),(.nat .i64 1),(.nat .i64 1),(.sl k154 0 0 1 1),(.nat .i64 2),(.nat .i64 0),(.sl k159 0 0 1 1),(.nat .i64
  3),(.nat .i64 0),(.sl k5 0 0 2 2),(.nat .i64 3),(.nat .i64 2)] 12 143 true 0 0 0) .lf))))) (.row [(.nat .i64 1),(.nat .i64 2)] 2 3 false 0 0 0) (.nd
  .lf (.row [(.sl k9 0 0 1 1),(.sl k10 0 0 2 2)] 2 34 false 0 0 0) (tr (tl (.nd .lf (.row [(.so k102 12 0 4 0),(.so k127 9 0 3 0),(.so k153 12 0 4 0)]
  3 141 true 3 0 0) .lf))))) (.nd (.nd (tl (tr (.nd .lf (.row [(.nat .i64 3)] 1 3 false 0 0 0) .lf))) (.row [(.sl k5 0 0 2 2),(.sl k6 0 0 1 1)] 2 34
  false 0 0 0) (tr (tl (.nd .lf (.row [(.so k93 3 0 3 0),(.so k95 3 0 3 0),(.so k97 3 0 3 0),(.ref 0 k90)] 4 94 false 0 0 0) .lf)))) (.row [(.nat .i64
  3)] 1 3 false 0 0 0) (tn (tl (tr (.nd .lf (.row [(.nat .i64 1)] 1 3 false 0 0 0) .lf))) (tn (tr (.nd .lf (.row [(.nat .i64 2)] 1 3 false 0 0 0)
  .lf)) (tn (.nd .lf (.row [(.bool true),(.bool true),(.bool true)] 3 4 true 0 0 0) .lf) (.nd .lf (.row [(.sl k122 0 0 1 1),(.nat .i64 3),(.nat .i64
  0),(.sl k132 0 0 1 1),(.nat .i64 1),(.nat .i64 1),(.sl k5 0 0 2 2),(.nat .i64 3),(.nat .i64 2)] 9 143 true 0 0 0) .lf))))))), k266⟩
def a0_67 : S := ⟨(tn (tn (tn (.nd .lf (.row [(.nat .i64 1),(.nat .i64 2)] 2 3 false 0 0 0) .lf) (.nd .lf (.row [(.sl k7 0 0 1 1),(.sl k8 0 0 2 2)] 2
  34 false 0 0 0) .lf)) (.nd (.nd .lf (.row [(.nat .i64 1),(.nat .i64 1)] 2 3 false 0 0 0) .lf) (.row [(.nat .i64 3)] 1 3 false 0 0 0) (tl (tl (tr
  (.nd .lf (.row [(.sl k99 0 0 1 1),(.nat .i64 3),(.nat .i64 0),(.sl k103 0 0 1 1),(.nat .i64 1),(.nat .i64 1),(.sl k111 0 0 1 1),(.nat .i64 2),(.nat
  .i64 0),(.sl k5 0 0 2 2),(.nat .i64 3),(.nat .i64 2)] 12 143 true 0 0 0) .lf)))))) (tn (.nd (.nd .lf (.row [(.nat .i64 1)] 1 3 false 0 0 0) (tr (tl
  (tl (.nd .lf (.row [(.sl k146 0 0 1 1),(.nat .i64 1),(.nat .i64 1),(.sl k154 0 0 1 1),(.nat .i64 3),(.nat .i64 0),(.sl k159 0 0 1 1),(.nat .i64
  2),(.nat .i64 0),(.sl k5 0 0 2 2),(.nat .i64 3),(.nat .i64 2)] 12 143 true 0 0 0) .lf))))) (.row [(.nat .i64 1),(.nat .i64 2)] 2 3 false 0 0 0) (.nd
  .lf (.row [(.sl k9 0 0 1 1),(.sl k10 0 0 2 2)] 2 34 false 0 0 0) (tr (tl (.nd .lf (.row [(.so k102 12 0 4 0),(.so k127 9 0 3 0),(.so k153 12 0 4 0)]
  3 141 true 3 0 0) .lf))))) (.nd (.nd (tl (tr (.nd .lf (.row [(.nat .i64 3)] 1 3 false 0 0 0) .lf))) (.row [(.sl k5 0 0 2 2),(.sl k6 0 0 1 1)] 2 34
  false 0 0 0) (tr (tl (.nd .lf (.row [(.so k93 3 0 3 0),(.so k95 3 0 3 0),(.so k97 3 0 3 0),(.ref 0 k90)] 4 94 false 0 0 0) .lf)))) (.row [(.nat .i64
  3)] 1 3 false 0 0 0) (tn (tl (tr (.nd .lf (.row [(.nat .i64 1)] 1 3 false 0 0 0) .lf))) (tn (tr (.nd .lf (.row [(.nat .i64 2)] 1 3 false 0 0 0)
  .lf)) (tn (.nd .lf (.row [(.bool true),(.bool true),(.bool true)] 3 4 true 0 0 0) .lf) (.nd .lf (.row [(.sl k122 0 0 1 1),(.nat .i64 3),(.nat .i64
  0),(.sl k132 0 0 1 1),(.nat .i64 1),(.nat .i64 1),(.sl k5 0 0 2 2),(.nat .i64 3),(.nat .i64 2)] 9 143 true 0 0 0) .lf))))))), k267⟩
def a0_68 : S := ⟨(tn (tn (tn (.nd .lf (.row [(.nat .i64 1),(.nat .i64 2)] 2 3 false 0 0 0) .lf) (.nd .lf (.row [(.sl k7 0 0 1 1),(.sl k8 0 0 2 2)] 2
  34 false 0 0 0) .lf)) (.nd (.nd .lf (.row [(.nat .i64 1),(.nat .i64 1)] 2 3 false 0 0 0) .lf) (.row [(.nat .i64 3)] 1 3 false 0 0 0) (tl (tl (tr
  (.nd .lf (.row [(.sl k99 0 0 1 1),(.nat .i64 3),(.nat .i64 0),(.sl k103 0 0 1 1),(.nat .i64 1),(.nat .i64 1),(.sl k111 0 0 1 1),(.nat .i64 2),(.nat
  .i64 0),(.sl k5 0 0 2 2),(.nat .i64 3),(.nat .i64 2)] 12 143 true 0 0 0) .lf)))))) (tn (.nd (.nd .lf (.row [(.nat .i64 1)] 1 3 false 0 0 0) .lf)
  (.row [(.nat .i64 1),(.nat .i64 2)] 2 3 false 0 0 0) (.nd .lf (.row [(.sl k9 0 0 1 1),(.sl k10 0 0 2 2)] 2 34 false 0 0 0) (tr (tl (.nd .lf (.row
  [(.so k102 12 0 4 0),(.so k127 9 0 3 0),(.so k151 12 0 4 0)] 3 141 true 3 0 0) .lf))))) (.nd (.nd (tl (tr (.nd .lf (.row [(.nat .i64 3)] 1 3 false 0
  0 0) .lf))) (.row [(.sl k5 0 0 2 2),(.sl k6 0 0 1 1)] 2 34 false 0 0 0) (tr (tl (.nd .lf (.row [(.so k93 3 0 3 0),(.so k95 3 0 3 0),(.so k97 3 0 3
  0),(.ref 0 k90)] 4 94 false 0 0 0) .lf)))) (.row [(.nat .i64 3)] 1 3 false 0 0 0) (tn (tn (tr (.nd .lf (.row [(.nat .i64 1)] 1 3 false 0 0 0) .lf))
  (tl (tl (.nd .lf (.row [(.sl k146 0 0 1 1),(.nat .i64 2),(.nat .i64 0),(.sl k152 0 0 1 1),(.nat .i64 1),(.nat .i64 1),(.sl k159 0 0 1 1),(.nat .i64
  3),(.nat .i64 0),(.sl k5 0 0 2 2),(.nat .i64 3),(.nat .i64 2)] 12 143 true 0 0 0) .lf)))) (tn (tr (.nd .lf (.row [(.nat .i64 2)] 1 3 false 0 0 0)
  .lf)) (tn (.nd .lf (.row [(.bool true),(.bool true),(.bool true)] 3 4 true 0 0 0) .lf) (.nd .lf (.row [(.sl k122 0 0 1 1),(.nat .i64 3),(.nat .i64
  0),(.sl k132 0 0 1 1),(.nat .i64 1),(.nat .i64 1),(.sl k5 0 0 2 2),(.nat .i64 3),(.nat .i64 2)] 9 143 true 0 0 0) .lf))))))), k268⟩
def a0_69 : S := ⟨(tn (tn (tn (.nd .lf (.row [(.nat .i64 1),(.nat .i64 2)] 2 3 false 0 0 0) .lf) (.nd .lf (.row [(.sl k7 0 0 1 1),(.sl k8 0 0 2 2)] 2
  34 false 0 0 0) .lf)) (.nd (.nd .lf (.row [(.nat .i64 1),(.nat .i64 1)] 2 3 false 0 0 0) .lf) (.row [(.nat .i64 3)] 1 3 false 0 0 0) (tl (tl (tr
  (.nd .lf (.row [(.sl k99 0 0 1 1),(.nat .i64 3),(.nat .i64 0),(.sl k103 0 0 1 1),(.nat .i64 1),(.nat .i64 1),(.sl k111 0 0 1 1),(.nat .i64 2),(.nat
  .i64 0),(.sl k5 0 0 2 2),(.nat .i64 3),(.nat .i64 2)] 12 143 true 0 0 0) .lf)))))) (tn (.nd (.nd .lf (.row [(.nat .i64 1)] 1 3 false 0 0 0) .lf)
  (.row [(.nat .i64 1),(.nat .i64 2)] 2 3 false 0 0 0) (.nd .lf (.row [(.sl k9 0 0 1 1),(.sl k10 0 0 2 2)] 2 34 false 0 0 0) (tr (tl (.nd .lf (.row
  [(.so k102 12 0 4 0),(.so k127 9 0 3 0),(.so k151 12 0 4 0)] 3 141 true 3 0 0) .lf))))) (.nd (.nd (tl (tr (.nd .lf (.row [(.nat .i64 3)] 1 3 false 0
  0 0) .lf))) (.row [(.sl k5 0 0 2 2),(.sl k6 0 0 1 1)] 2 34 false 0 0 0) (tr (tl (.nd .lf (.row [(.so k93 3 0 3 0),(.so k95 3 0 3 0),(.so k97 3 0 3
  0),(.ref 0 k90)] 4 94 false 0 0 0) .lf)))) (.row [(.nat .i64 3)] 1 3 false 0 0 0) (tn (tn (tr (.nd .lf (.row [(.nat .i64 1)] 1 3 false 0 0 0) .lf))
  (tl (tl (.nd .lf (.row [(.sl k146 0 0 1 1),(.nat .i64 2),(.nat .i64 0),(.sl k152 0 0 1 1),(.nat .i64 3),(.nat .i64 0),(.sl k157 0 0 1 1),(.nat .i64
  1),(.nat .i64 1),(.sl k5 0 0 2 2),(.nat .i64 3),(.nat .i64 2)] 12 143 true 0 0 0) .lf)))) (tn (tr (.nd .lf (.row [(.nat .i64 2)] 1 3 false 0 0 0)
  .lf)) (tn (.nd .lf (.row [(.bool true),(.bool true),(.bool true)] 3 4 true 0 0 0) .lf) (.nd .lf (.row [(.sl k122 0 0 1 1),(.nat .i64 3),(.nat .i64
  0),(.sl k132 0 0 1 1),(.nat .i64 1),(.nat .i64 1),(.sl k5 0 0 2 2),(.nat .i64 3),(.nat .i64 2)] 9 143 true 0 0 0) .lf))))))), k269⟩
def a0_70 : S := ⟨(tn (tn (tn (.nd .lf (.row [(.nat .i64 1),(.nat .i64 2)] 2 3 false 0 0 0) .lf) (.nd .lf (.row [(.sl k7 0 0 1 1),(.sl k8 0 0 2 2)] 2
  34 false 0 0 0) .lf)) (.nd (.nd .lf (.row [(.nat .i64 1),(.nat .i64 1)] 2 3 false 0 0 0) .lf) (.row [(.nat .i64 3)] 1 3 false 0 0 0) (tl (tl (tr
  (.nd .lf (.row [(.sl k99 0 0 1 1),(.nat .i64 3),(.nat .i64 0),(.sl k103 0 0 1 1),(.nat .i64 1),(.nat .i64 1),(.sl k111 0 0 1 1),(.nat .i64 2),(.nat
  .i64 0),(.sl k5 0 0 2 2),(.nat .i64 3),(.nat .i64 2)] 12 143 true 0 0 0) .lf)))))) (tn (.nd (.nd .lf (.row [(.nat .i64 1)] 1 3 false 0 0 0) .lf)
  (.row [(.nat .i64 1),(.nat .i64 2)] 2 3 false 0 0 0) (.nd .lf (.row [(.sl k9 0 0 1 1),(.sl k10 0 0 2 2)] 2 34 false 0 0 0) (tr (tl (.nd .lf (.row
  [(.so k102 12 0 4 0),(.so k127 9 0 3 0),(.so k151 12 0 4 0)] 3 141 true 3 0 0) .lf))))) (.nd (.nd (tl (tr (.nd .lf (.row [(.nat .i64 3)] 1 3 false 0
  0 0) .lf))) (.row [(.sl k5 0 0 2 2),(.sl k6 0 0 1 1)] 2 34 false 0 0 0) (tr (tl (.nd .lf (.row [(.so k93 3 0 3 0),(.so k95 3 0 3 0),(.so k97 3 0 3
  0),(.ref 0 k90)] 4 94 false 0 0 0) .lf)))) (.row [(.nat .i64 3)] 1 3 false 0 0 0) (tn (tn (tr (.nd .lf (.row [(.nat .i64 1)] 1 3 false 0 0 0) .lf))
  (tl (tl (.nd .lf (.row [(.sl k146 0 0 1 1),(.nat .i64 3),(.nat .i64 0),(.sl k152 0 0 1 1),(.nat .i64 1),(.nat .i64 1),(.sl k159 0 0 1 1),(.nat .i64
  2),(.nat .i64 0),(.sl k5 0 0 2 2),(.nat .i64 3),(.nat .i64 2)] 12 143 true 0 0 0) .lf)))) (tn (tr (.nd .lf (.row [(.nat .i64 2)] 1 3 false 0 0 0)
  .lf)) (tn (.nd .lf (.row [(.bool true),(.bool true),(.bool true)] 3 4 true 0 0 0) .lf) (.nd .lf (.row [(.sl k122 0 0 1 1),(.nat .i64 3),(.nat .i64
  0),(.sl k132 0 0 1 1),(.nat .i64 1),(.nat .i64 1),(.sl k5 0 0 2 2),(.nat .i64 3),(.nat .i64 2)] 9 143 true 0 0 0) .lf))))))), k270⟩
def a0_71 : S := ⟨(tn (tn (tn (.nd .lf (.row [(.nat .i64 1),(.nat .i64 2)] 2 3 false 0 0 0) .lf) (.nd .lf (.row [(.sl k7 0 0 1 1),(.sl k8 0 0 2 2)] 2
  34 false 0 0 0) .lf)) (.nd (.nd .lf (.row [(.nat .i64 1),(.nat .i64 1)] 2 3 false 0 0 0) (tl (tr (.nd .lf (.row [(.nat .i64 1)] 1 3 false 0 0 0)
  .lf)))) (.row [(.nat .i64 3)] 1 3 false 0 0 0) (tl (tl (tr (.nd .lf (.row [(.sl k99 0 0 1 1),(.nat .i64 2),(.nat .i64 0),(.sl k103 0 0 1 1),(.nat
  .i64 3),(.nat .i64 0),(.sl k106 0 0 1 1),(.nat .i64 1),(.nat .i64 1),(.sl k5 0 0 2 2),(.nat .i64 3),(.nat .i64 2)] 12 143 true 0 0 0) .lf)))))) (tn
  (.nd (.nd .lf (.row [(.nat .i64 1)] 1 3 false 0 0 0) .lf) (.row [(.nat .i64 1),(.nat .i64 2)] 2 3 false 0 0 0) (.nd .lf (.row [(.sl k9 0 0 1 1),(.sl
  k10 0 0 2 2)] 2 34 false 0 0 0) (tr (tl (.nd .lf (.row [(.so k102 12 0 4 0),(.so k127 9 0 3 0),(.so k151 12 0 4 0)] 3 141 true 3 0 0) .lf))))) (.nd
  (.nd (tl (tr (.nd .lf (.row [(.nat .i64 2)] 1 3 false 0 0 0) .lf))) (.row [(.sl k5 0 0 2 2),(.sl k6 0 0 1 1)] 2 34 false 0 0 0) (tr (tl (.nd .lf
  (.row [(.so k93 3 0 3 0),(.so k95 3 0 3 0),(.so k97 3 0 3 0),(.ref 0 k90)] 4 94 false 0 0 0) .lf)))) (.row [(.nat .i64 3)] 1 3 false 0 0 0) (tn (tn
  (tr (.nd .lf (.row [(.nat .i64 3)] 1 3 false 0 0 0) .lf)) (tl (tl (.nd .lf (.row [(.sl k146 0 0 1 1),(.nat .i64 3),(.nat .i64 0),(.sl k152 0 0 1
  1),(.nat .i64 2),(.nat .i64 0),(.sl k157 0 0 1 1),(.nat .i64 1),(.nat .i64 1),(.sl k5 0 0 2 2),(.nat .i64 3),(.nat .i64 2)] 12 143 true 0 0 0)
  .lf)))) (tr (tn (.nd .lf (.row [(.bool true),(.bool true),(.bool true)] 3 4 true 0 0 0) .lf) (.nd .lf (.row [(.sl k122 0 0 1 1),(.nat .i64 3),(.nat
  .i64 0),(.sl k132 0 0 1 1),(.nat .i64 1),(.nat .i64 1),(.sl k5 0 0 2 2),(.nat .i64 3),(.nat .i64 2)] 9 143 true 0 0 0) .lf))))))), k271⟩
def a0_72 : S := ⟨(tn (tn (tn (.nd .lf (.row [(.nat .i64 1),(.nat .i64 2)] 2 3 false 0 0 0) .lf) (.nd .lf (.row [(.sl k7 0 0 1 1),(.sl k8 0 0 2 2)] 2
  34 false 0 0 0) .lf)) (.nd (.nd .lf (.row [(.nat .i64 1),(.nat .i64 1)] 2 3 false 0 0 0) (tl (tr (.nd .lf (.row [(.nat .i64 1)] 1 3 false 0 0 0)
  .lf)))) (.row [(.nat .i64 3)] 1 3 false 0 0 0) (tl (tl (tr (.nd .lf (.row [(.sl k99 0 0 1 1),(.nat .i64 2),(.nat .i64 0),(.sl k103 0 0 1 1),(.nat
  .i64 3),(.nat .i64 0),(.sl k106 0 0 1 1),(.nat .i64 1),(.nat .i64 1),(.sl k5 0 0 2 2),(.nat .i64 3),(.nat .i64 2)] 12 143 true 0 0 0) .lf)))))) (tn
  (.nd (.nd (tl (tl (tl (.nd .lf (.row [(.sl k122 0 0 1 1),(.nat .i64 1),(.nat .i64 1),(.sl k134 0 0 1 1),(.nat .i64 3),(.nat .i64 0),(.sl k5 0 0 2
  2),(.nat .i64 3),(.nat .i64 2)] 9 143 true 0 0 0) .lf)))) (.row [(.nat .i64 1)] 1 3 false 0 0 0) .lf) (.row [(.nat .i64 1),(.nat .i64 2)] 2 3 false
  0 0 0) (.nd .lf (.row [(.sl k9 0 0 1 1),(.sl k10 0 0 2 2)] 2 34 false 0 0 0) (tr (tl (.nd .lf (.row [(.so k102 12 0 4 0),(.so k129 9 0 3 0),(.so
  k151 12 0 4 0)] 3 141 true 3 0 0) .lf))))) (.nd (.nd (tl (tr (.nd .lf (.row [(.nat .i64 2)] 1 3 false 0 0 0) .lf))) (.row [(.sl k5 0 0 2 2),(.sl k6
  0 0 1 1)] 2 34 false 0 0 0) (tr (tl (.nd .lf (.row [(.so k93 3 0 3 0),(.so k95 3 0 3 0),(.so k97 3 0 3 0),(.ref 0 k90)] 4 94 false 0 0 0) .lf))))
  (.row [(.nat .i64 3)] 1 3 false 0 0 0) (tn (tn (tr (.nd .lf (.row [(.nat .i64 3)] 1 3 false 0 0 0) .lf)) (tl (tl (.nd .lf (.row [(.sl k146 0 0 1
  1),(.nat .i64 3),(.nat .i64 0),(.sl k152 0 0 1 1),(.nat .i64 1),(.nat .i64 1),(.sl k159 0 0 1 1),(.nat .i64 2),(.nat .i64 0),(.sl k5 0 0 2 2),(.nat
  .i64 3),(.nat .i64 2)] 12 143 true 0 0 0) .lf)))) (tr (tl (.nd .lf (.row [(.bool true),(.bool true),(.bool true)] 3 4 true 0 0 0) .lf))))))), k272⟩
def a0_73 : S := ⟨(tn (tn (tn (.nd .lf (.row [(.nat .i64 1),(.nat .i64 2)] 2 3 false 0 0 0) .lf) (.nd .lf (.row [(.sl k7 0 0 1 1),(.sl k8 0 0 2 2)] 2
  34 false 0 0 0) .lf)) (.nd (.nd .lf (.row [(.nat .i64 1),(.nat .i64 1)] 2 3 false 0 0 0) (tl (tr (.nd .lf (.row [(.nat .i64 1)] 1 3 false 0 0 0)
  .lf)))) (.row [(.nat .i64 3)] 1 3 false 0 0 0) (tl (tl (tr (.nd .lf (.row [(.sl k99 0 0 1 1),(.nat .i64 2),(.nat .i64 0),(.sl k103 0 0 1 1),(.nat
  .i64 3),(.nat .i64 0),(.sl k106 0 0 1 1),(.nat .i64 1),(.nat .i64 1),(.sl k5 0 0 2 2),(.nat .i64 3),(.nat .i64 2)] 12 143 true 0 0 0) .lf)))))) (tn
  (.nd (.nd (tl (tl (tl (.nd .lf (.row [(.sl k122 0 0 1 1),(.nat .i64 1),(.nat .i64 1),(.sl k134 0 0 1 1),(.nat .i64 3),(.nat .i64 0),(.sl k5 0 0 2
  2),(.nat .i64 3),(.nat .i64 2)] 9 143 true 0 0 0) .lf)))) (.row [(.nat .i64 1)] 1 3 false 0 0 0) .lf) (.row [(.nat .i64 1),(.nat .i64 2)] 2 3 false
  0 0 0) (.nd .lf (.row [(.sl k9 0 0 1 1),(.sl k10 0 0 2 2)] 2 34 false 0 0 0) (tr (tl (.nd .lf (.row [(.so k102 12 0 4 0),(.so k129 9 0 3 0),(.so
  k151 12 0 4 0)] 3 141 true 3 0 0) .lf))))) (.nd (.nd (tl (tr (.nd .lf (.row [(.nat .i64 2)] 1 3 false 0 0 0) .lf))) (.row [(.sl k5 0 0 2 2),(.sl k6
  0 0 1 1)] 2 34 false 0 0 0) (tr (tl (.nd .lf (.row [(.so k93 3 0 3 0),(.so k95 3 0 3 0),(.so k97 3 0 3 0),(.ref 0 k90)] 4 94 false 0 0 0) .lf))))
  (.row [(.nat .i64 3)] 1 3 false 0 0 0) (tn (tn (tr (.nd .lf (.row [(.nat .i64 3)] 1 3 false 0 0 0) .lf)) (tl (tl (.nd .lf (.row [(.sl k146 0 0 1
  1),(.nat .i64 2),(.nat .i64 0),(.sl k152 0 0 1 1),(.nat .i64 3),(.nat .i64 0),(.sl k157 0 0 1 1),(.nat .i64 1),(.nat .i64 1),(.sl k5 0 0 2 2),(.nat
  .i64 3),(.nat .i64 2)] 12 143 true 0 0 0) .lf)))) (tr (tl (.nd .lf (.row [(.bool true),(.bool true),(.bool true)] 3 4 true 0 0 0) .lf))))))), k273⟩
def a0_74 : S := ⟨(tn (tn (tn (.nd .lf (.row [(.nat .i64 1),(.nat .i64 2)] 2 3 false 0 0 0) .lf) (.nd .lf (.row [(.sl k7 0 0 1 1),(.sl k8 0 0 2 2)] 2
  34 false 0 0 0) .lf)) (.nd (.nd .lf (.row [(.nat .i64 1),(.nat .i64 1)] 2 3 false 0 0 0) (tl (tr (.nd .lf (.row [(.nat .i64 1)] 1 3 false 0 0 0)
  .lf)))) (.row [(.nat .i64 3)] 1 3 false 0 0 0) (tl (tl (tr (.nd .lf (.row [(.sl k99 0 0 1 1),(.nat .i64 2),(.nat .i64 0),(.sl k103 0 0 1 1),(.nat
  .i64 3),(.nat .i64 0),(.sl k106 0 0 1 1),(.nat .i64 1),(.nat .i64 1),(.sl k5 0 0 2 2),(.nat .i64 3),(.nat .i64 2)] 12 143 true 0 0 0) .lf)))))) (tn
  (.nd (.nd (tl (tl (tl (.nd .lf (.row [(.sl k122 0 0 1 1),(.nat .i64 1),(.nat .i64 1),(.sl k134 0 0 1 1),(.nat .i64 3),(.nat .i64 0),(.sl k5 0 0 2
  2),(.nat .i64 3),(.nat .i64 2)] 9 143 true 0 0 0) .lf)))) (.row [(.nat .i64 1)] 1 3 false 0 0 0) .lf) (.row [(.nat .i64 1),(.nat .i64 2)] 2 3 false
  0 0 0) (.nd .lf (.row [(.sl k9 0 0 1 1),(.sl k10 0 0 2 2)] 2 34 false 0 0 0) (tr (tl (.nd .lf (.row [(.so k102 12 0 4 0),(.so k129 9 0 3 0),(.so
  k151 12 0 4 0)] 3 141 true 3 0 0) .lf))))) (.nd (.nd (tl (tr (.nd .lf (.row [(.nat .i64 2)] 1 3 false 0 0 0) .lf))) (.row [(.sl k5 0 0 2 2),(.sl k6
  0 0 1 1)] 2 34 false 0 0 0) (tr (tl (.nd .lf (.row [(.so k93 3 0 3 0),(.so k95 3 0 3 0),(.so k97 3 0 3 0),(.ref 0 k90)] 4 94 false 0 0 0) .lf))))
  (.row [(.nat .i64 3)] 1 3 false 0 0 0) (tn (tn (tr (.nd .lf (.row [(.nat .i64 3)] 1 3 false 0 0 0) .lf)) (tl (tl (.nd .lf (.row [(.sl k146 0 0 1
  1),(.nat .i64 2),(.nat .i64 0),(.sl k152 0 0 1 1),(.nat .i64 1),(.nat .i64 1),(.sl k159 0 0 1 1),(.nat .i64 3),(.nat .i64 0),(.sl k5 0 0 2 2),(.nat
  .i64 3),(.nat .i64 2)] 12 143 true 0 0 0) .lf)))) (tr (tl (.nd .lf (.row [(.bool true),(.bool true),(.bool true)] 3 4 true 0 0 0) .lf))))))), k274⟩
def a0_75 : S := ⟨(tn (tn (tn (.nd .lf (.row [(.nat .i64 1),(.nat .i64 2)] 2 3 false 0 0 0) .lf) (.nd .lf (.row [(.sl k7 0 0 1 1),(.sl k8 0 0 2 2)] 2
  34 false 0 0 0) .lf)) (.nd (.nd .lf (.row [(.nat .i64 1),(.nat .i64 1)] 2 3 false 0 0 0) (tl (tr (.nd .lf (.row [(.nat .i64 1)] 1 3 false 0 0 0)
  .lf)))) (.row [(.nat .i64 3)] 1 3 false 0 0 0) (tl (tl (tr (.nd .lf (.row [(.sl k99 0 0 1 1),(.nat .i64 2),(.nat .i64 0),(.sl k103 0 0 1 1),(.nat
  .i64 3),(.nat .i64 0),(.sl k106 0 0 1 1),(.nat .i64 1),(.nat .i64 1),(.sl k5 0 0 2 2),(.nat .i64 3),(.nat .i64 2)] 12 143 true 0 0 0) .lf)))))) (tn
  (.nd (.nd (tl (tl (tl (.nd .lf (.row [(.sl k122 0 0 1 1),(.nat .i64 1),(.nat .i64 1),(.sl k134 0 0 1 1),(.nat .i64 3),(.nat .i64 0),(.sl k5 0 0 2
  2),(.nat .i64 3),(.nat .i64 2)] 9 143 true 0 0 0) .lf)))) (.row [(.nat .i64 1)] 1 3 false 0 0 0) (tr (tl (tl (.nd .lf (.row [(.sl k146 0 0 1
  1),(.nat .i64 1),(.nat .i64 1),(.sl k154 0 0 1 1),(.nat .i64 3),(.nat .i64 0),(.sl k159 0 0 1 1),(.nat .i64 2),(.nat .i64 0),(.sl k5 0 0 2 2),(.nat
  .i64 3),(.nat .i64 2)] 12 143 true 0 0 0) .lf))))) (.row [(.nat .i64 1),(.nat .i64 2)] 2 3 false 0 0 0) (.nd .lf (.row [(.sl k9 0 0 1 1),(.sl k10 0
  0 2 2)] 2 34 false 0 0 0) (tr (tl (.nd .lf (.row [(.so k102 12 0 4 0),(.so k129 9 0 3 0),(.so k153 12 0 4 0)] 3 141 true 3 0 0) .lf))))) (.nd (.nd
  (tl (tr (.nd .lf (.row [(.nat .i64 2)] 1 3 false 0 0 0) .lf))) (.row [(.sl k5 0 0 2 2),(.sl k6 0 0 1 1)] 2 34 false 0 0 0) (tr (tl (.nd .lf (.row
  [(.so k93 3 0 3 0),(.so k95 3 0 3 0),(.so k97 3 0 3 0),(.ref 0 k90)] 4 94 false 0 0 0) .lf)))) (.row [(.nat .i64 3)] 1 3 false 0 0 0) (tn (tl (tr
  (.nd .lf (.row [(.nat .i64 3)] 1 3 false 0 0 0) .lf))) (tr (tl (.nd .lf (.row [(.bool true),(.bool true),(.bool true)] 3 4 true 0 0 0) .lf))))))),
  k275⟩
def a0_76 : S := ⟨(tn (tn (tn (.nd .lf (.row [(.nat .i64 1),(.nat .i64 2)] 2 3 false 0 0 0) .lf) (.nd .lf (.row [(.sl k7 0 0 1 1),(.sl k8 0 0 2 2)] 2
  34 false 0 0 0) .lf)) (.nd (.nd .lf (.row [(.nat .i64 1),(.nat .i64 1)] 2 3 false 0 0 0) (tl (tr (.nd .lf (.row [(.nat .i64 1)] 1 3 false 0 0 0)
  .lf)))) (.row [(.nat .i64 3)] 1 3 false 0 0 0) (tl (tl (tr (.nd .lf (.row [(.sl k99 0 0 1 1),(.nat .i64 2),(.nat .i64 0),(.sl k103 0 0 1 1),(.nat
  .i64 3),(.nat .i64 0),(.sl k106 0 0 1 1),(.nat .i64 1),(.nat .i64 1),(.sl k5 0 0 2 2),(.nat .i64 3),(.nat .i64 2)] 12 143 true 0 0 0) .lf)))))) (tn
  (.nd (.nd (tl (tl (tl (.nd .lf (.row [(.sl k122 0 0 1 1),(.nat .i64 1),(.nat .i64 1),(.sl k134 0 0 1 1),(.nat .i64 3),(.nat .i64 0),(.sl k5 0 0 2
  2),(.nat .i64 3),(.nat .i64 2)] 9 143 true 0 0 0) .lf)))) (.row [(.nat .i64 1)] 1 3 false 0 0 0) (tr (tl (tl (.nd .lf (.row [(.sl k146 0 0 1
  1),(.nat .i64 1),(.nat .i64 1),(.sl k154 0 0 1 1),(.nat .i64 2),(.nat .i64 0),(.sl k159 0 0 1 1),(.nat .i64 3),(.nat .i64 0),(.sl k5 0 0 2 2),(.nat
  .i64 3),(.nat .i64 2)] 12 143 true 0 0 0) .lf))))) (.row [(.nat .i64 1),(.nat .i64 2)] 2 3 false 0 0 0) (.nd .lf (.row [(.sl k9 0 0 1 1),(.sl k10 0
  0 2 2)] 2 34 false 0 0 0) (tr (tl (.nd .lf (.row [(.so k102 12 0 4 0),(.so k129 9 0 3 0),(.so k153 12 0 4 0)] 3 141 true 3 0 0) .lf))))) (.nd (.nd
  (tl (tr (.nd .lf (.row [(.nat .i64 2)] 1 3 false 0 0 0) .lf))) (.row [(.sl k5 0 0 2 2),(.sl k6 0 0 1 1)] 2 34 false 0 0 0) (tr (tl (.nd .lf (.row
  [(.so k93 3 0 3 0),(.so k95 3 0 3 0),(.so k97 3 0 3 0),(.ref 0 k90)] 4 94 false 0 0 0) .lf)))) (.row [(.nat .i64 3)] 1 3 false 0 0 0) (tn (tl (tr
  (.nd .lf (.row [(.nat .i64 3)] 1 3 false 0 0 0) .lf))) (tr (tl (.nd .lf (.row [(.bool true),(.bool true),(.bool true)] 3 4 true 0 0 0) .lf))))))),
  k276⟩
def a0_77 : S := ⟨(tn (tn (tn (.nd .lf (.row [(.nat .i64 1),(.nat .i64 2)] 2 3 false 0 0 0) .lf) (.nd .lf (.row [(.sl k7 0 0 1 1),(.sl k8 0 0 2 2)] 2
  34 false 0 0 0) .lf)) (.nd (.nd .lf (.row [(.nat .i64 1),(.nat .i64 1)] 2 3 false 0 0 0) (tl (tr (.nd .lf (.row [(.nat .i64 1)] 1 3 false 0 0 0)
  .lf)))) (.row [(.nat .i64 3)] 1 3 false 0 0 0) (tl (tl (tr (.nd .lf (.row [(.sl k99 0 0 1 1),(.nat .i64 2),(.nat .i64 0),(.sl k103 0 0 1 1),(.nat
  .i64 3),(.nat .i64 0),(.sl k106 0 0 1 1),(.nat .i64 1),(.nat .i64 1),(.sl k5 0 0 2 2),(.nat .i64 3),(.nat .i64 2)] 12 143 true 0 0 0) .lf)))))) (tn
  (.nd (.nd (tl (tl (tl (.nd .lf (.row [(.sl k122 0 0 1 1),(.nat .i64 1),(.nat .i64 1),(.sl k134 0 0 1 1),(.nat .i64 3),(.nat .i64 0),(.sl k5 0 0 2
  2),(.nat .i64 3),(.nat .i64 2)] 9 143 true 0 0 0) .lf)))) (.row [(.nat .i64 1)] 1 3 false 0 0 0) .lf) (.row [(.nat .i64 1),(.nat .i64 2)] 2 3 false
  0 0 0) (.nd .lf (.row [(.sl k9 0 0 1 1),(.sl k10 0 0 2 2)] 2 34 false 0 0 0) (tr (tl (.nd .lf (.row [(.so k102 12 0 4 0),(.so k129 9 0 3 0),(.so
  k151 12 0 4 0)] 3 141 true 3 0 0) .lf))))) (.nd (.nd (tl (tr (.nd .lf (.row [(.nat .i64 2)] 1 3 false 0 0 0) .lf))) (.row [(.sl k5 0 0 2 2),(.sl k6
  0 0 1 1)] 2 34 false 0 0 0) (tr (tl (.nd .lf (.row [(.so k93 3 0 3 0),(.so k95 3 0 3 0),(.so k97 3 0 3 0),(.ref 0 k90)] 4 94 false 0 0 0) .lf))))
  (.row [(.nat .i64 3)] 1 3 false 0 0 0) (tn (tn (tr (.nd .lf (.row [(.nat .i64 3)] 1 3 false 0 0 0) .lf)) (tl (tl (.nd .lf (.row [(.sl k146 0 0 1
  1),(.nat .i64 3),(.nat .i64 0),(.sl k152 0 0 1 1),(.nat .i64 2),(.nat .i64 0),(.sl k157 0 0 1 1),(.nat .i64 1),(.nat .i64 1),(.sl k5 0 0 2 2),(.nat
  .i64 3),(.nat .i64 2)] 12 143 true 0 0 0) .lf)))) (tr (tl (.nd .lf (.row [(.bool true),(.bool true),(.bool true)] 3 4 true 0 0 0) .lf))))))), k277⟩
def a0_78 : S := ⟨(tn (tn (tn (.nd .lf (.row [(.nat .i64 1),(.nat .i64 2)] 2 3 false 0 0 0) .lf) (.nd .lf (.row [(.sl k7 0 0 1 1),(.sl k8 0 0 2 2)] 2
  34 false 0 0 0) .lf)) (.nd (.nd .lf (.row [(.nat .i64 1),(.nat .i64 1)] 2 3 false 0 0 0) (tl (tr (.nd .lf (.row [(.nat .i64 1)] 1 3 false 0 0 0)
  .lf)))) (.row [(.nat .i64 3)] 1 3 false 0 0 0) (tl (tl (tr (.nd .lf (.row [(.sl k99 0 0 1 1),(.nat .i64 2),(.nat .i64 0),(.sl k103 0 0 1 1),(.nat
  .i64 3),(.nat .i64 0),(.sl k106 0 0 1 1),(.nat .i64 1),(.nat .i64 1),(.sl k5 0 0 2 2),(.nat .i64 3),(.nat .i64 2)] 12 143 true 0 0 0) .lf)))))) (tn
  (.nd (.nd (tl (tl (tl (.nd .lf (.row [(.sl k122 0 0 1 1),(.nat .i64 1),(.nat .i64 1),(.sl k130 0 0 1 1),(.nat .i64 3),(.nat .i64 0),(.sl k5 0 0 2
  2),(.nat .i64 3),(.nat .i64 2)] 9 143 true 0 0 0) .lf)))) (.row [(.nat .i64 1)] 1 3 false 0 0 0) .lf) (.row [(.nat .i64 1),(.nat .i64 2)] 2 3 false
  0 0 0) (.nd .lf (.row [(.sl k9 0 0 1 1),(.sl k10 0 0 2 2)] 2 34 false 0 0 0) (tr (tl (.nd .lf (.row [(.so k102 12 0 4 0),(.so k129 9 0 3 0),(.so
  k151 12 0 4 0)] 3 141 true 3 0 0) .lf))))) (.nd (.nd (tl (tr (.nd .lf (.row [(.nat .i64 2)] 1 3 false 0 0 0) .lf))) (.row [(.sl k5 0 0 2 2),(.sl k6
  0 0 1 1)] 2 34 false 0 0 0) (tr (tl (.nd .lf (.row [(.so k93 3 0 3 0),(.so k95 3 0 3 0),(.so k97 3 0 3 0),(.ref 0 k90)] 4 94 false 0 0 0) .lf))))
  (.row [(.nat .i64 3)] 1 3 false 0 0 0) (tn (tn (tr (.nd .lf (.row [(.nat .i64 3)] 1 3 false 0 0 0) .lf)) (tl (tl (.nd .lf (.row [(.sl k146 0 0 1
  1),(.nat .i64 3),(.nat .i64 0),(.sl k152 0 0 1 1),(.nat .i64 1),(.nat .i64 1),(.sl k159 0 0 1 1),(.nat .i64 2),(.nat .i64 0),(.sl k5 0 0 2 2),(.nat
  .i64 3),(.nat .i64 2)] 12 143 true 0 0 0) .lf)))) (tr (tl (.nd .lf (.row [(.bool true),(.bool true),(.bool true)] 3 4 true 0 0 0) .lf))))))), k278⟩
def a0_79 : S := ⟨(tn (tn (tn (.nd .lf (.row [(.nat .i64 1),(.nat .i64 2)] 2 3 false 0 0 0) .lf) (.nd .lf (.row [(.sl k7 0 0 1 1),(.sl k8 0 0 2 2)] 2
  34 false 0 0 0) .lf)) (.nd (.nd .lf (.row [(.nat .i64 1),(.nat .i64 1)] 2 3 false 0 0 0) (tl (tr (.nd .lf (.row [(.nat .i64 1)] 1 3 false 0 0 0)
  .lf)))) (.row [(.nat .i64 3)] 1 3 false 0 0 0) (tl (tl (tr (.nd .lf (.row [(.sl k99 0 0 1 1),(.nat .i64 2),(.nat .i64 0),(.sl k103 0 0 1 1),(.nat
  .i64 3),(.nat .i64 0),(.sl k106 0 0 1 1),(.nat .i64 1),(.nat .i64 1),(.sl k5 0 0 2 2),(.nat .i64 3),(.nat .i64 2)] 12 143 true 0 0 0) .lf)))))) (tn
  (.nd (.nd (tl (tl (tl (.nd .lf (.row [(.sl k122 0 0 1 1),(.nat .i64 1),(.nat .i64 1),(.sl k130 0 0 1 1),(.nat .i64 3),(.nat .i64 0),(.sl k5 0 0 2
  2),(.nat .i64 3),(.nat .i64 2)] 9 143 true 0 0 0) .lf)))) (.row [(.nat .i64 1)] 1 3 false 0 0 0) .lf) (.row [(.nat .i64 1),(.nat .i64 2)] 2 3 false
  0 0 0) (.nd .lf (.row [(.sl k9 0 0 1 1),(.sl k10 0 0 2 2)] 2 34 false 0 0 0) (tr (tl (.nd .lf (.row [(.so k102 12 0 4 0),(.so k129 9 0 3 0),(.so
  k151 12 0 4 0)] 3 141 true 3 0 0) .lf))))) (.nd (.nd (tl (tr (.nd .lf (.row [(.nat .i64 2)] 1 3 false 0 0 0) .lf))) (.row [(.sl k5 0 0 2 2),(.sl k6
  0 0 1 1)] 2 34 false 0 0 0) (tr (tl (.nd .lf (.row [(.so k93 3 0 3 0),(.so k95 3 0 3 0),(.so k97 3 0 3 0),(.ref 0 k90)] 4 94 false 0 0 0) .lf))))
  (.row [(.nat .i64 3)] 1 3 false 0 0 0) (tn (tn (tr (.nd .lf (.row [(.nat .i64 3)] 1 3 false 0 0 0) .lf)) (tl (tl (.nd .lf (.row [(.sl k146 0 0 1
  1),(.nat .i64 2),(.nat .i64 0),(.sl k152 0 0 1 1),(.nat .i64 3),(.nat .i64 0),(.sl k157 0 0 1 1),(.nat .i64 1),(.nat .i64 1),(.sl k5 0 0 2 2),(.nat
  .i64 3),(.nat .i64 2)] 12 143 true 0 0 0) .lf)))) (tr (tl (.nd .lf (.row [(.bool true),(.bool true),(.bool true)] 3 4 true 0 0 0) .lf))))))), k279⟩
def a0_80 : S := ⟨(tn (tn (tn (.nd .lf (.row [(.nat .i64 1),(.nat .i64 2)] 2 3 false 0 0 0) .lf) (.nd .lf (.row [(.sl k7 0 0 1 1),(.sl k8 0 0 2 2)] 2
  34 false 0 0 0) .lf)) (.nd (.nd .lf (.row [(.nat .i64 1),(.nat .i64 1)] 2 3 false 0 0 0) (tl (tr (.nd .lf (.row [(.nat .i64 1)] 1 3 false 0 0 0)
  .lf)))) (.row [(.nat .i64 3)] 1 3 false 0 0 0) (tl (tl (tr (.nd .lf (.row [(.sl k99 0 0 1 1),(.nat .i64 2),(.nat .i64 0),(.sl k103 0 0 1 1),(.nat
  .i64 3),(.nat .i64 0),(.sl k106 0 0 1 1),(.nat .i64 1),(.nat .i64 1),(.sl k5 0 0 2 2),(.nat .i64 3),(.nat .i64 2)] 12 143 true 0 0 0) .lf)))))) (tn
  (.nd (.nd (tl (tl (tl (.nd .lf (.row [(.sl k122 0 0 1 1),(.nat .i64 1),(.nat .i64 1),(.sl k130 0 0 1 1),(.nat .i64 3),(.nat .i64 0),(.sl k5 0 0 2
  2),(.nat .i64 3),(.nat .i64 2)] 9 143 true 0 0 0) .lf)))) (.row [(.nat .i64 1)] 1 3 false 0 0 0) .lf) (.row [(.nat .i64 1),(.nat .i64 2)] 2 3 false
  0 0 0) (.nd .lf (.row [(.sl k9 0 0 1 1),(.sl k10 0 0 2 2)] 2 34 false 0 0 0) (tr (tl (.nd .lf (.row [(.so k102 12 0 4 0),(.so k129 9 0 3 0),(.so
  k151 12 0 4 0)] 3 141 true 3 0 0) .lf))))) (.nd (.nd (tl (tr (.nd .lf (.row [(.nat .i64 2)] 1 3 false 0 0 0) .lf))) (.row [(.sl k5 0 0 2 2),(.sl k6
  0 0 1 1)] 2 34 false 0 0 0) (tr (tl (.nd .lf (.row [(.so k93 3 0 3 0),(.so k95 3 0 3 0),(.so k97 3 0 3 0),(.ref 0 k90)] 4 94 false 0 0 0) .lf))))
  (.row [(.nat .i64 3)] 1 3 false 0 0 0) (tn (tn (tr (.nd .lf (.row [(.nat .i64 3)] 1 3 false 0 0 0) .lf)) (tl (tl (.nd .lf (.row [(.sl k146 0 0 1
  1),(.nat .i64 2),(.nat .i64 0),(.sl k152 0 0 1 1),(.nat .i64 1),(.nat .i64 1),(.sl k159 0 0 1 1),(.nat .i64 3),(.nat .i64 0),(.sl k5 0 0 2 2),(.nat
  .i64 3),(.nat .i64 2)] 12 143 true 0 0 0) .lf)))) (tr (tl (.nd .lf (.row [(.bool true),(.bool true),(.bool true)] 3 4 true 0 0 0) .lf))))))), k280⟩
def a0_81 : S := ⟨(tn (tn (tn (.nd .lf (.row [(.nat .i64 1),(.nat .i64 2)] 2 3 false 0 0 0) .lf) (.nd .lf (.row [(.sl k7 0 0 1 1),(.sl k8 0 0 2 2)] 2
  34 false 0 0 0) .lf)) (.nd (.nd .lf (.row [(.nat .i64 1),(.nat .i64 1)] 2 3 false 0 0 0) (tl (tr (.nd .lf (.row [(.nat .i64 1)] 1 3 false 0 0 0)
  .lf)))) (.row [(.nat .i64 3)] 1 3 false 0 0 0) (tl (tl (tr (.nd .lf (.row [(.sl k99 0 0 1 1),(.nat .i64 2),(.nat .i64 0),(.sl k103 0 0 1 1),(.nat
  .i64 3),(.nat .i64 0),(.sl k106 0 0 1 1),(.nat .i64 1),(.nat .i64 1),(.sl k5 0 0 2 2),(.nat .i64 3),(.nat .i64 2)] 12 143 true 0 0 0) .lf)))))) (tn
  (.nd (.nd (tl (tl (tl (.nd .lf (.row [(.sl k122 0 0 1 1),(.nat .i64 1),(.nat .i64 1),(.sl k130 0 0 1 1),(.nat .i64 3),(.nat .i64 0),(.sl k5 0 0 2
  2),(.nat .i64 3),(.nat .i64 2)] 9 143 true 0 0 0) .lf)))) (.row [(.nat .i64 1)] 1 3 false 0 0 0) (tr (tl (tl (.nd .lf (.row [(.sl k146 0 0 1
  1),(.nat .i64 1),(.nat .i64 1),(.sl k154 0 0 1 1),(.nat .i64 3),(.nat .i64 0),(.sl k159 0 0 1 1),(.nat .i64 2),(.nat .i64 0),(.sl k5 0 0 2 2),(.nat
  .i64 3),(.nat .i64 2)] 12 143 true 0 0 0) .lf))))) (.row [(.nat .i64 1),(.nat .i64 2)] 2 3 false 0 0 0) (.nd .lf (.row [(.sl k9 0 0 1 1),(.sl k10 0
  0 2 2)] 2 34 false 0 0 0) (tr (tl (.nd .lf (.row [(.so k102 12 0 4 0),(.so k129 9 0 3 0),(.so k153 12 0 4 0)] 3 141 true 3 0 0) .lf))))) (.nd (.nd
  (tl (tr (.nd .lf (.row [(.nat .i64 2)] 1 3 false 0 0 0) .lf))) (.row [(.sl k5 0 0 2 2),(.sl k6 0 0 1 1)] 2 34 false 0 0 0) (tr (tl (.nd .lf (.row
  [(.so k93 3 0 3 0),(.so k95 3 0 3 0),(.so k97 3 0 3 0),(.ref 0 k90)] 4 94 false 0 0 0) .lf)))) (.row [(.nat .i64 3)] 1 3 false 0 0 0) (tn (tl (tr
  (.nd .lf (.row [(.nat .i64 3)] 1 3 false 0 0 0) .lf))) (tr (tl (.nd .lf (.row [(.bool true),(.bool true),(.bool true)] 3 4 true 0 0 0) .lf))))))),
  k281⟩
def a0_82 : S := ⟨(tn (tn (tn (.nd .lf (.row [(.nat .i64 1),(.nat .i64 2)] 2 3 false 0 0 0) .lf) (.nd .lf (.row [(.sl k7 0 0 1 1),(.sl k8 0 0 2 2)] 2
  34 false 0 0 0) .lf)) (.nd (.nd .lf (.row [(.nat .i64 1),(.nat .i64 1)] 2 3 false 0 0 0) (tl (tr (.nd .lf (.row [(.nat .i64 1)] 1 3 false 0 0 0)
  .lf)))) (.row [(.nat .i64 3)] 1 3 false 0 0 0) (tl (tl (tr (.nd .lf (.row [(.sl k99 0 0 1 1),(.nat .i64 2),(.nat .i64 0),(.sl k103 0 0 1 1),(.nat
  .i64 3),(.nat .i64 0),(.sl k106 0 0 1 1),(.nat .i64 1),(.nat .i64 1),(.sl k5 0 0 2 2),(.nat .i64 3),(.nat .i64 2)] 12 143 true 0 0 0) .lf)))))) (tn
  (.nd (.nd (tl (tl (tl (.nd .lf (.row [(.sl k122 0 0 1 1),(.nat .i64 1),(.nat .i64 1),(.sl k130 0 0 1 1),(.nat .i64 3),(.nat .i64 0),(.sl k5 0 0 2
  2),(.nat .i64 3),(.nat .i64 2)] 9 143 true 0 0 0) .lf)))) (.row [(.nat .i64 1)] 1 3 false 0 0 0) (tr (tl (tl (.nd .lf (.row [(.sl k146 0 0 1
  1),(.nat .i64 1),(.nat .i64 1),(.sl k154 0 0 1 1),(.nat .i64 2),(.nat .i64 0),(.sl k159 0 0 1 1),(.nat .i64 3),(.nat .i64 0),(.sl k5 0 0 2 2),(.nat
  .i64 3),(.nat .i64 2)] 12 143 true 0 0 0) .lf))))) (.row [(.nat .i64 1),(.nat .i64 2)] 2 3 false 0 0 0) (.nd .lf (.row [(.sl k9 0 0 1 1),(.sl k10 0
  0 2 2)] 2 34 false 0 0 0) (tr (tl (.nd .lf (.row [(.so k102 12 0 4 0),(.so k129 9 0 3 0),(.so k153 12 0 4 0)] 3 141 true 3 0 0) .lf))))) (.nd (.nd
  (tl (tr (.nd .lf (.row [(.nat .i64 2)] 1 3 false 0 0 0) .lf))) (.row [(.sl k5 0 0 2 2),(.sl k6 0 0 1 1)] 2 34 false 0 0 0) (tr (tl (.nd .lf (.row
  [(.so k93 3 0 3 0),(.so k95 3 0 3 0),(.so k97 3 0 3 0),(.ref 0 k90)] 4 94 false 0 0 0) .lf)))) (.row [(.nat .i64 3)] 1 3 false 0 0 0) (tn (tl (tr
  (.nd .lf (.row [(.nat .i64 3)] 1 3 false 0 0 0) .lf))) (tr (tl (.nd .lf (.row [(.bool true),(.bool true),(.bool true)] 3 4 true 0 0 0) .lf))))))),
  k282⟩
def a0_83 : S := ⟨(tn (tn (tn (.nd .lf (.row [(.nat .i64 1),(.nat .i64 2)] 2 3 false 0 0 0) .lf) (.nd .lf (.row [(.sl k7 0 0 1 1),(.sl k8 0 0 2 2)] 2
  34 false 0 0 0) .lf)) (.nd (.nd .lf (.row [(.nat .i64 1),(.nat .i64 1)] 2 3 false 0 0 0) (tl (tr (.nd .lf (.row [(.nat .i64 1)] 1 3 false 0 0 0)
  .lf)))) (.row [(.nat .i64 3)] 1 3 false 0 0 0) (tl (tl (tr (.nd .lf (.row [(.sl k99 0 0 1 1),(.nat .i64 2),(.nat .i64 0),(.sl k103 0 0 1 1),(.nat
  .i64 3),(.nat .i64 0),(.sl k106 0 0 1 1),(.nat .i64 1),(.nat .i64 1),(.sl k5 0 0 2 2),(.nat .i64 3),(.nat .i64 2)] 12 143 true 0 0 0) .lf)))))) (tn
  (.nd (.nd (tl (tl (tl (.nd .lf (.row [(.sl k122 0 0 1 1),(.nat .i64 1),(.nat .i64 1),(.sl k130 0 0 1 1),(.nat .i64 3),(.nat .i64 0),(.sl k5 0 0 2
  2),(.nat .i64 3),(.nat .i64 2)] 9 143 true 0 0 0) .lf)))) (.row [(.nat .i64 1)] 1 3 false 0 0 0) .lf) (.row [(.nat .i64 1),(.nat .i64 2)] 2 3 false
  0 0 0) (.nd .lf (.row [(.sl k9 0 0 1 1),(.sl k10 0 0 2 2)] 2 34 false 0 0 0) (tr (tl (.nd .lf (.row [(.so k102 12 0 4 0),(.so k129 9 0 3 0),(.so
  k151 12 0 4 0)] 3 141 true 3 0 0) .lf))))) (.nd (.nd (tl (tr (.nd .lf (.row [(.nat .i64 2)] 1 3 false 0 0 0) .lf))) (.row [(.sl k5 0 0 2 2),(.sl k6
  0 0 1 1)] 2 34 false 0 0 0) (tr (tl (.nd .lf (.row [(.so k93 3 0 3 0),(.so k95 3 0 3 0),(.so k97 3 0 3 0),(.ref 0 k90)] 4 94 false 0 0 0) .lf))))
  (.row [(.nat .i64 3)] 1 3 false 0 0 0) (tn (tn (tr (.nd .lf (.row [(.nat .i64 3)] 1 3 false 0 0 0) .lf)) (tl (tl (.nd .lf (.row [(.sl k146 0 0 1
  1),(.nat .i64 3),(.nat .i64 0),(.sl k152 0 0 1 1),(.nat .i64 2),(.nat .i64 0),(.sl k157 0 0 1 1),(.nat .i64 1),(.nat .i64 1),(.sl k5 0 0 2 2),(.nat
  .i64 3),(.nat .i64 2)] 12 143 true 0 0 0) .lf)))) (tr (tl (.nd .lf (.row [(.bool true),(.bool true),(.bool true)] 3 4 true 0 0 0) .lf))))))), k283⟩
def a0_84 : S := ⟨(tn (tn (tn (.nd .lf (.row [(.nat .i64 1),(.nat .i64 2)] 2 3 false 0 0 0) .lf) (.nd .lf (.row [(.sl k7 0 0 1 1),(.sl k8 0 0 2 2)] 2
  34 false 0 0 0) .lf)) (.nd (.nd .lf (.row [(.nat .i64 1),(.nat .i64 1)] 2 3 false 0 0 0) (tl (tr (.nd .lf (.row [(.nat .i64 1)] 1 3 false 0 0 0)
  .lf)))) (.row [(.nat .i64 3)] 1 3 false 0 0 0) (tl (tl (tr (.nd .lf (.row [(.sl k99 0 0 1 1),(.nat .i64 2),(.nat .i64 0),(.sl k103 0 0 1 1),(.nat
  .i64 3),(.nat .i64 0),(.sl k106 0 0 1 1),(.nat .i64 1),(.nat .i64 1),(.sl k5 0 0 2 2),(.nat .i64 3),(.nat .i64 2)] 12 143 true 0 0 0) .lf)))))) (tn
  (.nd (.nd .lf (.row [(.nat .i64 1)] 1 3 false 0 0 0) .lf) (.row [(.nat .i64 1),(.nat .i64 2)] 2 3 false 0 0 0) (.nd (tl (tl (tl (.nd .lf (.row [(.sl
  k126 0 0 1 1),(.nat .i64 1),(.nat .i64 1),(.sl k134 0 0 1 1),(.nat .i64 3),(.nat .i64 0),(.sl k5 0 0 2 2),(.nat .i64 3),(.nat .i64 2)] 9 143 true 0
  0 0) .lf)))) (.row [(.sl k9 0 0 1 1),(.sl k10 0 0 2 2)] 2 34 false 0 0 0) (tr (tl (.nd .lf (.row [(.so k102 12 0 4 0),(.so k133 9 0 3 0),(.so k151
  12 0 4 0)] 3 141 true 3 0 0) .lf))))) (.nd (.nd (tl (tr (.nd .lf (.row [(.nat .i64 2)] 1 3 false 0 0 0) .lf))) (.row [(.sl k5 0 0 2 2),(.sl k6 0 0 1
  1)] 2 34 false 0 0 0) (tr (tl (.nd .lf (.row [(.so k93 3 0 3 0),(.so k95 3 0 3 0),(.so k97 3 0 3 0),(.ref 0 k90)] 4 94 false 0 0 0) .lf)))) (.row
  [(.nat .i64 3)] 1 3 false 0 0 0) (tn (tn (tr (.nd .lf (.row [(.nat .i64 3)] 1 3 false 0 0 0) .lf)) (tl (tl (.nd .lf (.row [(.sl k146 0 0 1 1),(.nat
  .i64 3),(.nat .i64 0),(.sl k152 0 0 1 1),(.nat .i64 1),(.nat .i64 1),(.sl k159 0 0 1 1),(.nat .i64 2),(.nat .i64 0),(.sl k5 0 0 2 2),(.nat .i64
  3),(.nat .i64 2)] 12 143 true 0 0 0) .lf)))) (tr (tl (.nd .lf (.row [(.bool true),(.bool true),(.bool true)] 3 4 true 0 0 0) .lf))))))), k284⟩
def a0_85 : S := ⟨(tn (tn (tn (.nd .lf (.row [(.nat .i64 1),(.nat .i64 2)] 2 3 false 0 0 0) .lf) (.nd .lf (.row [(.sl k7 0 0 1 1),(.sl k8 0 0 2 2)] 2
  34 false 0 0 0) .lf)) (.nd (.nd .lf (.row [(.nat .i64 1),(.nat .i64 1)] 2 3 false 0 0 0) (tl (tr (.nd .lf (.row [(.nat .i64 1)] 1 3 false 0 0 0)
  .lf)))) (.row [(.nat .i64 3)] 1 3 false 0 0 0) (tl (tl (tr (.nd .lf (.row [(.sl k99 0 0 1 1),(.nat .i64 2),(.nat .i64 0),(.sl k103 0 0 1 1),(.nat
  .i64 3),(.nat .i64 0),(.sl k106 0 0 1 1),(.nat .i64 1),(.nat .i64 1),(.sl k5 0 0 2 2),(.nat .i64 3),(.nat .i64 2)] 12 143 true 0 0 0) .lf)))))) (tn
  (.nd (.nd .lf (.row [(.nat .i64 1)] 1 3 false 0 0 0) .lf) (.row [(.nat .i64 1),(.nat .i64 2)] 2 3 false 0 0 0) (.nd (tl (tl (tl (.nd .lf (.row [(.sl
  k126 0 0 1 1),(.nat .i64 1),(.nat .i64 1),(.sl k134 0 0 1 1),(.nat .i64 3),(.nat .i64 0),(.sl k5 0 0 2 2),(.nat .i64 3),(.nat .i64 2)] 9 143 true 0
  0 0) .lf)))) (.row [(.sl k9 0 0 1 1),(.sl k10 0 0 2 2)] 2 34 false 0 0 0) (tr (tl (.nd .lf (.row [(.so k102 12 0 4 0),(.so k133 9 0 3 0),(.so k151
  12 0 4 0)] 3 141 true 3 0 0) .lf))))) (.nd (.nd (tl (tr (.nd .lf (.row [(.nat .i64 2)] 1 3 false 0 0 0) .lf))) (.row [(.sl k5 0 0 2 2),(.sl k6 0 0 1
  1)] 2 34 false 0 0 0) (tr (tl (.nd .lf (.row [(.so k93 3 0 3 0),(.so k95 3 0 3 0),(.so k97 3 0 3 0),(.ref 0 k90)] 4 94 false 0 0 0) .lf)))) (.row
  [(.nat .i64 3)] 1 3 false 0 0 0) (tn (tn (tr (.nd .lf (.row [(.nat .i64 3)] 1 3 false 0 0 0) .lf)) (tl (tl (.nd .lf (.row [(.sl k146 0 0 1 1),(.nat
  .i64 2),(.nat .i64 0),(.sl k152 0 0 1 1),(.nat .i64 3),(.nat .i64 0),(.sl k157 0 0 1 1),(.nat .i64 1),(.nat .i64 1),(.sl k5 0 0 2 2),(.nat .i64
  3),(.nat .i64 2)] 12 143 true 0 0 0) .lf)))) (tr (tl (.nd .lf (.row [(.bool true),(.bool true),(.bool true)] 3 4 true 0 0 0) .lf))))))), k285⟩
def a0_86 : S := ⟨(tn (tn (tn (.nd .lf (.row [(.nat .i64 1),(.nat .i64 2)] 2 3 false 0 0 0) .lf) (.nd .lf (.row [(.sl k7 0 0 1 1),(.sl k8 0 0 2 2)] 2
  34 false 0 0 0) .lf)) (.nd (.nd .lf (.row [(.nat .i64 1),(.nat .i64 1)] 2 3 false 0 0 0) (tl (tr (.nd .lf (.row [(.nat .i64 1)] 1 3 false 0 0 0)
  .lf)))) (.row [(.nat .i64 3)] 1 3 false 0 0 0) (tl (tl (tr (.nd .lf (.row [(.sl k99 0 0 1 1),(.nat .i64 2),(.nat .i64 0),(.sl k103 0 0 1 1),(.nat
  .i64 3),(.nat .i64 0),(.sl k106 0 0 1 1),(.nat .i64 1),(.nat .i64 1),(.sl k5 0 0 2 2),(.nat .i64 3),(.nat .i64 2)] 12 143 true 0 0 0) .lf)))))) (tn
  (.nd (.nd .lf (.row [(.nat .i64 1)] 1 3 false 0 0 0) .lf) (.row [(.nat .i64 1),(.nat .i64 2)] 2 3 false 0 0 0) (.nd (tl (tl (tl (.nd .lf (.row [(.sl
  k126 0 0 1 1),(.nat .i64 1),(.nat .i64 1),(.sl k134 0 0 1 1),(.nat .i64 3),(.nat .i64 0),(.sl k5 0 0 2 2),(.nat .i64 3),(.nat .i64 2)] 9 143 true 0
  0 0) .lf)))) (.row [(.sl k9 0 0 1 1),(.sl k10 0 0 2 2)] 2 34 false 0 0 0) (tr (tl (.nd .lf (.row [(.so k102 12 0 4 0),(.so k133 9 0 3 0),(.so k151
  12 0 4 0)] 3 141 true 3 0 0) .lf))))) (.nd (.nd (tl (tr (.nd .lf (.row [(.nat .i64 2)] 1 3 false 0 0 0) .lf))) (.row [(.sl k5 0 0 2 2),(.sl k6 0 0 1
  1)] 2 34 false 0 0 0) (tr (tl (.nd .lf (.row [(.so k93 3 0 3 0),(.so k95 3 0 3 0),(.so k97 3 0 3 0),(.ref 0 k90)] 4 94 false 0 0 0) .lf)))) (.row
  [(.nat .i64 3)] 1 3 false 0 0 0) (tn (tn (tr (.nd .lf (.row [(.nat .i64 3)] 1 3 false 0 0 0) .lf)) (tl (tl (.nd .lf (.row [(.sl k146 0 0 1 1),(.nat
  .i64 2),(.nat .i64 0),(.sl k152 0 0 1 1),(.nat .i64 1),(.nat .i64 1),(.sl k159 0 0 1 1),(.nat .i64 3),(.nat .i64 0),(.sl k5 0 0 2 2),(.nat .i64
  3),(.nat .i64 2)] 12 143 true 0 0 0) .lf)))) (tr (tl (.nd .lf (.row [(.bool true),(.bool true),(.bool true)] 3 4 true 0 0 0) .lf))))))), k286⟩
def a0_87 : S := ⟨(tn (tn (tn (.nd .lf (.row [(.nat .i64 1),(.nat .i64 2)] 2 3 false 0 0 0) .lf) (.nd .lf (.row [(.sl k7 0 0 1 1),(.sl k8 0 0 2 2)] 2
  34 false 0 0 0) .lf)) (.nd (.nd .lf (.row [(.nat .i64 1),(.nat .i64 1)] 2 3 false 0 0 0) (tl (tr (.nd .lf (.row [(.nat .i64 1)] 1 3 false 0 0 0)
  .lf)))) (.row [(.nat .i64 3)] 1 3 false 0 0 0) (tl (tl (tr (.nd .lf (.row [(.sl k99 0 0 1 1),(.nat .i64 2),(.nat .i64 0),(.sl k103 0 0 1 1),(.nat
  .i64 3),(.nat .i64 0),(.sl k106 0 0 1 1),(.nat .i64 1),(.nat .i64 1),(.sl k5 0 0 2 2),(.nat .i64 3),(.nat .i64 2)] 12 143 true 0 0 0) .lf)))))) (tn
  (.nd (.nd .lf (.row [(.nat .i64 1)] 1 3 false 0 0 0) (tr (tl (tl (.nd .lf (.row [(.sl k146 0 0 1 1),(.nat .i64 1),(.nat .i64 1),(.sl k154 0 0 1
  1),(.nat .i64 3),(.nat .i64 0),(.sl k159 0 0 1 1),(.nat .i64 2),(.nat .i64 0),(.sl k5 0 0 2 2),(.nat .i64 3),(.nat .i64 2)] 12 143 true 0 0 0)
  .lf))))) (.row [(.nat .i64 1),(.nat .i64 2)] 2 3 false 0 0 0) (.nd (tl (tl (tl (.nd .lf (.row [(.sl k126 0 0 1 1),(.nat .i64 1),(.nat .i64 1),(.sl
  k134 0 0 1 1),(.nat .i64 3),(.nat .i64 0),(.sl k5 0 0 2 2),(.nat .i64 3),(.nat .i64 2)] 9 143 true 0 0 0) .lf)))) (.row [(.sl k9 0 0 1 1),(.sl k10 0
  0 2 2)] 2 34 false 0 0 0) (tr (tl (.nd .lf (.row [(.so k102 12 0 4 0),(.so k133 9 0 3 0),(.so k153 12 0 4 0)] 3 141 true 3 0 0) .lf))))) (.nd (.nd
  (tl (tr (.nd .lf (.row [(.nat .i64 2)] 1 3 false 0 0 0) .lf))) (.row [(.sl k5 0 0 2 2),(.sl k6 0 0 1 1)] 2 34 false 0 0 0) (tr (tl (.nd .lf (.row
  [(.so k93 3 0 3 0),(.so k95 3 0 3 0),(.so k97 3 0 3 0),(.ref 0 k90)] 4 94 false 0 0 0) .lf)))) (.row [(.nat .i64 3)] 1 3 false 0 0 0) (tn (tl (tr
  (.nd .lf (.row [(.nat .i64 3)] 1 3 false 0 0 0) .lf))) (tr (tl (.nd .lf (.row [(.bool true),(.bool true),(.bool true)] 3 4 true 0 0 0) .lf))))))),
  k287⟩
def a0_88 : S := ⟨(tn (tn (tn (.nd .lf (.row [(.nat .i64 1),(.nat .i64 2)] 2 3 false 0 0 0) .lf) (.nd .lf (.row [(.sl k7 0 0 1 1),(.sl k8 0 0 2 2)] 2
  34 false 0 0 0) .lf)) (.nd (.nd .lf (.row [(.nat .i64 1),(.nat .i64 1)] 2 3 false 0 0 0) (tl (tr (.nd .lf (.row [(.nat .i64 1)] 1 3 false 0 0 0)
  .lf)))) (.row [(.nat .i64 3)] 1 3 false 0 0 0) (tl (tl (tr (.nd .lf (.row [(.sl k99 0 0 1 1),(.nat .i64 2),(.nat .i64 0),(.sl k103 0 0 1 1),(.nat
  .i64 3),(.nat .i64 0),(.sl k106 0 0 1 1),(.nat .i64 1),(.nat .i64 1),(.sl k5 0 0 2 2),(.nat .i64 3),(.nat .i64 2)] 12 143 true 0 0 0) .lf)))))) (tn
  (.nd (.nd .lf (.row [(.nat .i64 1)] 1 3 false 0 0 0) (tr (tl (tl (.nd .lf (.row [(.sl k146 0 0 1 1),(.nat .i64 1),(.nat .i64 1),(.sl k154 0 0 1
  1),(.nat .i64 2),(.nat .i64 0),(.sl k159 0 0 1 1),(.nat .i64 3),(.nat .i64 0),(.sl k5 0 0 2 2),(.nat .i64 3),(.nat .i64 2)] 12 143 true 0 0 0)
  .lf))))) (.row [(.nat .i64 1),(.nat .i64 2)] 2 3 false 0 0 0) (.nd (tl (tl (tl (.nd .lf (.row [(.sl k126 0 0 1 1),(.nat .i64 1),(.nat .i64 1),(.sl
  k134 0 0 1 1),(.nat .i64 3),(.nat .i64 0),(.sl k5 0 0 2 2),(.nat .i64 3),(.nat .i64 2)] 9 143 true 0 0 0) .lf)))) (.row [(.sl k9 0 0 1 1),(.sl k10 0
  0 2 2)] 2 34 false 0 0 0) (tr (tl (.nd .lf (.row [(.so k102 12 0 4 0),(.so k133 9 0 3 0),(.so k153 12 0 4 0)] 3 141 true 3 0 0) .lf))))) (.nd (.nd
  (tl (tr (.nd .lf (.row [(.nat .i64 2)] 1 3 false 0 0 0) .lf))) (.row [(.sl k5 0 0 2 2),(.sl k6 0 0 1 1)] 2 34 false 0 0 0) (tr (tl (.nd .lf (.row
  [(.so k93 3 0 3 0),(.so k95 3 0 3 0),(.so k97 3 0 3 0),(.ref 0 k90)] 4 94 false 0 0 0) .lf)))) (.row [(.nat .i64 3)] 1 3 false 0 0 0) (tn (tl (tr
  (.nd .lf (.row [(.nat .i64 3)] 1 3 false 0 0 0) .lf))) (tr (tl (.nd .lf (.row [(.bool true),(.bool true),(.bool true)] 3 4 true 0 0 0) .lf))))))),
  k288⟩
def a0_89 : S := ⟨(tn (tn (tn (.nd .lf (.row [(.nat .i64 1),(.nat .i64 2)] 2 3 false 0 0 0) .lf) (.nd .lf (.row [(.sl k7 0 0 1 1),(.sl k8 0 0 2 2)] 2
  34 false 0 0 0) .lf)) (.nd (.nd .lf (.row [(.nat .i64 1),(.nat .i64 1)] 2 3 false 0 0 0) (tl (tr (.nd .lf (.row [(.nat .i64 1)] 1 3 false 0 0 0)
  .lf)))) (.row [(.nat .i64 3)] 1 3 false 0 0 0) (tl (tl (tr (.nd .lf (.row [(.sl k99 0 0 1 1),(.nat .i64 2),(.nat .i64 0),(.sl k103 0 0 1 1),(.nat
  .i64 3),(.nat .i64 0),(.sl k106 0 0 1 1),(.nat .i64 1),(.nat .i64 1),(.sl k5 0 0 2 2),(.nat .i64 3),(.nat .i64 2)] 12 143 true 0 0 0) .lf)))))) (tn
  (.nd (.nd .lf (.row [(.nat .i64 1)] 1 3 false 0 0 0) .lf) (.row [(.nat .i64 1),(.nat .i64 2)] 2 3 false 0 0 0) (.nd (tl (tl (tl (.nd .lf (.row [(.sl
  k126 0 0 1 1),(.nat .i64 1),(.nat .i64 1),(.sl k134 0 0 1 1),(.nat .i64 3),(.nat .i64 0),(.sl k5 0 0 2 2),(.nat .i64 3),(.nat .i64 2)] 9 143 true 0
  0 0) .lf)))) (.row [(.sl k9 0 0 1 1),(.sl k10 0 0 2 2)] 2 34 false 0 0 0) (tr (tl (.nd .lf (.row [(.so k102 12 0 4 0),(.so k133 9 0 3 0),(.so k151
  12 0 4 0)] 3 141 true 3 0 0) .lf))))) (.nd (.nd (tl (tr (.nd .lf (.row [(.nat .i64 2)] 1 3 false 0 0 0) .lf))) (.row [(.sl k5 0 0 2 2),(.sl k6 0 0 1
  1)] 2 34 false 0 0 0) (tr (tl (.nd .lf (.row [(.so k93 3 0 3 0),(.so k95 3 0 3 0),(.so k97 3 0 3 0),(.ref 0 k90)] 4 94 false 0 0 0) .lf)))) (.row
  [(.nat .i64 3)] 1 3 false 0 0 0) (tn (tn (tr (.nd .lf (.row [(.nat .i64 3)] 1 3 false 0 0 0) .lf)) (tl (tl (.nd .lf (.row [(.sl k146 0 0 1 1),(.nat
  .i64 3),(.nat .i64 0),(.sl k152 0 0 1 1),(.nat .i64 2),(.nat .i64 0),(.sl k157 0 0 1 1),(.nat .i64 1),(.nat .i64 1),(.sl k5 0 0 2 2),(.nat .i64
  3),(.nat .i64 2)] 12 143 true 0 0 0) .lf)))) (tr (tl (.nd .lf (.row [(.bool true),(.bool true),(.bool true)] 3 4 true 0 0 0) .lf))))))), k289⟩
def a0_90 : S := ⟨(tn (tn (tn (.nd .lf (.row [(.nat .i64 1),(.nat .i64 2)] 2 3 false 0 0 0) .lf) (.nd .lf (.row [(.sl k7 0 0 1 1),(.sl k8 0 0 2 2)] 2
  34 false 0 0 0) .lf)) (.nd (.nd .lf (.row [(.nat .i64 1),(.nat .i64 1)] 2 3 false 0 0 0) (tl (tr (.nd .lf (.row [(.nat .i64 1)] 1 3 false 0 0 0)
  .lf)))) (.row [(.nat .i64 3)] 1 3 false 0 0 0) (tl (tl (tr (.nd .lf (.row [(.sl k99 0 0 1 1),(.nat .i64 2),(.nat .i64 0),(.sl k103 0 0 1 1),(.nat
  .i64 3),(.nat .i64 0),(.sl k106 0 0 1 1),(.nat .i64 1),(.nat .i64 1),(.sl k5 0 0 2 2),(.nat .i64 3),(.nat .i64 2)] 12 143 true 0 0 0) .lf)))))) (tn
  (.nd (.nd .lf (.row [(.nat .i64 1)] 1 3 false 0 0 0) .lf) (.row [(.nat .i64 1),(.nat .i64 2)] 2 3 false 0 0 0) (.nd .lf (.row [(.sl k9 0 0 1 1),(.sl
  k10 0 0 2 2)] 2 34 false 0 0 0) (tr (tl (.nd .lf (.row [(.so k102 12 0 4 0),(.so k131 9 0 3 0),(.so k151 12 0 4 0)] 3 141 true 3 0 0) .lf))))) (.nd
  (.nd (tl (tn (tl (.nd .lf (.row [(.sl k126 0 0 1 1),(.nat .i64 3),(.nat .i64 0),(.sl k132 0 0 1 1),(.nat .i64 1),(.nat .i64 1),(.sl k5 0 0 2
  2),(.nat .i64 3),(.nat .i64 2)] 9 143 true 0 0 0) .lf)) (.nd .lf (.row [(.nat .i64 2)] 1 3 false 0 0 0) .lf))) (.row [(.sl k5 0 0 2 2),(.sl k6 0 0 1
  1)] 2 34 false 0 0 0) (tr (tl (.nd .lf (.row [(.so k93 3 0 3 0),(.so k95 3 0 3 0),(.so k97 3 0 3 0),(.ref 0 k90)] 4 94 false 0 0 0) .lf)))) (.row
  [(.nat .i64 3)] 1 3 false 0 0 0) (tn (tn (tr (.nd .lf (.row [(.nat .i64 3)] 1 3 false 0 0 0) .lf)) (tl (tl (.nd .lf (.row [(.sl k146 0 0 1 1),(.nat
  .i64 3),(.nat .i64 0),(.sl k152 0 0 1 1),(.nat .i64 1),(.nat .i64 1),(.sl k159 0 0 1 1),(.nat .i64 2),(.nat .i64 0),(.sl k5 0 0 2 2),(.nat .i64
  3),(.nat .i64 2)] 12 143 true 0 0 0) .lf)))) (tr (tl (.nd .lf (.row [(.bool true),(.bool true),(.bool true)] 3 4 true 0 0 0) .lf))))))), k290⟩
def a0_91 : S := ⟨(tn (tn (tn (.nd .lf (.row [(.nat .i64 1),(.nat .i64 2)] 2 3 false 0 0 0) .lf) (.nd .lf (.row [(.sl k7 0 0 1 1),(.sl k8 0 0 2 2)] 2
  34 false 0 0 0) .lf)) (.nd (.nd .lf (.row [(.nat .i64 1),(.nat .i64 1)] 2 3 false 0 0 0) (tl (tr (.nd .lf (.row [(.nat .i64 1)] 1 3 false 0 0 0)
  .lf)))) (.row [(.nat .i64 3)] 1 3 false 0 0 0) (tl (tl (tr (.nd .lf (.row [(.sl k99 0 0 1 1),(.nat .i64 2),(.nat .i64 0),(.sl k103 0 0 1 1),(.nat
  .i64 3),(.nat .i64 0),(.sl k106 0 0 1 1),(.nat .i64 1),(.nat .i64 1),(.sl k5 0 0 2 2),(.nat .i64 3),(.nat .i64 2)] 12 143 true 0 0 0) .lf)))))) (tn
  (.nd (.nd .lf (.row [(.nat .i64 1)] 1 3 false 0 0 0) .lf) (.row [(.nat .i64 1),(.nat .i64 2)] 2 3 false 0 0 0) (.nd .lf (.row [(.sl k9 0 0 1 1),(.sl
  k10 0 0 2 2)] 2 34 false 0 0 0) (tr (tl (.nd .lf (.row [(.so k102 12 0 4 0),(.so k131 9 0 3 0),(.so k151 12 0 4 0)] 3 141 true 3 0 0) .lf))))) (.nd
  (.nd (tl (tn (tl (.nd .lf (.row [(.sl k126 0 0 1 1),(.nat .i64 3),(.nat .i64 0),(.sl k132 0 0 1 1),(.nat .i64 1),(.nat .i64 1),(.sl k5 0 0 2
  2),(.nat .i64 3),(.nat .i64 2)] 9 143 true 0 0 0) .lf)) (.nd .lf (.row [(.nat .i64 2)] 1 3 false 0 0 0) .lf))) (.row [(.sl k5 0 0 2 2),(.sl k6 0 0 1
  1)] 2 34 false 0 0 0) (tr (tl (.nd .lf (.row [(.so k93 3 0 3 0),(.so k95 3 0 3 0),(.so k97 3 0 3 0),(.ref 0 k90)] 4 94 false 0 0 0) .lf)))) (.row
  [(.nat .i64 3)] 1 3 false 0 0 0) (tn (tn (tr (.nd .lf (.row [(.nat .i64 3)] 1 3 false 0 0 0) .lf)) (tl (tl (.nd .lf (.row [(.sl k146 0 0 1 1),(.nat
  .i64 2),(.nat .i64 0),(.sl k152 0 0 1 1),(.nat .i64 3),(.nat .i64 0),(.sl k157 0 0 1 1),(.nat .i64 1),(.nat .i64 1),(.sl k5 0 0 2 2),(.nat .i64
  3),(.nat .i64 2)] 12 143 true 0 0 0) .lf)))) (tr (tl (.nd .lf (.row [(.bool true),(.bool true),(.bool true)] 3 4 true 0 0 0) .lf))))))), k291⟩
def a0_92 : S := ⟨(tn (tn (tn (.nd .lf (.row [(.nat .i64 1),(.nat .i64 2)] 2 3 false 0 0 0) .lf) (.nd .lf (.row [(.sl k7 0 0 1 1),(.sl k8 0 0 2 2)] 2
  34 false 0 0 0) .lf)) (.nd (.nd .lf (.row [(.nat .i64 1),(.nat .i64 1)] 2 3 false 0 0 0) (tl (tr (.nd .lf (.row [(.nat .i64 1)] 1 3 false 0 0 0)
  .lf)))) (.row [(.nat .i64 3)] 1 3 false 0 0 0) (tl (tl (tr (.nd .lf (.row [(.sl k99 0 0 1 1),(.nat .i64 2),(.nat .i64 0),(.sl k103 0 0 1 1),(.nat
  .i64 3),(.nat .i64 0),(.sl k106 0 0 1 1),(.nat .i64 1),(.nat .i64 1),(.sl k5 0 0 2 2),(.nat .i64 3),(.nat .i64 2)] 12 143 true 0 0 0) .lf)))))) (tn
  (.nd (.nd .lf (.row [(.nat .i64 1)] 1 3 false 0 0 0) .lf) (.row [(.nat .i64 1),(.nat .i64 2)] 2 3 false 0 0 0) (.nd .lf (.row [(.sl k9 0 0 1 1),(.sl
  k10 0 0 2 2)] 2 34 false 0 0 0) (tr (tl (.nd .lf (.row [(.so k102 12 0 4 0),(.so k131 9 0 3 0),(.so k151 12 0 4 0)] 3 141 true 3 0 0) .lf))))) (.nd
  (.nd (tl (tn (tl (.nd .lf (.row [(.sl k126 0 0 1 1),(.nat .i64 3),(.nat .i64 0),(.sl k132 0 0 1 1),(.nat .i64 1),(.nat .i64 1),(.sl k5 0 0 2
  2),(.nat .i64 3),(.nat .i64 2)] 9 143 true 0 0 0) .lf)) (.nd .lf (.row [(.nat .i64 2)] 1 3 false 0 0 0) .lf))) (.row [(.sl k5 0 0 2 2),(.sl k6 0 0 1
  1)] 2 34 false 0 0 0) (tr (tl (.nd .lf (.row [(.so k93 3 0 3 0),(.so k95 3 0 3 0),(.so k97 3 0 3 0),(.ref 0 k90)] 4 94 false 0 0 0) .lf)))) (.row
  [(.nat .i64 3)] 1 3 false 0 0 0) (tn (tn (tr (.nd .lf (.row [(.nat .i64 3)] 1 3 false 0 0 0) .lf)) (tl (tl (.nd .lf (.row [(.sl k146 0 0 1 1),(.nat
  .i64 2),(.nat .i64 0),(.sl k152 0 0 1 1),(.nat .i64 1),(.nat .i64 1),(.sl k159 0 0 1 1),(.nat .i64 3),(.nat .i64 0),(.sl k5 0 0 2 2),(.nat .i64
  3),(.nat .i64 2)] 12 143 true 0 0 0) .lf)))) (tr (tl (.nd .lf (.row [(.bool true),(.bool true),(.bool true)] 3 4 true 0 0 0) .lf))))))), k292⟩
def a0_93 : S := ⟨(tn (tn (tn (.nd .lf (.row [(.nat .i64 1),(.nat .i64 2)] 2 3 false 0 0 0) .lf) (.nd .lf (.row [(.sl k7 0 0 1 1),(.sl k8 0 0 2 2)] 2
  34 false 0 0 0) .lf)) (.nd (.nd .lf (.row [(.nat .i64 1),(.nat .i64 1)] 2 3 false 0 0 0) (tl (tr (.nd .lf (.row [(.nat .i64 1)] 1 3 false 0 0 0)
  .lf)))) (.row [(.nat .i64 3)] 1 3 false 0 0 0) (tl (tl (tr (.nd .lf (.row [(.sl k99 0 0 1 1),(.nat .i64 2),(.nat .i64 0),(.sl k103 0 0 1 1),(.nat
  .i64 3),(.nat .i64 0),(.sl k106 0 0 1 1),(.nat .i64 1),(.nat .i64 1),(.sl k5 0 0 2 2),(.nat .i64 3),(.nat .i64 2)] 12 143 true 0 0 0) .lf)))))) (tn
  (.nd (.nd .lf (.row [(.nat .i64 1)] 1 3 false 0 0 0) (tr (tl (tl (.nd .lf (.row [(.sl k146 0 0 1 1),(.nat .i64 1),(.nat .i64 1),(.sl k154 0 0 1
  1),(.nat .i64 3),(.nat .i64 0),(.sl k159 0 0 1 1),(.nat .i64 2),(.nat .i64 0),(.sl k5 0 0 2 2),(.nat .i64 3),(.nat .i64 2)] 12 143 true 0 0 0)
  .lf))))) (.row [(.nat .i64 1),(.nat .i64 2)] 2 3 false 0 0 0) (.nd .lf (.row [(.sl k9 0 0 1 1),(.sl k10 0 0 2 2)] 2 34 false 0 0 0) (tr (tl (.nd .lf
  (.row [(.so k102 12 0 4 0),(.so k131 9 0 3 0),(.so k153 12 0 4 0)] 3 141 true 3 0 0) .lf))))) (.nd (.nd (tl (tn (tl (.nd .lf (.row [(.sl k126 0 0 1
  1),(.nat .i64 3),(.nat .i64 0),(.sl k132 0 0 1 1),(.nat .i64 1),(.nat .i64 1),(.sl k5 0 0 2 2),(.nat .i64 3),(.nat .i64 2)] 9 143 true 0 0 0) .lf))
  (.nd .lf (.row [(.nat .i64 2)] 1 3 false 0 0 0) .lf))) (.row [(.sl k5 0 0 2 2),(.sl k6 0 0 1 1)] 2 34 false 0 0 0) (tr (tl (.nd .lf (.row [(.so k93
  3 0 3 0),(.so k95 3 0 3 0),(.so k97 3 0 3 0),(.ref 0 k90)] 4 94 false 0 0 0) .lf)))) (.row [(.nat .i64 3)] 1 3 false 0 0 0) (tn (tl (tr (.nd .lf
  (.row [(.nat .i64 3)] 1 3 false 0 0 0) .lf))) (tr (tl (.nd .lf (.row [(.bool true),(.bool true),(.bool true)] 3 4 true 0 0 0) .lf))))))), k293⟩
def a0_94 : S := ⟨(tn (tn (tn (.nd .lf (.row [(.nat .i64 1),(.nat .i64 2)] 2 3 false 0 0 0) .lf) (.nd .lf (.row [(.sl k7 0 0 1 1),(.sl k8 0 0 2 2)] 2
  34 false 0 0 0) .lf)) (.nd (.nd .lf (.row [(.nat .i64 1),(.nat .i64 1)] 2 3 false 0 0 0) (tl (tr (.nd .lf (.row [(.nat .i64 1)] 1 3 false 0 0 0)
  .lf)))) (.row [(.nat .i64 3)] 1 3 false 0 0 0) (tl (tl (tr (.nd .lf (.row [(.sl k99 0 0 1 1),(.nat .i64 2),(.nat .i64 0),(.sl k103 0 0 1 1),(.nat
  .i64 3),(.nat .i64 0),(.sl k106 0 0 1 1),(.nat .i64 1),(.nat .i64 1),(.sl k5 0 0 2 2),(.nat .i64 3),(.nat .i64 2)] 12 143 true 0 0 0) .lf)))))) (tn
  (.nd (.nd .lf (.row [(.nat .i64 1)] 1 3 false 0 0 0) (tr (tl (tl (.nd .lf (.row [(.sl k146 0 0 1 1),(.nat .i64 1),(.nat .i64 1),(.sl k154 0 0 1
  1),(.nat .i64 2),(.nat .i64 0),(.sl k159 0 0 1 1),(.nat .i64 3),(.nat .i64 0),(.sl k5 0 0 2 2),(.nat .i64 3),(.nat .i64 2)] 12 143 true 0 0 0)
  .lf))))) (.row [(.nat .i64 1),(.nat .i64 2)] 2 3 false 0 0 0) (.nd .lf (.row [(.sl k9 0 0 1 1),(.sl k10 0 0 2 2)] 2 34 false 0 0 0) (tr (tl (.nd .lf
  (.row [(.so k102 12 0 4 0),(.so k131 9 0 3 0),(.so k153 12 0 4 0)] 3 141 true 3 0 0) .lf))))) (.nd (.nd (tl (tn (tl (.nd .lf (.row [(.sl k126 0 0 1
  1),(.nat .i64 3),(.nat .i64 0),(.sl k132 0 0 1 1),(.nat .i64 1),(.nat .i64 1),(.sl k5 0 0 2 2),(.nat .i64 3),(.nat .i64 2)] 9 143 true 0 0 0) .lf))
  (.nd .lf (.row [(.nat .i64 2)] 1 3 false 0 0 0) .lf))) (.row [(.sl k5 0 0 2 2),(.sl k6 0 0 1 1)] 2 34 false 0 0 0) (tr (tl (.nd .lf (.row [(.so k93
  3 0 3 0),(.so k95 3 0 3 0),(.so k97 3 0 3 0),(.ref 0 k90)] 4 94 false 0 0 0) .lf)))) (.row [(.nat .i64 3)] 1 3 false 0 0 0) (tn (tl (tr (.nd .lf
  (.row [(.nat .i64 3)] 1 3 false 0 0 0) .lf))) (tr (tl (.nd .lf (.row [(.bool true),(.bool true),(.bool true)] 3 4 true 0 0 0) .lf))))))), k294⟩
def a0_95 : S := ⟨(tn (tn (tn (.nd .lf (.row [(.nat .i64 1),(.nat .i64 2)] 2 3 false 0 0 0) .lf) (.nd .lf (.row [(.sl k7 0 0 1 1),(.sl k8 0 0 2 2)] 2
  34 false 0 0 0) .lf)) (.nd (.nd .lf (.row [(.nat .i64 1),(.nat .i64 1)] 2 3 false 0 0 0) (tl (tr (.nd .lf (.row [(.nat .i64 1)] 1 3 false 0 0 0)
  .lf)))) (.row [(.nat .i64 3)] 1 3 false 0 0 0) (tl (tl (tr (.nd .lf (.row [(.sl k99 0 0 1 1),(.nat .i64 2),(.nat .i64 0),(.sl k103 0 0 1 1),(.nat
  .i64 3),(.nat .i64 0),(.sl k106 0 0 1 1),(.nat .i64 1),(.nat .i64 1),(.sl k5 0 0 2 2),(.nat .i64 3),(.nat .i64 2)] 12 143 true 0 0 0) .lf)))))) (tn
  (.nd (.nd .lf (.row [(.nat .i64 1)] 1 3 false 0 0 0) .lf) (.row [(.nat .i64 1),(.nat .i64 2)] 2 3 false 0 0 0) (.nd .lf (.row [(.sl k9 0 0 1 1),(.sl
  k10 0 0 2 2)] 2 34 false 0 0 0) (tr (tl (.nd .lf (.row [(.so k102 12 0 4 0),(.so k131 9 0 3 0),(.so k151 12 0 4 0)] 3 141 true 3 0 0) .lf))))) (.nd
  (.nd (tl (tn (tl (.nd .lf (.row [(.sl k126 0 0 1 1),(.nat .i64 3),(.nat .i64 0),(.sl k132 0 0 1 1),(.nat .i64 1),(.nat .i64 1),(.sl k5 0 0 2
  2),(.nat .i64 3),(.nat .i64 2)] 9 143 true 0 0 0) .lf)) (.nd .lf (.row [(.nat .i64 2)] 1 3 false 0 0 0) .lf))) (.row [(.sl k5 0 0 2 2),(.sl k6 0 0 1
  1)] 2 34 false 0 0 0) (tr (tl (.nd .lf (.row [(.so k93 3 0 3 0),(.so k95 3 0 3 0),(.so k97 3 0 3 0),(.ref 0 k90)] 4 94 false 0 0 0) .lf)))) (.row
  [(.nat .i64 3)] 1 3 false 0 0 0) (tn (tn (tr (.nd .lf (.row [(.nat .i64 3)] 1 3 false 0 0 0) .lf)) (tl (tl (.nd .lf (.row [(.sl k146 0 0 1 1),(.nat
  .i64 3),(.nat .i64 0),(.sl k152 0 0 1 1),(.nat .i64 2),(.nat .i64 0),(.sl k157 0 0 1 1),(.nat .i64 1),(.nat .i64 1),(.sl k5 0 0 2 2),(.nat .i64
  3),(.nat .i64 2)] 12 143 true 0 0 0) .lf)))) (tr (tl (.nd .lf (.row [(.bool true),(.bool true),(.bool true)] 3 4 true 0 0 0) .lf))))))), k295⟩
def a0_96 : S := ⟨(tn (tn (tn (.nd .lf (.row [(.nat .i64 1),(.nat .i64 2)] 2 3 false 0 0 0) .lf) (.nd .lf (.row [(.sl k7 0 0 1 1),(.sl k8 0 0 2 2)] 2
  34 false 0 0 0) .lf)) (.nd (.nd .lf (.row [(.nat .i64 1),(.nat .i64 1)] 2 3 false 0 0 0) (tl (tr (.nd .lf (.row [(.nat .i64 1)] 1 3 false 0 0 0)
  .lf)))) (.row [(.nat .i64 3)] 1 3 false 0 0 0) (tl (tl (tr (.nd .lf (.row [(.sl k99 0 0 1 1),(.nat .i64 2),(.nat .i64 0),(.sl k103 0 0 1 1),(.nat
  .i64 3),(.nat .i64 0),(.sl k106 0 0 1 1),(.nat .i64 1),(.nat .i64 1),(.sl k5 0 0 2 2),(.nat .i64 3),(.nat .i64 2)] 12 143 true 0 0 0) .lf)))))) (tn
  (.nd (.nd .lf (.row [(.nat .i64 1)] 1 3 false 0 0 0) .lf) (.row [(.nat .i64 1),(.nat .i64 2)] 2 3 false 0 0 0) (.nd .lf (.row [(.sl k9 0 0 1 1),(.sl
  k10 0 0 2 2)] 2 34 false 0 0 0) (tr (tl (.nd .lf (.row [(.so k102 12 0 4 0),(.so k127 9 0 3 0),(.so k151 12 0 4 0)] 3 141 true 3 0 0) .lf))))) (.nd
  (.nd (tl (tr (.nd .lf (.row [(.nat .i64 2)] 1 3 false 0 0 0) .lf))) (.row [(.sl k5 0 0 2 2),(.sl k6 0 0 1 1)] 2 34 false 0 0 0) (tr (tl (.nd .lf
  (.row [(.so k93 3 0 3 0),(.so k95 3 0 3 0),(.so k97 3 0 3 0),(.ref 0 k90)] 4 94 false 0 0 0) .lf)))) (.row [(.nat .i64 3)] 1 3 false 0 0 0) (tn (tn
  (tr (.nd .lf (.row [(.nat .i64 3)] 1 3 false 0 0 0) .lf)) (tl (tl (.nd .lf (.row [(.sl k146 0 0 1 1),(.nat .i64 3),(.nat .i64 0),(.sl k152 0 0 1
  1),(.nat .i64 1),(.nat .i64 1),(.sl k159 0 0 1 1),(.nat .i64 2),(.nat .i64 0),(.sl k5 0 0 2 2),(.nat .i64 3),(.nat .i64 2)] 12 143 true 0 0 0)
  .lf)))) (tr (tn (.nd .lf (.row [(.bool true),(.bool true),(.bool true)] 3 4 true 0 0 0) .lf) (.nd .lf (.row [(.sl k122 0 0 1 1),(.nat .i64 3),(.nat
  .i64 0),(.sl k128 0 0 1 1),(.nat .i64 1),(.nat .i64 1),(.sl k5 0 0 2 2),(.nat .i64 3),(.nat .i64 2)] 9 143 true 0 0 0) .lf))))))), k296⟩
def a0_97 : S := ⟨(tn (tn (tn (.nd .lf (.row [(.nat .i64 1),(.nat .i64 2)] 2 3 false 0 0 0) .lf) (.nd .lf (.row [(.sl k7 0 0 1 1),(.sl k8 0 0 2 2)] 2
  34 false 0 0 0) .lf)) (.nd (.nd .lf (.row [(.nat .i64 1),(.nat .i64 1)] 2 3 false 0 0 0) (tl (tr (.nd .lf (.row [(.nat .i64 1)] 1 3 false 0 0 0)
  .lf)))) (.row [(.nat .i64 3)] 1 3 false 0 0 0) (tl (tl (tr (.nd .lf (.row [(.sl k99 0 0 1 1),(.nat .i64 2),(.nat .i64 0),(.sl k103 0 0 1 1),(.nat
  .i64 3),(.nat .i64 0),(.sl k106 0 0 1 1),(.nat .i64 1),(.nat .i64 1),(.sl k5 0 0 2 2),(.nat .i64 3),(.nat .i64 2)] 12 143 true 0 0 0) .lf)))))) (tn
  (.nd (.nd .lf (.row [(.nat .i64 1)] 1 3 false 0 0 0) .lf) (.row [(.nat .i64 1),(.nat .i64 2)] 2 3 false 0 0 0) (.nd .lf (.row [(.sl k9 0 0 1 1),(.sl
  k10 0 0 2 2)] 2 34 false 0 0 0) (tr (tl (.nd .lf (.row [(.so k102 12 0 4 0),(.so k127 9 0 3 0),(.so k151 12 0 4 0)] 3 141 true 3 0 0) .lf))))) (.nd
  (.nd (tl (tr (.nd .lf (.row [(.nat .i64 2)] 1 3 false 0 0 0) .lf))) (.row [(.sl k5 0 0 2 2),(.sl k6 0 0 1 1)] 2 34 false 0 0 0) (tr (tl (.nd .lf
  (.row [(.so k93 3 0 3 0),(.so k95 3 0 3 0),(.so k97 3 0 3 0),(.ref 0 k90)] 4 94 false 0 0 0) .lf)))) (.row [(.nat .i64 3)] 1 3 false 0 0 0) (tn (tn
  (tr (.nd .lf (.row [(.nat .i64 3)] 1 3 false 0 0 0) .lf)) (tl (tl (.nd .lf (.row [(.sl k146 0 0 1 1),(.nat .i64 2),(.nat .i64 0),(.sl k152 0 0 1
  1),(.nat .i64 3),(.nat .i64 0),(.sl k157 0 0 1 1),(.nat .i64 1),(.nat .i64 1),(.sl k5 0 0 2 2),(.nat .i64 3),(.nat .i64 2)] 12 143 true 0 0 0)
  .lf)))) (tr (tn (.nd .lf (.row [(.bool true),(.bool true),(.bool true)] 3 4 true 0 0 0) .lf) (.nd .lf (.row [(.sl k122 0 0 1 1),(.nat .i64 3),(.nat
  .i64 0),(.sl k128 0 0 1 1),(.nat .i64 1),(.nat .i64 1),(.sl k5 0 0 2 2),(.nat .i64 3),(.nat .i64 2)] 9 143 true 0 0 0) .lf))))))), k297⟩
def a0_98 : S := ⟨(tn (tn (tn (.nd .lf (.row [(.nat .i64 1),(.nat .i64 2)] 2 3 false 0 0 0) .lf) (.nd .lf (.row [(.sl k7 0 0 1 1),(.sl k8 0 0 2 2)] 2
  34 false 0 0 0) .lf)) (.nd (.nd .lf (.row [(.nat .i64 1),(.nat .i64 1)] 2 3 false 0 0 0) (tl (tr (.nd .lf (.row [(.nat .i64 1)] 1 3 false 0 0 0)
  .lf)))) (.row [(.nat .i64 3)] 1 3 false 0 0 0) (tl (tl (tr (.nd .lf (.row [(.sl k99 0 0 1 1),(.nat .i64 2),(.nat .i64 0),(.sl k103 0 0 1 1),(.nat
  .i64 3),(.nat .i64 0),(.sl k106 0 0 1 1),(.nat .i64 1),(.nat .i64 1),(.sl k5 0 0 2 2),(.nat .i64 3),(.nat .i64 2)] 12 143 true 0 0 0) .lf)))))) (tn
  (.nd (.nd .lf (.row [(.nat .i64 1)] 1 3 false 0 0 0) .lf) (.row [(.nat .i64 1),(.nat .i64 2)] 2 3 false 0 0 0) (.nd .lf (.row [(.sl k9 0 0 1 1),(.sl
  k10 0 0 2 2)] 2 34 false 0 0 0) (tr (tl (.nd .lf (.row [(.so k102 12 0 4 0),(.so k127 9 0 3 0),(.so k151 12 0 4 0)] 3 141 true 3 0 0) .lf))))) (.nd
  (.nd (tl (tr (.nd .lf (.row [(.nat .i64 2)] 1 3 false 0 0 0) .lf))) (.row [(.sl k5 0 0 2 2),(.sl k6 0 0 1 1)] 2 34 false 0 0 0) (tr (tl (.nd .lf
  (.row [(.so k93 3 0 3 0),(.so k95 3 0 3 0),(.so k97 3 0 3 0),(.ref 0 k90)] 4 94 false 0 0 0) .lf)))) (.row [(.nat .i64 3)] 1 3 false 0 0 0) (tn (tn
  (tr (.nd .lf (.row [(.nat .i64 3)] 1 3 false 0 0 0) .lf)) (tl (tl (.nd .lf (.row [(.sl k146 0 0 1 1),(.nat .i64 2),(.nat .i64 0),(.sl k152 0 0 1
  1),(.nat .i64 1),(.nat .i64 1),(.sl k159 0 0 1 1),(.nat .i64 3),(.nat .i64 0),(.sl k5 0 0 2 2),(.nat .i64 3),(.nat .i64 2)] 12 143 true 0 0 0)
  .lf)))) (tr (tn (.nd .lf (.row [(.bool true),(.bool true),(.bool true)] 3 4 true 0 0 0) .lf) (.nd .lf (.row [(.sl k122 0 0 1 1),(.nat .i64 3),(.nat
  .i64 0),(.sl k128 0 0 1 1),(.nat .i64 1),(.nat .i64 1),(.sl k5 0 0 2 2),(.nat .i64 3),(.nat .i64 2)] 9 143 true 0 0 0) .lf))))))), k298⟩
def a0_99 : S := ⟨(tn (tn (tn (.nd .lf (.row [(.nat .i64 1),(.nat .i64 2)] 2 3 false 0 0 0) .lf) (.nd .lf (.row [(.sl k7 0 0 1 1),(.sl k8 0 0 2 2)] 2
  34 false 0 0 0) .lf)) (.nd (.nd .lf (.row [(.nat .i64 1),(.nat .i64 1)] 2 3 false 0 0 0) (tl (tr (.nd .lf (.row [(.nat .i64 1)] 1 3 false 0 0 0)
  .lf)))) (.row [(.nat .i64 3)] 1 3 false 0 0 0) (tl (tl (tr (.nd .lf (.row [(.sl k99 0 0 1 1),(.nat .i64 2),(.nat .i64 0),(.sl k103 0 0 1 1),(.nat
  .i64 3),(.nat .i64 0),(.sl k106 0 0 1 1),(.nat .i64 1),(.nat .i64 1),(.sl k5 0 0 2 2),(.nat .i64 3),(.nat .i64 2)] 12 143 true 0 0 0) .lf)))))) (tn
  (.nd (.nd .lf (.row [(.nat .i64 1)] 1 3 false 0 0 0) (tr (tl (tl (.nd .lf (.row [(.sl k146 0 0 1 1),(.nat .i64 1),(.nat .i64 1),(.sl k154 0 0 1
  1),(.nat .i64 3),(.nat .i64 0),(.sl k159 0 0 1 1),(.nat .i64 2),(.nat .i64 0),(.sl k5 0 0 2 2),(.nat .i64 3),(.nat .i64 2)] 12 143 true 0 0 0)
  .lf))))) (.row [(.nat .i64 1),(.nat .i64 2)] 2 3 false 0 0 0) (.nd .lf (.row [(.sl k9 0 0 1 1),(.sl k10 0 0 2 2)] 2 34 false 0 0 0) (tr (tl (.nd .lf
  (.row [(.so k102 12 0 4 0),(.so k127 9 0 3 0),(.so k153 12 0 4 0)] 3 141 true 3 0 0) .lf))))) (.nd (.nd (tl (tr (.nd .lf (.row [(.nat .i64 2)] 1 3
  false 0 0 0) .lf))) (.row [(.sl k5 0 0 2 2),(.sl k6 0 0 1 1)] 2 34 false 0 0 0) (tr (tl (.nd .lf (.row [(.so k93 3 0 3 0),(.so k95 3 0 3 0),(.so k97
  3 0 3 0),(.ref 0 k90)] 4 94 false 0 0 0) .lf)))) (.row [(.nat .i64 3)] 1 3 false 0 0 0) (tn (tl (tr (.nd .lf (.row [(.nat .i64 3)] 1 3 false 0 0 0)
  .lf))) (tr (tn (.nd .lf (.row [(.bool true),(.bool true),(.bool true)] 3 4 true 0 0 0) .lf) (.nd .lf (.row [(.sl k122 0 0 1 1),(.nat .i64 3),(.nat
  .i64 0),(.sl k128 0 0 1 1),(.nat .i64 1),(.nat .i64 1),(.sl k5 0 0 2 2),(.nat .i64 3),(.nat .i64 2)] 9 143 true 0 0 0) .lf))))))), k299⟩
def a0_100 : S := ⟨(tn (tn (tn (.nd .lf (.row [(.nat .i64 1),(.nat .i64 2)] 2 3 false 0 0 0) .lf) (.nd .lf (.row [(.sl k7 0 0 1 1),(.sl k8 0 0 2 2)] 2
  34 false 0 0 0) .lf)) (.nd (.nd .lf (.row [(.nat .i64 1),(.nat .i64 1)] 2 3 false 0 0 0) (tl (tr (.nd .lf (.row [(.nat .i64 1)] 1 3 false 0 0 0)
  .lf)))) (.row [(.nat .i64 3)] 1 3 false 0 0 0) (tl (tl (tr (.nd .lf (.row [(.sl k99 0 0 1 1),(.nat .i64 2),(.nat .i64 0),(.sl k103 0 0 1 1),(.nat
  .i64 3),(.nat .i64 0),(.sl k106 0 0 1 1),(.nat .i64 1),(.nat .i64 1),(.sl k5 0 0 2 2),(.nat .i64 3),(.nat .i64 2)] 12 143 true 0 0 0) .lf)))))) (tn
  (.nd (.nd .lf (.row [(.nat .i64 1)] 1 3 false 0 0 0) (tr (tl (tl (.nd .lf (.row [(.sl k146 0 0 1 1),(.nat .i64 1),(.nat .i64 1),(.sl k154 0 0 1
  1),(.nat .i64 2),(.nat .i64 0),(.sl k159 0 0 1 1),(.nat .i64 3),(.nat .i64 0),(.sl k5 0 0 2 2),(.nat .i64 3),(.nat .i64 2)] 12 143 true 0 0 0)
  .lf))))) (.row [(.nat .i64 1),(.nat .i64 2)] 2 3 false 0 0 0) (.nd .lf (.row [(.sl k9 0 0 1 1),(.sl k10 0 0 2 2)] 2 34 false 0 0 0) (tr (tl (.nd .lf
  (.row [(.so k102 12 0 4 0),(.so k127 9 0 3 0),(.so k153 12 0 4 0)] 3 141 true 3 0 0) .lf))))) (.nd (.nd (tl (tr (.nd .lf (.row [(.nat .i64 2)] 1 3
  false 0 0 0) .lf))) (.row [(.sl k5 0 0 2 2),(.sl k6 0 0 1 1)] 2 34 false 0 0 0) (tr (tl (.nd .lf (.row [(.so k93 3 0 3 0),(.so k95 3 0 3 0),(.so k97
  3 0 3 0),(.ref 0 k90)] 4 94 false 0 0 0) .lf)))) (.row [(.nat .i64 3)] 1 3 false 0 0 0) (tn (tl (tr (.nd .lf (.row [(.nat .i64 3)] 1 3 false 0 0 0)
  .lf))) (tr (tn (.nd .lf (.row [(.bool true),(.bool true),(.bool true)] 3 4 true 0 0 0) .lf) (.nd .lf (.row [(.sl k122 0 0 1 1),(.nat .i64 3),(.nat
  .i64 0),(.sl k128 0 0 1 1),(.nat .i64 1),(.nat .i64 1),(.sl k5 0 0 2 2),(.nat .i64 3),(.nat .i64 2)] 9 143 true 0 0 0) .lf))))))), k300⟩
def a0_101 : S := ⟨(tn (tn (tn (.nd .lf (.row [(.nat .i64 1),(.nat .i64 2)] 2 3 false 0 0 0) .lf) (.nd .lf (.row [(.sl k7 0 0 1 1),(.sl k8 0 0 2 2)] 2
  34 false 0 0 0) .lf)) (.nd (.nd .lf (.row [(.nat .i64 1),(.nat .i64 1)] 2 3 false 0 0 0) (tl (tr (.nd .lf (.row [(.nat .i64 1)] 1 3 false 0 0 0)
  .lf)))) (.row [(.nat .i64 3)] 1 3 false 0 0 0) (tl (tl (tr (.nd .lf (.row [(.sl k99 0 0 1 1),(.nat .i64 2),(.nat .i64 0),(.sl k103 0 0 1 1),(.nat
  .i64 3),(.nat .i64 0),(.sl k106 0 0 1 1),(.nat .i64 1),(.nat .i64 1),(.sl k5 0 0 2 2),(.nat .i64 3),(.nat .i64 2)] 12 143 true 0 0 0) .lf)))))) (tn
  (.nd (.nd .lf (.row [(.nat .i64 1)] 1 3 false 0 0 0) .lf) (.row [(.nat .i64 1),(.nat .i64 2)] 2 3 false 0 0 0) (.nd .lf (.row [(.sl k9 0 0 1 1),(.sl
  k10 0 0 2 2)] 2 34 false 0 0 0) (tr (tl (.nd .lf (.row [(.so k102 12 0 4 0),(.so k127 9 0 3 0),(.so k151 12 0 4 0)] 3 141 true 3 0 0) .lf))))) (.nd
  (.nd (tl (tr (.nd .lf (.row [(.nat .i64 2)] 1 3 false 0 0 0) .lf))) (.row [(.sl k5 0 0 2 2),(.sl k6 0 0 1 1)] 2 34 false 0 0 0) (tr (tl (.nd .lf
  (.row [(.so k93 3 0 3 0),(.so k95 3 0 3 0),(.so k97 3 0 3 0),(.ref 0 k90)] 4 94 false 0 0 0) .lf)))) (.row [(.nat .i64 3)] 1 3 false 0 0 0) (tn (tn
  (tr (.nd .lf (.row [(.nat .i64 3)] 1 3 false 0 0 0) .lf)) (tl (tl (.nd .lf (.row [(.sl k146 0 0 1 1),(.nat .i64 3),(.nat .i64 0),(.sl k152 0 0 1
  1),(.nat .i64 2),(.nat .i64 0),(.sl k157 0 0 1 1),(.nat .i64 1),(.nat .i64 1),(.sl k5 0 0 2 2),(.nat .i64 3),(.nat .i64 2)] 12 143 true 0 0 0)
  .lf)))) (tr (tn (.nd .lf (.row [(.bool true),(.bool true),(.bool true)] 3 4 true 0 0 0) .lf) (.nd .lf (.row [(.sl k122 0 0 1 1),(.nat .i64 3),(.nat
  .i64 0),(.sl k128 0 0 1 1),(.nat .i64 1),(.nat .i64 1),(.sl k5 0 0 2 2),(.nat .i64 3),(.nat .i64 2)] 9 143 true 0 0 0) .lf))))))), k301⟩
def a0_102 : S := ⟨(tn (tn (tn (.nd .lf (.row [(.nat .i64 1),(.nat .i64 2)] 2 3 false 0 0 0) .lf) (.nd .lf (.row [(.sl k7 0 0 1 1),(.sl k8 0 0 2 2)] 2
  34 false 0 0 0) .lf)) (.nd (.nd .lf (.row [(.nat .i64 1),(.nat .i64 1)] 2 3 false 0 0 0) (tl (tr (.nd .lf (.row [(.nat .i64 1)] 1 3 false 0 0 0)
  .lf)))) (.row [(.nat .i64 3)] 1 3 false 0 0 0) (tl (tl (tr (.nd .lf (.row [(.sl k99 0 0 1 1),(.nat .i64 2),(.nat .i64 0),(.sl k103 0 0 1 1),(.nat
  .i64 3),(.nat .i64 0),(.sl k106 0 0 1 1),(.nat .i64 1),(.nat .i64 1),(.sl k5 0 0 2 2),(.nat .i64 3),(.nat .i64 2)] 12 143 true 0 0 0) .lf)))))) (tn
  (.nd (.nd .lf (.row [(.nat .i64 1)] 1 3 false 0 0 0) (tr (tl (tl (.nd .lf (.row [(.sl k146 0 0 1 1),(.nat .i64 1),(.nat .i64 1),(.sl k154 0 0 1
  1),(.nat .i64 2),(.nat .i64 0),(.sl k159 0 0 1 1),(.nat .i64 3),(.nat .i64 0),(.sl k5 0 0 2 2),(.nat .i64 3),(.nat .i64 2)] 12 143 true 0 0 0)
  .lf))))) (.row [(.nat .i64 1),(.nat .i64 2)] 2 3 false 0 0 0) (.nd .lf (.row [(.sl k9 0 0 1 1),(.sl k10 0 0 2 2)] 2 34 false 0 0 0) (tr (tl (.nd .lf
  (.row [(.so k102 12 0 4 0),(.so k127 9 0 3 0),(.so k153 12 0 4 0)] 3 141 true 3 0 0) .lf))))) (.nd (.nd (tl (tr (.nd .lf (.row [(.nat .i64 2)] 1 3
  false 0 0 0) .lf))) (.row [(.sl k5 0 0 2 2),(.sl k6 0 0 1 1)] 2 34 false 0 0 0) (tr (tl (.nd .lf (.row [(.so k93 3 0 3 0),(.so k95 3 0 3 0),(.so k97
  3 0 3 0),(.ref 0 k90)] 4 94 false 0 0 0) .lf)))) (.row [(.nat .i64 3)] 1 3 false 0 0 0) (tn (tl (tr (.nd .lf (.row [(.nat .i64 3)] 1 3 false 0 0 0)
  .lf))) (tr (tn (.nd .lf (.row [(.bool true),(.bool true),(.bool true)] 3 4 true 0 0 0) .lf) (.nd .lf (.row [(.sl k122 0 0 1 1),(.nat .i64 3),(.nat
  .i64 0),(.sl k132 0 0 1 1),(.nat .i64 1),(.nat .i64 1),(.sl k5 0 0 2 2),(.nat .i64 3),(.nat .i64 2)] 9 143 true 0 0 0) .lf))))))), k302⟩
def a0_103 : S := ⟨(tn (tn (tn (.nd .lf (.row [(.nat .i64 1),(.nat .i64 2)] 2 3 false 0 0 0) .lf) (.nd .lf (.row [(.sl k7 0 0 1 1),(.sl k8 0 0 2 2)] 2
  34 false 0 0 0) .lf)) (.nd (.nd .lf (.row [(.nat .i64 1),(.nat .i64 1)] 2 3 false 0 0 0) (tl (tr (.nd .lf (.row [(.nat .i64 1)] 1 3 false 0 0 0)
  .lf)))) (.row [(.nat .i64 3)] 1 3 false 0 0 0) (tl (tl (tr (.nd .lf (.row [(.sl k99 0 0 1 1),(.nat .i64 2),(.nat .i64 0),(.sl k103 0 0 1 1),(.nat
  .i64 3),(.nat .i64 0),(.sl k106 0 0 1 1),(.nat .i64 1),(.nat .i64 1),(.sl k5 0 0 2 2),(.nat .i64 3),(.nat .i64 2)] 12 143 true 0 0 0) .lf)))))) (tn
  (.nd (.nd .lf (.row [(.nat .i64 1)] 1 3 false 0 0 0) (tr (tl (tl (.nd .lf (.row [(.sl k146 0 0 1 1),(.nat .i64 1),(.nat .i64 1),(.sl k154 0 0 1
  1),(.nat .i64 3),(.nat .i64 0),(.sl k159 0 0 1 1),(.nat .i64 2),(.nat .i64 0),(.sl k5 0 0 2 2),(.nat .i64 3),(.nat .i64 2)] 12 143 true 0 0 0)
  .lf))))) (.row [(.nat .i64 1),(.nat .i64 2)] 2 3 false 0 0 0) (.nd .lf (.row [(.sl k9 0 0 1 1),(.sl k10 0 0 2 2)] 2 34 false 0 0 0) (tr (tl (.nd .lf
  (.row [(.so k102 12 0 4 0),(.so k127 9 0 3 0),(.so k153 12 0 4 0)] 3 141 true 3 0 0) .lf))))) (.nd (.nd (tl (tr (.nd .lf (.row [(.nat .i64 2)] 1 3
  false 0 0 0) .lf))) (.row [(.sl k5 0 0 2 2),(.sl k6 0 0 1 1)] 2 34 false 0 0 0) (tr (tl (.nd .lf (.row [(.so k93 3 0 3 0),(.so k95 3 0 3 0),(.so k97
  3 0 3 0),(.ref 0 k90)] 4 94 false 0 0 0) .lf)))) (.row [(.nat .i64 3)] 1 3 false 0 0 0) (tn (tl (tr (.nd .lf (.row [(.nat .i64 3)] 1 3 false 0 0 0)
  .lf))) (tr (tn (.nd .lf (.row [(.bool true),(.bool true),(.bool true)] 3 4 true 0 0 0) .lf) (.nd .lf (.row [(.sl k122 0 0 1 1),(.nat .i64 3),(.nat
  .i64 0),(.sl k132 0 0 1 1),(.nat .i64 1),(.nat .i64 1),(.sl k5 0 0 2 2),(.nat .i64 3),(.nat .i64 2)] 9 143 true 0 0 0) .lf))))))), k303⟩
def a0_104 : S := ⟨(tn (tn (tn (.nd .lf (.row [(.nat .i64 1),(.nat .i64 2)] 2 3 false 0 0 0) .lf) (.nd .lf (.row [(.sl k7 0 0 1 1),(.sl k8 0 0 2 2)] 2
  34 false 0 0 0) .lf)) (.nd (.nd .lf (.row [(.nat .i64 1),(.nat .i64 1)] 2 3 false 0 0 0) (tl (tr (.nd .lf (.row [(.nat .i64 1)] 1 3 false 0 0 0)
  .lf)))) (.row [(.nat .i64 3)] 1 3 false 0 0 0) (tl (tl (tr (.nd .lf (.row [(.sl k99 0 0 1 1),(.nat .i64 2),(.nat .i64 0),(.sl k103 0 0 1 1),(.nat
  .i64 3),(.nat .i64 0),(.sl k106 0 0 1 1),(.nat .i64 1),(.nat .i64 1),(.sl k5 0 0 2 2),(.nat .i64 3),(.nat .i64 2)] 12 143 true 0 0 0) .lf)))))) (tn
  (.nd (.nd .lf (.row [(.nat .i64 1)] 1 3 false 0 0 0) .lf) (.row [(.nat .i64 1),(.nat .i64 2)] 2 3 false 0 0 0) (.nd .lf (.row [(.sl k9 0 0 1 1),(.sl
  k10 0 0 2 2)] 2 34 false 0 0 0) (tr (tl (.nd .lf (.row [(.so k102 12 0 4 0),(.so k127 9 0 3 0),(.so k151 12 0 4 0)] 3 141 true 3 0 0) .lf))))) (.nd
  (.nd (tl (tr (.nd .lf (.row [(.nat .i64 2)] 1 3 false 0 0 0) .lf))) (.row [(.sl k5 0 0 2 2),(.sl k6 0 0 1 1)] 2 34 false 0 0 0) (tr (tl (.nd .lf
  (.row [(.so k93 3 0 3 0),(.so k95 3 0 3 0),(.so k97 3 0 3 0),(.ref 0 k90)] 4 94 false 0 0 0) .lf)))) (.row [(.nat .i64 3)] 1 3 false 0 0 0) (tn (tn
  (tr (.nd .lf (.row [(.nat .i64 3)] 1 3 false 0 0 0) .lf)) (tl (tl (.nd .lf (.row [(.sl k146 0 0 1 1),(.nat .i64 2),(.nat .i64 0),(.sl k152 0 0 1
  1),(.nat .i64 1),(.nat .i64 1),(.sl k159 0 0 1 1),(.nat .i64 3),(.nat .i64 0),(.sl k5 0 0 2 2),(.nat .i64 3),(.nat .i64 2)] 12 143 true 0 0 0)
  .lf)))) (tr (tn (.nd .lf (.row [(.bool true),(.bool true),(.bool true)] 3 4 true 0 0 0) .lf) (.nd .lf (.row [(.sl k122 0 0 1 1),(.nat .i64 3),(.nat
  .i64 0),(.sl k132 0 0 1 1),(.nat .i64 1),(.nat .i64 1),(.sl k5 0 0 2 2),(.nat .i64 3),(.nat .i64 2)] 9 143 true 0 0 0) .lf))))))), k304⟩
def a0_105 : S := ⟨(tn (tn (tn (.nd .lf (.row [(.nat .i64 1),(.nat .i64 2)] 2 3 false 0 0 0) .lf) (.nd .lf (.row [(.sl k7 0 0 1 1),(.sl k8 0 0 2 2)] 2
  34 false 0 0 0) .lf)) (.nd (.nd .lf (.row [(.nat .i64 1),(.nat .i64 1)] 2 3 false 0 0 0) (tl (tr (.nd .lf (.row [(.nat .i64 1)] 1 3 false 0 0 0)
  .lf)))) (.row [(.nat .i64 3)] 1 3 false 0 0 0) (tl (tl (tr (.nd .lf (.row [(.sl k99 0 0 1 1),(.nat .i64 2),(.nat .i64 0),(.sl k103 0 0 1 1),(.nat
  .i64 3),(.nat .i64 0),(.sl k106 0 0 1 1),(.nat .i64 1),(.nat .i64 1),(.sl k5 0 0 2 2),(.nat .i64 3),(.nat .i64 2)] 12 143 true 0 0 0) .lf)))))) (tn
  (.nd (.nd .lf (.row [(.nat .i64 1)] 1 3 false 0 0 0) .lf) (.row [(.nat .i64 1),(.nat .i64 2)] 2 3 false 0 0 0) (.nd .lf (.row [(.sl k9 0 0 1 1),(.sl
  k10 0 0 2 2)] 2 34 false 0 0 0) (tr (tl (.nd .lf (.row [(.so k102 12 0 4 0),(.so k127 9 0 3 0),(.so k151 12 0 4 0)] 3 141 true 3 0 0) .lf))))) (.nd
  (.nd (tl (tr (.nd .lf (.row [(.nat .i64 2)] 1 3 false 0 0 0) .lf))) (.row [(.sl k5 0 0 2 2),(.sl k6 0 0 1 1)] 2 34 false 0 0 0) (tr (tl (.nd .lf
  (.row [(.so k93 3 0 3 0),(.so k95 3 0 3 0),(.so k97 3 0 3 0),(.ref 0 k90)] 4 94 false 0 0 0) .lf)))) (.row [(.nat .i64 3)] 1 3 false 0 0 0) (tn (tn
  (tr (.nd .lf (.row [(.nat .i64 3)] 1 3 false 0 0 0) .lf)) (tl (tl (.nd .lf (.row [(.sl k146 0 0 1 1),(.nat .i64 2),(.nat .i64 0),(.sl k152 0 0 1
  1),(.nat .i64 3),(.nat .i64 0),(.sl k157 0 0 1 1),(.nat .i64 1),(.nat .i64 1),(.sl k5 0 0 2 2),(.nat .i64 3),(.nat .i64 2)] 12 143 true 0 0 0)
  .lf)))) (tr (tn (.nd .lf (.row [(.bool true),(.bool true),(.bool true)] 3 4 true 0 0 0) .lf) (.nd .lf (.row [(.sl k122 0 0 1 1),(.nat .i64 3),(.nat
  .i64 0),(.sl k132 0 0 1 1),(.nat .i64 1),(.nat .i64 1),(.sl k5 0 0 2 2),(.nat .i64 3),(.nat .i64 2)] 9 143 true 0 0 0) .lf))))))), k305⟩
def a0_106 : S := ⟨(tn (tn (tn (.nd .lf (.row [(.nat .i64 1),(.nat .i64 2)] 2 3 false 0 0 0) .lf) (.nd .lf (.row [(.sl k7 0 0 1 1),(.sl k8 0 0 2 2)] 2
  34 false 0 0 0) .lf)) (.nd (.nd .lf (.row [(.nat .i64 1),(.nat .i64 1)] 2 3 false 0 0 0) (tl (tr (.nd .lf (.row [(.nat .i64 1)] 1 3 false 0 0 0)
  .lf)))) (.row [(.nat .i64 3)] 1 3 false 0 0 0) (tl (tl (tr (.nd .lf (.row [(.sl k99 0 0 1 1),(.nat .i64 2),(.nat .i64 0),(.sl k103 0 0 1 1),(.nat
  .i64 3),(.nat .i64 0),(.sl k106 0 0 1 1),(.nat .i64 1),(.nat .i64 1),(.sl k5 0 0 2 2),(.nat .i64 3),(.nat .i64 2)] 12 143 true 0 0 0) .lf)))))) (tn
  (.nd (.nd .lf (.row [(.nat .i64 1)] 1 3 false 0 0 0) .lf) (.row [(.nat .i64 1),(.nat .i64 2)] 2 3 false 0 0 0) (.nd .lf (.row [(.sl k9 0 0 1 1),(.sl
  k10 0 0 2 2)] 2 34 false 0 0 0) (tr (tl (.nd .lf (.row [(.so k102 12 0 4 0),(.so k127 9 0 3 0),(.so k151 12 0 4 0)] 3 141 true 3 0 0) .lf))))) (.nd
  (.nd (tl (tr (.nd .lf (.row [(.nat .i64 2)] 1 3 false 0 0 0) .lf))) (.row [(.sl k5 0 0 2 2),(.sl k6 0 0 1 1)] 2 34 false 0 0 0) (tr (tl (.nd .lf
  (.row [(.so k93 3 0 3 0),(.so k95 3 0 3 0),(.so k97 3 0 3 0),(.ref 0 k90)] 4 94 false 0 0 0) .lf)))) (.row [(.nat .i64 3)] 1 3 false 0 0 0) (tn (tn
  (tr (.nd .lf (.row [(.nat .i64 3)] 1 3 false 0 0 0) .lf)) (tl (tl (.nd .lf (.row [(.sl k146 0 0 1 1),(.nat .i64 3),(.nat .i64 0),(.sl k152 0 0 1
  1),(.nat .i64 1),(.nat .i64 1),(.sl k159 0 0 1 1),(.nat .i64 2),(.nat .i64 0),(.sl k5 0 0 2 2),(.nat .i64 3),(.nat .i64 2)] 12 143 true 0 0 0)
  .lf)))) (tr (tn (.nd .lf (.row [(.bool true),(.bool true),(.bool true)] 3 4 true 0 0 0) .lf) (.nd .lf (.row [(.sl k122 0 0 1 1),(.nat .i64 3),(.nat
  .i64 0),(.sl k132 0 0 1 1),(.nat .i64 1),(.nat .i64 1),(.sl k5 0 0 2 2),(.nat .i64 3),(.nat .i64 2)] 9 143 true 0 0 0) .lf))))))), k306⟩
def a0_107 : S := ⟨(tn (tn (tn (.nd .lf (.row [(.nat .i64 1),(.nat .i64 2)] 2 3 false 0 0 0) .lf) (.nd .lf (.row [(.sl k7 0 0 1 1),(.sl k8 0 0 2 2)] 2
  34 false 0 0 0) .lf)) (.nd (.nd .lf (.row [(.nat .i64 1),(.nat .i64 1)] 2 3 false 0 0 0) .lf) (.row [(.nat .i64 3)] 1 3 false 0 0 0) (tl (tl (tr
  (.nd .lf (.row [(.sl k99 0 0 1 1),(.nat .i64 2),(.nat .i64 0),(.sl k103 0 0 1 1),(.nat .i64 1),(.nat .i64 1),(.sl k111 0 0 1 1),(.nat .i64 3),(.nat
  .i64 0),(.sl k5 0 0 2 2),(.nat .i64 3),(.nat .i64 2)] 12 143 true 0 0 0) .lf)))))) (tn (.nd (.nd .lf (.row [(.nat .i64 1)] 1 3 false 0 0 0) .lf)
  (.row [(.nat .i64 1),(.nat .i64 2)] 2 3 false 0 0 0) (.nd .lf (.row [(.sl k9 0 0 1 1),(.sl k10 0 0 2 2)] 2 34 false 0 0 0) (tr (tl (.nd .lf (.row
  [(.so k102 12 0 4 0),(.so k127 9 0 3 0),(.so k151 12 0 4 0)] 3 141 true 3 0 0) .lf))))) (.nd (.nd (tl (tr (.nd .lf (.row [(.nat .i64 2)] 1 3 false 0
  0 0) .lf))) (.row [(.sl k5 0 0 2 2),(.sl k6 0 0 1 1)] 2 34 false 0 0 0) (tr (tl (.nd .lf (.row [(.so k93 3 0 3 0),(.so k95 3 0 3 0),(.so k97 3 0 3
  0),(.ref 0 k90)] 4 94 false 0 0 0) .lf)))) (.row [(.nat .i64 3)] 1 3 false 0 0 0) (tn (tn (tr (.nd .lf (.row [(.nat .i64 1)] 1 3 false 0 0 0) .lf))
  (tl (tl (.nd .lf (.row [(.sl k146 0 0 1 1),(.nat .i64 3),(.nat .i64 0),(.sl k152 0 0 1 1),(.nat .i64 2),(.nat .i64 0),(.sl k157 0 0 1 1),(.nat .i64
  1),(.nat .i64 1),(.sl k5 0 0 2 2),(.nat .i64 3),(.nat .i64 2)] 12 143 true 0 0 0) .lf)))) (tn (tr (.nd .lf (.row [(.nat .i64 3)] 1 3 false 0 0 0)
  .lf)) (tn (.nd .lf (.row [(.bool true),(.bool true),(.bool true)] 3 4 true 0 0 0) .lf) (.nd .lf (.row [(.sl k122 0 0 1 1),(.nat .i64 3),(.nat .i64
  0),(.sl k132 0 0 1 1),(.nat .i64 1),(.nat .i64 1),(.sl k5 0 0 2 2),(.nat .i64 3),(.nat .i64 2)] 9 143 true 0 0 0) .lf))))))), k307⟩
def a0_108 : S := ⟨(tn (tn (tn (.nd .lf (.row [(.nat .i64 1),(.nat .i64 2)] 2 3 false 0 0 0) .lf) (.nd .lf (.row [(.sl k7 0 0 1 1),(.sl k8 0 0 2 2)] 2
  34 false 0 0 0) .lf)) (.nd (.nd .lf (.row [(.nat .i64 1),(.nat .i64 1)] 2 3 false 0 0 0) .lf) (.row [(.nat .i64 3)] 1 3 false 0 0 0) (tl (tl (tr
  (.nd .lf (.row [(.sl k99 0 0 1 1),(.nat .i64 2),(.nat .i64 0),(.sl k103 0 0 1 1),(.nat .i64 1),(.nat .i64 1),(.sl k111 0 0 1 1),(.nat .i64 3),(.nat
  .i64 0),(.sl k5 0 0 2 2),(.nat .i64 3),(.nat .i64 2)] 12 143 true 0 0 0) .lf)))))) (tn (.nd (.nd (tl (tl (tl (.nd .lf (.row [(.sl k122 0 0 1
  1),(.nat .i64 1),(.nat .i64 1),(.sl k134 0 0 1 1),(.nat .i64 3),(.nat .i64 0),(.sl k5 0 0 2 2),(.nat .i64 3),(.nat .i64 2)] 9 143 true 0 0 0)
  .lf)))) (.row [(.nat .i64 1)] 1 3 false 0 0 0) .lf) (.row [(.nat .i64 1),(.nat .i64 2)] 2 3 false 0 0 0) (.nd .lf (.row [(.sl k9 0 0 1 1),(.sl k10 0
  0 2 2)] 2 34 false 0 0 0) (tr (tl (.nd .lf (.row [(.so k102 12 0 4 0),(.so k129 9 0 3 0),(.so k151 12 0 4 0)] 3 141 true 3 0 0) .lf))))) (.nd (.nd
  (tl (tr (.nd .lf (.row [(.nat .i64 2)] 1 3 false 0 0 0) .lf))) (.row [(.sl k5 0 0 2 2),(.sl k6 0 0 1 1)] 2 34 false 0 0 0) (tr (tl (.nd .lf (.row
  [(.so k93 3 0 3 0),(.so k95 3 0 3 0),(.so k97 3 0 3 0),(.ref 0 k90)] 4 94 false 0 0 0) .lf)))) (.row [(.nat .i64 3)] 1 3 false 0 0 0) (tn (tn (tr
  (.nd .lf (.row [(.nat .i64 1)] 1 3 false 0 0 0) .lf)) (tl (tl (.nd .lf (.row [(.sl k146 0 0 1 1),(.nat .i64 3),(.nat .i64 0),(.sl k152 0 0 1
  1),(.nat .i64 1),(.nat .i64 1),(.sl k159 0 0 1 1),(.nat .i64 2),(.nat .i64 0),(.sl k5 0 0 2 2),(.nat .i64 3),(.nat .i64 2)] 12 143 true 0 0 0)
  .lf)))) (tn (tr (.nd .lf (.row [(.nat .i64 3)] 1 3 false 0 0 0) .lf)) (tl (.nd .lf (.row [(.bool true),(.bool true),(.bool true)] 3 4 true 0 0 0)
  .lf))))))), k308⟩
def a0_109 : S := ⟨(tn (tn (tn (.nd .lf (.row [(.nat .i64 1),(.nat .i64 2)] 2 3 false 0 0 0) .lf) (.nd .lf (.row [(.sl k7 0 0 1 1),(.sl k8 0 0 2 2)] 2
  34 false 0 0 0) .lf)) (.nd (.nd .lf (.row [(.nat .i64 1),(.nat .i64 1)] 2 3 false 0 0 0) .lf) (.row [(.nat .i64 3)] 1 3 false 0 0 0) (tl (tl (tr
  (.nd .lf (.row [(.sl k99 0 0 1 1),(.nat .i64 2),(.nat .i64 0),(.sl k103 0 0 1 1),(.nat .i64 1),(.nat .i64 1),(.sl k111 0 0 1 1),(.nat .i64 3),(.nat
  .i64 0),(.sl k5 0 0 2 2),(.nat .i64 3),(.nat .i64 2)] 12 143 true 0 0 0) .lf)))))) (tn (.nd (.nd (tl (tl (tl (.nd .lf (.row [(.sl k122 0 0 1
  1),(.nat .i64 1),(.nat .i64 1),(.sl k134 0 0 1 1),(.nat .i64 3),(.nat .i64 0),(.sl k5 0 0 2 2),(.nat .i64 3),(.nat .i64 2)] 9 143 true 0 0 0)
  .lf)))) (.row [(.nat .i64 1)] 1 3 false 0 0 0) .lf) (.row [(.nat .i64 1),(.nat .i64 2)] 2 3 false 0 0 0) (.nd .lf (.row [(.sl k9 0 0 1 1),(.sl k10 0
  0 2 2)] 2 34 false 0 0 0) (tr (tl (.nd .lf (.row [(.so k102 12 0 4 0),(.so k129 9 0 3 0),(.so k151 12 0 4 0)] 3 141 true 3 0 0) .lf))))) (.nd (.nd
  (tl (tr (.nd .lf (.row [(.nat .i64 2)] 1 3 false 0 0 0) .lf))) (.row [(.sl k5 0 0 2 2),(.sl k6 0 0 1 1)] 2 34 false 0 0 0) (tr (tl (.nd .lf (.row
  [(.so k93 3 0 3 0),(.so k95 3 0 3 0),(.so k97 3 0 3 0),(.ref 0 k90)] 4 94 false 0 0 0) .lf)))) (.row [(.nat .i64 3)] 1 3 false 0 0 0) (tn (tn (tr
  (.nd .lf (.row [(.nat .i64 1)] 1 3 false 0 0 0) .lf)) (tl (tl (.nd .lf (.row [(.sl k146 0 0 1 1),(.nat .i64 2),(.nat .i64 0),(.sl k152 0 0 1
  1),(.nat .i64 3),(.nat .i64 0),(.sl k157 0 0 1 1),(.nat .i64 1),(.nat .i64 1),(.sl k5 0 0 2 2),(.nat .i64 3),(.nat .i64 2)] 12 143 true 0 0 0)
  .lf)))) (tn (tr (.nd .lf (.row [(.nat .i64 3)] 1 3 false 0 0 0) .lf)) (tl (.nd .lf (.row [(.bool true),(.bool true),(.bool true)] 3 4 true 0 0 0)
  .lf))))))), k309⟩
def a0_110 : S := ⟨(tn (tn (tn (.nd .lf (.row [(.nat .i64 1),(.nat .i64 2)] 2 3 false 0 0 0) .lf) (.nd .lf (.row [(.sl k7 0 0 1 1),(.sl k8 0 0 2 2)] 2
  34 false 0 0 0) .lf)) (.nd (.nd .lf (.row [(.nat .i64 1),(.nat .i64 1)] 2 3 false 0 0 0) .lf) (.row [(.nat .i64 3)] 1 3 false 0 0 0) (tl (tl (tr
  (.nd .lf (.row [(.sl k99 0 0 1 1),(.nat .i64 2),(.nat .i64 0),(.sl k103 0 0 1 1),(.nat .i64 1),(.nat .i64 1),(.sl k111 0 0 1 1),(.nat .i64 3),(.nat
  .i64 0),(.sl k5 0 0 2 2),(.nat .i64 3),(.nat .i64 2)] 12 143 true 0 0 0) .lf)))))) (tn (.nd (.nd (tl (tl (tl (.nd .lf (.row [(.sl k122 0 0 1
  1),(.nat .i64 1),(.nat .i64 1),(.sl k134 0 0 1 1),(.nat .i64 3),(.nat .i64 0),(.sl k5 0 0 2 2),(.nat .i64 3),(.nat .i64 2)] 9 143 true 0 0 0)
  .lf)))) (.row [(.nat .i64 1)] 1 3 false 0 0 0) .lf) (.row [(.nat .i64 1),(.nat .i64 2)] 2 3 false 0 0 0) (.nd .lf (.row [(.sl k9 0 0 1 1),(.sl k10 0
  0 2 2)] 2 34 false 0 0 0) (tr (tl (.nd .lf (.row [(.so k102 12 0 4 0),(.so k129 9 0 3 0),(.so k151 12 0 4 0)] 3 141 true 3 0 0) .lf))))) (.nd (.nd
  (tl (tr (.nd .lf (.row [(.nat .i64 2)] 1 3 false 0 0 0) .lf))) (.row [(.sl k5 0 0 2 2),(.sl k6 0 0 1 1)] 2 34 false 0 0 0) (tr (tl (.nd .lf (.row
  [(.so k93 3 0 3 0),(.so k95 3 0 3 0),(.so k97 3 0 3 0),(.ref 0 k90)] 4 94 false 0 0 0) .lf)))) (.row [(.nat .i64 3)] 1 3 false 0 0 0) (tn (tn (tr
  (.nd .lf (.row [(.nat .i64 1)] 1 3 false 0 0 0) .lf)) (tl (tl (.nd .lf (.row [(.sl k146 0 0 1 1),(.nat .i64 2),(.nat .i64 0),(.sl k152 0 0 1
  1),(.nat .i64 1),(.nat .i64 1),(.sl k159 0 0 1 1),(.nat .i64 3),(.nat .i64 0),(.sl k5 0 0 2 2),(.nat .i64 3),(.nat .i64 2)] 12 143 true 0 0 0)
  .lf)))) (tn (tr (.nd .lf (.row [(.nat .i64 3)] 1 3 false 0 0 0) .lf)) (tl (.nd .lf (.row [(.bool true),(.bool true),(.bool true)] 3 4 true 0 0 0)
  .lf))))))), k310⟩
def a0_111 : S := ⟨(tn (tn (tn (.nd .lf (.row [(.nat .i64 1),(.nat .i64 2)] 2 3 false 0 0 0) .lf) (.nd .lf (.row [(.sl k7 0 0 1 1),(.sl k8 0 0 2 2)] 2
  34 false 0 0 0) .lf)) (.nd (.nd .lf (.row [(.nat .i64 1),(.nat .i64 1)] 2 3 false 0 0 0) .lf) (.row [(.nat .i64 3)] 1 3 false 0 0 0) (tl (tl (tr
  (.nd .lf (.row [(.sl k99 0 0 1 1),(.nat .i64 2),(.nat .i64 0),(.sl k103 0 0 1 1),(.nat .i64 1),(.nat .i64 1),(.sl k111 0 0 1 1),(.nat .i64 3),(.nat
  .i64 0),(.sl k5 0 0 2 2),(.nat .i64 3),(.nat .i64 2)] 12 143 true 0 0 0) .lf)))))) (tn (.nd (.nd (tl (tl (tl (.nd .lf (.row [(.sl k122 0 0 1
  1),(.nat .i64 1),(.nat .i64 1),(.sl k134 0 0 1 1),(.nat .i64 3),(.nat .i64 0),(.sl k5 0 0 2 2),(.nat .i64 3),(.nat .i64 2)] 9 143 true 0 0 0)
  .lf)))) (.row [(.nat .i64 1)] 1 3 false 0 0 0) (tr (tl (tl (.nd .lf (.row [(.sl k146 0 0 1 1),(.nat .i64 1),(.nat .i64 1),(.sl k154 0 0 1 1),(.nat
  .i64 3),(.nat .i64 0),(.sl k159 0 0 1 1),(.nat .i64 2),(.nat .i64 0),(.sl k5 0 0 2 2),(.nat .i64 3),(.nat .i64 2)] 12 143 true 0 0 0) .lf))))) (.row
  [(.nat .i64 1),(.nat .i64 2)] 2 3 false 0 0 0) (.nd .lf (.row [(.sl k9 0 0 1 1),(.sl k10 0 0 2 2)] 2 34 false 0 0 0) (tr (tl (.nd .lf (.row [(.so
  k102 12 0 4 0),(.so k129 9 0 3 0),(.so k153 12 0 4 0)] 3 141 true 3 0 0) .lf))))) (.nd (.nd (tl (tr (.nd .lf (.row [(.nat .i64 2)] 1 3 false 0 0 0)
  .lf))) (.row [(.sl k5 0 0 2 2),(.sl k6 0 0 1 1)] 2 34 false 0 0 0) (tr (tl (.nd .lf (.row [(.so k93 3 0 3 0),(.so k95 3 0 3 0),(.so k97 3 0 3
  0),(.ref 0 k90)] 4 94 false 0 0 0) .lf)))) (.row [(.nat .i64 3)] 1 3 false 0 0 0) (tn (tl (tr (.nd .lf (.row [(.nat .i64 1)] 1 3 false 0 0 0) .lf)))
  (tn (tr (.nd .lf (.row [(.nat .i64 3)] 1 3 false 0 0 0) .lf)) (tl (.nd .lf (.row [(.bool true),(.bool true),(.bool true)] 3 4 true 0 0 0)
  .lf))))))), k311⟩
def a0_112 : S := ⟨(tn (tn (tn (.nd .lf (.row [(.nat .i64 1),(.nat .i64 2)] 2 3 false 0 0 0) .lf) (.nd .lf (.row [(.sl k7 0 0 1 1),(.sl k8 0 0 2 2)] 2
  34 false 0 0 0) .lf)) (.nd (.nd .lf (.row [(.nat .i64 1),(.nat .i64 1)] 2 3 false 0 0 0) .lf) (.row [(.nat .i64 3)] 1 3 false 0 0 0) (tl (tl (tr
  (.nd .lf (.row [(.sl k99 0 0 1 1),(.nat .i64 2),(.nat .i64 0),(.sl k103 0 0 1 1),(.nat .i64 1),(.nat .i64 1),(.sl k111 0 0 1 1),(.nat .i64 3),(.nat
  .i64 0),(.sl k5 0 0 2 2),(.nat .i64 3),(.nat .i64 2)] 12 143 true 0 0 0) .lf)))))) (tn (.nd (.nd (tl (tl (tl (.nd .lf (.row [(.sl k122 0 0 1
  1),(.nat .i64 1),(.nat .i64 1),(.sl k134 0 0 1 1),(.nat .i64 3),(.nat .i64 0),(.sl k5 0 0 2 2),(.nat .i64 3),(.nat .i64 2)] 9 143 true 0 0 0)
  .lf)))) (.row [(.nat .i64 1)] 1 3 false 0 0 0) (tr (tl (tl (.nd .lf (.row [(.sl k146 0 0 1 1),(.nat .i64 1),(.nat .i64 1),(.sl k154 0 0 1 1),(.nat
  .i64 2),(.nat .i64 0),(.sl k159 0 0 1 1),(.nat .i64 3),(.nat .i64 0),(.sl k5 0 0 2 2),(.nat .i64 3),(.nat .i64 2)] 12 143 true 0 0 0) .lf))))) (.row
  [(.nat .i64 1),(.nat .i64 2)] 2 3 false 0 0 0) (.nd .lf (.row [(.sl k9 0 0 1 1),(.sl k10 0 0 2 2)] 2 34 false 0 0 0) (tr (tl (.nd .lf (.row [(.so
  k102 12 0 4 0),(.so k129 9 0 3 0),(.so k153 12 0 4 0)] 3 141 true 3 0 0) .lf))))) (.nd (.nd (tl (tr (.nd .lf (.row [(.nat .i64 2)] 1 3 false 0 0 0)
  .lf))) (.row [(.sl k5 0 0 2 2),(.sl k6 0 0 1 1)] 2 34 false 0 0 0) (tr (tl (.nd .lf (.row [(.so k93 3 0 3 0),(.so k95 3 0 3 0),(.so k97 3 0 3
  0),(.ref 0 k90)] 4 94 false 0 0 0) .lf)))) (.row [(.nat .i64 3)] 1 3 false 0 0 0) (tn (tl (tr (.nd .lf (.row [(.nat .i64 1)] 1 3 false 0 0 0) .lf)))
  (tn (tr (.nd .lf (.row [(.nat .i64 3)] 1 3 false 0 0 0) .lf)) (tl (.nd .lf (.row [(.bool true),(.bool true),(.bool true)] 3 4 true 0 0 0)
  .lf))))))), k312⟩
def a0_113 : S := ⟨(tn (tn (tn (.nd .lf (.row [(.nat .i64 1),(.nat .i64 2)] 2 3 false 0 0 0) .lf) (.nd .lf (.row [(.sl k7 0 0 1 1),(.sl k8 0 0 2 2)] 2
  34 false 0 0 0) .lf)) (.nd (.nd .lf (.row [(.nat .i64 1),(.nat .i64 1)] 2 3 false 0 0 0) .lf) (.row [(.nat .i64 3)] 1 3 false 0 0 0) (tl (tl (tr
  (.nd .lf (.row [(.sl k99 0 0 1 1),(.nat .i64 2),(.nat .i64 0),(.sl k103 0 0 1 1),(.nat .i64 1),(.nat .i64 1),(.sl k111 0 0 1 1),(.nat .i64 3),(.nat
  .i64 0),(.sl k5 0 0 2 2),(.nat .i64 3),(.nat .i64 2)] 12 143 true 0 0 0) .lf)))))) (tn (.nd (.nd (tl (tl (tl (.nd .lf (.row [(.sl k122 0 0 1
  1),(.nat .i64 1),(.nat .i64 1),(.sl k134 0 0 1 1),(.nat .i64 3),(.nat .i64 0),(.sl k5 0 0 2 2),(.nat .i64 3),(.nat .i64 2)] 9 143 true 0 0 0)
  .lf)))) (.row [(.nat .i64 1)] 1 3 false 0 0 0) .lf) (.row [(.nat .i64 1),(.nat .i64 2)] 2 3 false 0 0 0) (.nd .lf (.row [(.sl k9 0 0 1 1),(.sl k10 0
  0 2 2)] 2 34 false 0 0 0) (tr (tl (.nd .lf (.row [(.so k102 12 0 4 0),(.so k129 9 0 3 0),(.so k151 12 0 4 0)] 3 141 true 3 0 0) .lf))))) (.nd (.nd
  (tl (tr (.nd .lf (.row [(.nat .i64 2)] 1 3 false 0 0 0) .lf))) (.row [(.sl k5 0 0 2 2),(.sl k6 0 0 1 1)] 2 34 false 0 0 0) (tr (tl (.nd .lf (.row
  [(.so k93 3 0 3 0),(.so k95 3 0 3 0),(.so k97 3 0 3 0),(.ref 0 k90)] 4 94 false 0 0 0) .lf)))) (.row [(.nat .i64 3)] 1 3 false 0 0 0) (tn (tn (tr
  (.nd .lf (.row [(.nat .i64 1)] 1 3 false 0 0 0) .lf)) (tl (tl (.nd .lf (.row [(.sl k146 0 0 1 1),(.nat .i64 3),(.nat .i64 0),(.sl k152 0 0 1
  1),(.nat .i64 2),(.nat .i64 0),(.sl k157 0 0 1 1),(.nat .i64 1),(.nat .i64 1),(.sl k5 0 0 2 2),(.nat .i64 3),(.nat .i64 2)] 12 143 true 0 0 0)
  .lf)))) (tn (tr (.nd .lf (.row [(.nat .i64 3)] 1 3 false 0 0 0) .lf)) (tl (.nd .lf (.row [(.bool true),(.bool true),(.bool true)] 3 4 true 0 0 0)
  .lf))))))), k313⟩
def a0_114 : S := ⟨(tn (tn (tn (.nd .lf (.row [(.nat .i64 1),(.nat .i64 2)] 2 3 false 0 0 0) .lf) (.nd .lf (.row [(.sl k7 0 0 1 1),(.sl k8 0 0 2 2)] 2
  34 false 0 0 0) .lf)) (.nd (.nd .lf (.row [(.nat .i64 1),(.nat .i64 1)] 2 3 false 0 0 0) .lf) (.row [(.nat .i64 3)] 1 3 false 0 0 0) (tl (tl (tr
  (.nd .lf (.row [(.sl k99 0 0 1 1),(.nat .i64 2),(.nat .i64 0),(.sl k103 0 0 1 1),(.nat .i64 1),(.nat .i64 1),(.sl k111 0 0 1 1),(.nat .i64 3),(.nat
  .i64 0),(.sl k5 0 0 2 2),(.nat .i64 3),(.nat .i64 2)] 12 143 true 0 0 0) .lf)))))) (tn (.nd (.nd (tl (tl (tl (.nd .lf (.row [(.sl k122 0 0 1
  1),(.nat .i64 1),(.nat .i64 1),(.sl k130 0 0 1 1),(.nat .i64 3),(.nat .i64 0),(.sl k5 0 0 2 2),(.nat .i64 3),(.nat .i64 2)] 9 143 true 0 0 0)
  .lf)))) (.row [(.nat .i64 1)] 1 3 false 0 0 0) .lf) (.row [(.nat .i64 1),(.nat .i64 2)] 2 3 false 0 0 0) (.nd .lf (.row [(.sl k9 0 0 1 1),(.sl k10 0
  0 2 2)] 2 34 false 0 0 0) (tr (tl (.nd .lf (.row [(.so k102 12 0 4 0),(.so k129 9 0 3 0),(.so k151 12 0 4 0)] 3 141 true 3 0 0) .lf))))) (.nd (.nd
  (tl (tr (.nd .lf (.row [(.nat .i64 2)] 1 3 false 0 0 0) .lf))) (.row [(.sl k5 0 0 2 2),(.sl k6 0 0 1 1)] 2 34 false 0 0 0) (tr (tl (.nd .lf (.row
  [(.so k93 3 0 3 0),(.so k95 3 0 3 0),(.so k97 3 0 3 0),(.ref 0 k90)] 4 94 false 0 0 0) .lf)))) (.row [(.nat .i64 3)] 1 3 false 0 0 0) (tn (tn (tr
  (.nd .lf (.row [(.nat .i64 1)] 1 3 false 0 0 0) .lf)) (tl (tl (.nd .lf (.row [(.sl k146 0 0 1 1),(.nat .i64 3),(.nat .i64 0),(.sl k152 0 0 1
  1),(.nat .i64 1),(.nat .i64 1),(.sl k159 0 0 1 1),(.nat .i64 2),(.nat .i64 0),(.sl k5 0 0 2 2),(.nat .i64 3),(.nat .i64 2)] 12 143 true 0 0 0)
  .lf)))) (tn (tr (.nd .lf (.row [(.nat .i64 3)] 1 3 false 0 0 0) .lf)) (tl (.nd .lf (.row [(.bool true),(.bool true),(.bool true)] 3 4 true 0 0 0)
  .lf))))))), k314⟩
def a0_115 : S := ⟨(tn (tn (tn (.nd .lf (.row [(.nat .i64 1),(.nat .i64 2)] 2 3 false 0 0 0) .lf) (.nd .lf (.row [(.sl k7 0 0 1 1),(.sl k8 0 0 2 2)] 2
  34 false 0 0 0) .lf)) (.nd (.nd .lf (.row [(.nat .i64 1),(.nat .i64 1)] 2 3 false 0 0 0) .lf) (.row [(.nat .i64 3)] 1 3 false 0 0 0) (tl (tl (tr
  (.nd .lf (.row [(.sl k99 0 0 1 1),(.nat .i64 2),(.nat .i64 0),(.sl k103 0 0 1 1),(.nat .i64 1),(.nat .i64 1),(.sl k111 0 0 1 1),(.nat .i64 3),(.nat
  .i64 0),(.sl k5 0 0 2 2),(.nat .i64 3),(.nat .i64 2)] 12 143 true 0 0 0) .lf)))))) (tn (.nd (.nd (tl (tl (tl (.nd .lf (.row [(.sl k122 0 0 1
  1),(.nat .i64 1),(.nat .i64 1),(.sl k130 0 0 1 1),(.nat .i64 3),(.nat .i64 0),(.sl k5 0 0 2 2),(.nat .i64 3),(.nat .i64 2)] 9 143 true 0 0 0)
  .lf)))) (.row [(.nat .i64 1)] 1 3 false 0 0 0) .lf) (.row [(.nat .i64 1),(.nat .i64 2)] 2 3 false 0 0 0) (.nd .lf (.row [(.sl k9 0 0 1 1),(.sl k10 0
  0 2 2)] 2 34 false 0 0 0) (tr (tl (.nd .lf (.row [(.so k102 12 0 4 0),(.so k129 9 0 3 0),(.so k151 12 0 4 0)] 3 141 true 3 0 0) .lf))))) (.nd (.nd
  (tl (tr (.nd .lf (.row [(.nat .i64 2)] 1 3 false 0 0 0) .lf))) (.row [(.sl k5 0 0 2 2),(.sl k6 0 0 1 1)] 2 34 false 0 0 0) (tr (tl (.nd .lf (.row
  [(.so k93 3 0 3 0),(.so k95 3 0 3 0),(.so k97 3 0 3 0),(.ref 0 k90)] 4 94 false 0 0 0) .lf)))) (.row [(.nat .i64 3)] 1 3 false 0 0 0) (tn (tn (tr
  (.nd .lf (.row [(.nat .i64 1)] 1 3 false 0 0 0) .lf)) (tl (tl (.nd .lf (.row [(.sl k146 0 0 1 1),(.nat .i64 2),(.nat .i64 0),(.sl k152 0 0 1
  1),(.nat .i64 3),(.nat .i64 0),(.sl k157 0 0 1 1),(.nat .i64 1),(.nat .i64 1),(.sl k5 0 0 2 2),(.nat .i64 3),(.nat .i64 2)] 12 143 true 0 0 0)
  .lf)))) (tn (tr (.nd .lf (.row [(.nat .i64 3)] 1 3 false 0 0 0) .lf)) (tl (.nd .lf (.row [(.bool true),(.bool true),(.bool true)] 3 4 true 0 0 0)
  .lf))))))), k315⟩
def a0_116 : S := ⟨(tn (tn (tn (.nd .lf (.row [(.nat .i64 1),(.nat .i64 2)] 2 3 false 0 0 0) .lf) (.nd .lf (.row [(.sl k7 0 0 1 1),(.sl k8 0 0 2 2)] 2
  34 false 0 0 0) .lf)) (.nd (.nd .lf (.row [(.nat .i64 1),(.nat .i64 1)] 2 3 false 0 0 0) .lf) (.row [(.nat .i64 3)] 1 3 false 0 0 0) (tl (tl (tr
  (.nd .lf (.row [(.sl k99 0 0 1 1),(.nat .i64 2),(.nat .i64 0),(.sl k103 0 0 1 1),(.nat .i64 1),(.nat .i64 1),(.sl k111 0 0 1 1),(.nat .i64 3),(.nat
  .i64 0),(.sl k5 0 0 2 2),(.nat .i64 3),(.nat .i64 2)] 12 143 true 0 0 0) .lf)))))) (tn (.nd (.nd (tl (tl (tl (.nd .lf (.row [(.sl k122 0 0 1
  1),(.nat .i64 1),(.nat .i64 1),(.sl k130 0 0 1 1),(.nat .i64 3),(.nat .i64 0),(.sl k5 0 0 2 2),(.nat .i64 3),(.nat .i64 2)] 9 143 true 0 0 0)
  .lf)))) (.row [(.nat .i64 1)] 1 3 false 0 0 0) .lf) (.row [(.nat .i64 1),(.nat .i64 2)] 2 3 false 0 0 0) (.nd .lf (.row [(.sl k9 0 0 1 1),(.sl k10 0
  0 2 2)] 2 34 false 0 0 0) (tr (tl (.nd .lf (.row [(.so k102 12 0 4 0),(.so k129 9 0 3 0),(.so k151 12 0 4 0)] 3 141 true 3 0 0) .lf))))) (.nd (.nd
  (tl (tr (.nd .lf (.row [(.nat .i64 2)] 1 3 false 0 0 0) .lf))) (.row [(.sl k5 0 0 2 2),(.sl k6 0 0 1 1)] 2 34 false 0 0 0) (tr (tl (.nd .lf (.row
  [(.so k93 3 0 3 0),(.so k95 3 0 3 0),(.so k97 3 0 3 0),(.ref 0 k90)] 4 94 false 0 0 0) .lf)))) (.row [(.nat .i64 3)] 1 3 false 0 0 0) (tn (tn (tr
  (.nd .lf (.row [(.nat .i64 1)] 1 3 false 0 0 0) .lf)) (tl (tl (.nd .lf (.row [(.sl k146 0 0 1 1),(.nat .i64 2),(.nat .i64 0),(.sl k152 0 0 1
  1),(.nat .i64 1),(.nat .i64 1),(.sl k159 0 0 1 1),(.nat .i64 3),(.nat .i64 0),(.sl k5 0 0 2 2),(.nat .i64 3),(.nat .i64 2)] 12 143 true 0 0 0)
  .lf)))) (tn (tr (.nd .lf (.row [(.nat .i64 3)] 1 3 false 0 0 0) .lf)) (tl (.nd .lf (.row [(.bool true),(.bool true),(.bool true)] 3 4 true 0 0 0)
  .lf))))))), k316⟩
def a0_117 : S := ⟨(tn (tn (tn (.nd .lf (.row [(.nat .i64 1),(.nat .i64 2)] 2 3 false 0 0 0) .lf) (.nd .lf (.row [(.sl k7 0 0 1 1),(.sl k8 0 0 2 2)] 2
  34 false 0 0 0) .lf)) (.nd (.nd .lf (.row [(.nat .i64 1),(.nat .i64 1)] 2 3 false 0 0 0) .lf) (.row [(.nat .i64 3)] 1 3 false 0 0 0) (tl (tl (tr
  (.nd .lf (.row [(.sl k99 0 0 1 1),(.nat .i64 2),(.nat .i64 0),(.sl k103 0 0 1 1),(.nat .i64 1),(.nat .i64 1),(.sl k111 0 0 1 1),(.nat .i64 3),(.nat
  .i64 0),(.sl k5 0 0 2 2),(.nat .i64 3),(.nat .i64 2)] 12 143 true 0 0 0) .lf)))))) (tn (.nd (.nd (tl (tl (tl (.nd .lf (.row [(.sl k122 0 0 1
  1),(.nat .i64 1),(.nat .i64 1),(.sl k130 0 0 1 1),(.nat .i64 3),(.nat .i64 0),(.sl k5 0 0 2 2),(.nat .i64 3),(.nat .i64 2)] 9 143 true 0 0 0)
  .lf)))) (.row [(.nat .i64 1)] 1 3 false 0 0 0) (tr (tl (tl (.nd .lf (.row [(.sl k146 0 0 1 1),(.nat .i64 1),(.nat .i64 1),(.sl k154 0 0 1 1),(.nat
  .i64 3),(.nat .i64 0),(.sl k159 0 0 1 1),(.nat .i64 2),(.nat .i64 0),(.sl k5 0 0 2 2),(.nat .i64 3),(.nat .i64 2)] 12 143 true 0 0 0) .lf))))) (.row
  [(.nat .i64 1),(.nat .i64 2)] 2 3 false 0 0 0) (.nd .lf (.row [(.sl k9 0 0 1 1),(.sl k10 0 0 2 2)] 2 34 false 0 0 0) (tr (tl (.nd .lf (.row [(.so
  k102 12 0 4 0),(.so k129 9 0 3 0),(.so k153 12 0 4 0)] 3 141 true 3 0 0) .lf))))) (.nd (.nd (tl (tr (.nd .lf (.row [(.nat .i64 2)] 1 3 false 0 0 0)
  .lf))) (.row [(.sl k5 0 0 2 2),(.sl k6 0 0 1 1)] 2 34 false 0 0 0) (tr (tl (.nd .lf (.row [(.so k93 3 0 3 0),(.so k95 3 0 3 0),(.so k97 3 0 3
  0),(.ref 0 k90)] 4 94 false 0 0 0) .lf)))) (.row [(.nat .i64 3)] 1 3 false 0 0 0) (tn (tl (tr (.nd .lf (.row [(.nat .i64 1)] 1 3 false 0 0 0) .lf)))
  (tn (tr (.nd .lf (.row [(.nat .i64 3)] 1 3 false 0 0 0) .lf)) (tl (.nd .lf (.row [(.bool true),(.bool true),(.bool true)] 3 4 true 0 0 0)
  .lf))))))), k317⟩
def a0_118 : S := ⟨(tn (tn (tn (.nd .lf (.row [(.nat .i64 1),(.nat .i64 2)] 2 3 false 0 0 0) .lf) (.nd .lf (.row [(.sl k7 0 0 1 1),(.sl k8 0 0 2 2)] 2
  34 false 0 0 0) .lf)) (.nd (.nd .lf (.row [(.nat .i64 1),(.nat .i64 1)] 2 3 false 0 0 0) .lf) (.row [(.nat .i64 3)] 1 3 false 0 0 0) (tl (tl (tr
  (.nd .lf (.row [(.sl k99 0 0 1 1),(.nat .i64 2),(.nat .i64 0),(.sl k103 0 0 1 1),(.nat .i64 1),(.nat .i64 1),(.sl k111 0 0 1 1),(.nat .i64 3),(.nat
  .i64 0),(.sl k5 0 0 2 2),(.nat .i64 3),(.nat .i64 2)] 12 143 true 0 0 0) .lf)))))) (tn (.nd (.nd (tl (tl (tl (.nd .lf (.row [(.sl k122 0 0 1
  1),(.nat .i64 1),(.nat .i64 1),(.sl k130 0 0 1 1),(.nat .i64 3),(.nat .i64 0),(.sl k5 0 0 2 2),(.nat .i64 3),(.nat .i64 2)] 9 143 true 0 0 0)
  .lf)))) (.row [(.nat .i64 1)] 1 3 false 0 0 0) (tr (tl (tl (.nd .lf (.row [(.sl k146 0 0 1 1),(.nat .i64 1),(.nat .i64 1),(.sl k154 0 0 1 1),(.nat
  .i64 2),(.nat .i64 0),(.sl k159 0 0 1 1),(.nat .i64 3),(.nat .i64 0),(.sl k5 0 0 2 2),(.nat .i64 3),(.nat .i64 2)] 12 143 true 0 0 0) .lf))))) (.row
  [(.nat .i64 1),(.nat .i64 2)] 2 3 false 0 0 0) (.nd .lf (.row [(.sl k9 0 0 1 1),(.sl k10 0 0 2 2)] 2 34 false 0 0 0) (tr (tl (.nd .lf (.row [(.so
  k102 12 0 4 0),(.so k129 9 0 3 0),(.so k153 12 0 4 0)] 3 141 true 3 0 0) .lf))))) (.nd (.nd (tl (tr (.nd .lf (.row [(.nat .i64 2)] 1 3 false 0 0 0)
  .lf))) (.row [(.sl k5 0 0 2 2),(.sl k6 0 0 1 1)] 2 34 false 0 0 0) (tr (tl (.nd .lf (.row [(.so k93 3 0 3 0),(.so k95 3 0 3 0),(.so k97 3 0 3
  0),(.ref 0 k90)] 4 94 false 0 0 0) .lf)))) (.row [(.nat .i64 3)] 1 3 false 0 0 0) (tn (tl (tr (.nd .lf (.row [(.nat .i64 1)] 1 3 false 0 0 0) .lf)))
  (tn (tr (.nd .lf (.row [(.nat .i64 3)] 1 3 false 0 0 0) .lf)) (tl (.nd .lf (.row [(.bool true),(.bool true),(.bool true)] 3 4 true 0 0 0)
  .lf))))))), k318⟩
def a0_119 : S := ⟨(tn (tn (tn (.nd .lf (.row [(.nat .i64 1),(.nat .i64 2)] 2 3 false 0 0 0) .lf) (.nd .lf (.row [(.sl k7 0 0 1 1),(.sl k8 0 0 2 2)] 2
  34 false 0 0 0) .lf)) (.nd (.nd .lf (.row [(.nat .i64 1),(.nat .i64 1)] 2 3 false 0 0 0) .lf) (.row [(.nat .i64 3)] 1 3 false 0 0 0) (tl (tl (tr
  (.nd .lf (.row [(.sl k99 0 0 1 1),(.nat .i64 2),(.nat .i64 0),(.sl k103 0 0 1 1),(.nat .i64 1),(.nat .i64 1),(.sl k111 0 0 1 1),(.nat .i64 3),(.nat
  .i64 0),(.sl k5 0 0 2 2),(.nat .i64 3),(.nat .i64 2)] 12 143 true 0 0 0) .lf)))))) (tn (.nd (.nd (tl (tl (tl (.nd .lf (.row [(.sl k122 0 0 1
  1),(.nat .i64 1),(.nat .i64 1),(.sl k130 0 0 1 1),(.nat .i64 3),(.nat .i64 0),(.sl k5 0 0 2 2),(.nat .i64 3),(.nat .i64 2)] 9 143 true 0 0 0)
  .lf)))) (.row [(.nat .i64 1)] 1 3 false 0 0 0) .lf) (.row [(.nat .i64 1),(.nat .i64 2)] 2 3 false 0 0 0) (.nd .lf (.row [(.sl k9 0 0 1 1),(.sl k10 0
  0 2 2)] 2 34 false 0 0 0) (tr (tl (.nd .lf (.row [(.so k102 12 0 4 0),(.so k129 9 0 3 0),(.so k151 12 0 4 0)] 3 141 true 3 0 0) .lf))))) (.nd (.nd
  (tl (tr (.nd .lf (.row [(.nat .i64 2)] 1 3 false 0 0 0) .lf))) (.row [(.sl k5 0 0 2 2),(.sl k6 0 0 1 1)] 2 34 false 0 0 0) (tr (tl (.nd .lf (.row
  [(.so k93 3 0 3 0),(.so k95 3 0 3 0),(.so k97 3 0 3 0),(.ref 0 k90)] 4 94 false 0 0 0) .lf)))) (.row [(.nat .i64 3)] 1 3 false 0 0 0) (tn (tn (tr
  (.nd .lf (.row [(.nat .i64 1)] 1 3 false 0 0 0) .lf)) (tl (tl (.nd .lf (.row [(.sl k146 0 0 1 1),(.nat .i64 3),(.nat .i64 0),(.sl k152 0 0 1
  1),(.nat .i64 2),(.nat .i64 0),(.sl k157 0 0 1 1),(.nat .i64 1),(.nat .i64 1),(.sl k5 0 0 2 2),(.nat .i64 3),(.nat .i64 2)] 12 143 true 0 0 0)
  .lf)))) (tn (tr (.nd .lf (.row [(.nat .i64 3)] 1 3 false 0 0 0) .lf)) (tl (.nd .lf (.row [(.bool true),(.bool true),(.bool true)] 3 4 true 0 0 0)
  .lf))))))), k319⟩
def a0_120 : S := ⟨(tn (tn (tn (.nd .lf (.row [(.nat .i64 1),(.nat .i64 2)] 2 3 false 0 0 0) .lf) (.nd .lf (.row [(.sl k7 0 0 1 1),(.sl k8 0 0 2 2)] 2
  34 false 0 0 0) .lf)) (.nd (.nd .lf (.row [(.nat .i64 1),(.nat .i64 1)] 2 3 false 0 0 0) .lf) (.row [(.nat .i64 3)] 1 3 false 0 0 0) (tl (tl (tr
  (.nd .lf (.row [(.sl k99 0 0 1 1),(.nat .i64 2),(.nat .i64 0),(.sl k103 0 0 1 1),(.nat .i64 1),(.nat .i64 1),(.sl k111 0 0 1 1),(.nat .i64 3),(.nat
  .i64 0),(.sl k5 0 0 2 2),(.nat .i64 3),(.nat .i64 2)] 12 143 true 0 0 0) .lf)))))) (tn (.nd (.nd .lf (.row [(.nat .i64 1)] 1 3 false 0 0 0) .lf)
  (.row [(.nat .i64 1),(.nat .i64 2)] 2 3 false 0 0 0) (.nd (tl (tl (tl (.nd .lf (.row [(.sl k126 0 0 1 1),(.nat .i64 1),(.nat .i64 1),(.sl k134 0 0 1
  1),(.nat .i64 3),(.nat .i64 0),(.sl k5 0 0 2 2),(.nat .i64 3),(.nat .i64 2)] 9 143 true 0 0 0) .lf)))) (.row [(.sl k9 0 0 1 1),(.sl k10 0 0 2 2)] 2
  34 false 0 0 0) (tr (tl (.nd .lf (.row [(.so k102 12 0 4 0),(.so k133 9 0 3 0),(.so k151 12 0 4 0)] 3 141 true 3 0 0) .lf))))) (.nd (.nd (tl (tr
  (.nd .lf (.row [(.nat .i64 2)] 1 3 false 0 0 0) .lf))) (.row [(.sl k5 0 0 2 2),(.sl k6 0 0 1 1)] 2 34 false 0 0 0) (tr (tl (.nd .lf (.row [(.so k93
  3 0 3 0),(.so k95 3 0 3 0),(.so k97 3 0 3 0),(.ref 0 k90)] 4 94 false 0 0 0) .lf)))) (.row [(.nat .i64 3)] 1 3 false 0 0 0) (tn (tn (tr (.nd .lf
  (.row [(.nat .i64 1)] 1 3 false 0 0 0) .lf)) (tl (tl (.nd .lf (.row [(.sl k146 0 0 1 1),(.nat .i64 3),(.nat .i64 0),(.sl k152 0 0 1 1),(.nat .i64
  1),(.nat .i64 1),(.sl k159 0 0 1 1),(.nat .i64 2),(.nat .i64 0),(.sl k5 0 0 2 2),(.nat .i64 3),(.nat .i64 2)] 12 143 true 0 0 0) .lf)))) (tn (tr
  (.nd .lf (.row [(.nat .i64 3)] 1 3 false 0 0 0) .lf)) (tl (.nd .lf (.row [(.bool true),(.bool true),(.bool true)] 3 4 true 0 0 0) .lf))))))), k320⟩
def a0_121 : S := ⟨(tn (tn (tn (.nd .lf (.row [(.nat .i64 1),(.nat .i64 2)] 2 3 false 0 0 0) .lf) (.nd .lf (.row [(.sl k7 0 0 1 1),(.sl k8 0 0 2 2)] 2
  34 false 0 0 0) .lf)) (.nd (.nd .lf (.row [(.nat .i64 1),(.nat .i64 1)] 2 3 false 0 0 0) .lf) (.row [(.nat .i64 3)] 1 3 false 0 0 0) (tl (tl (tr
  (.nd .lf (.row [(.sl k99 0 0 1 1),(.nat .i64 2),(.nat .i64 0),(.sl k103 0 0 1 1),(.nat .i64 1),(.nat .i64 1),(.sl k111 0 0 1 1),(.nat .i64 3),(.nat
  .i64 0),(.sl k5 0 0 2 2),(.nat .i64 3),(.nat .i64 2)] 12 143 true 0 0 0) .lf)))))) (tn (.nd (.nd .lf (.row [(.nat .i64 1)] 1 3 false 0 0 0) .lf)
  (.row [(.nat .i64 1),(.nat .i64 2)] 2 3 false 0 0 0) (.nd (tl (tl (tl (.nd .lf (.row [(.sl k126 0 0 1 1),(.nat .i64 1),(.nat .i64 1),(.sl k134 0 0 1
  1),(.nat .i64 3),(.nat .i64 0),(.sl k5 0 0 2 2),(.nat .i64 3),(.nat .i64 2)] 9 143 true 0 0 0) .lf)))) (.row [(.sl k9 0 0 1 1),(.sl k10 0 0 2 2)] 2
  34 false 0 0 0) (tr (tl (.nd .lf (.row [(.so k102 12 0 4 0),(.so k133 9 0 3 0),(.so k151 12 0 4 0)] 3 141 true 3 0 0) .lf))))) (.nd (.nd (tl (tr
  (.nd .lf (.row [(.nat .i64 2)] 1 3 false 0 0 0) .lf))) (.row [(.sl k5 0 0 2 2),(.sl k6 0 0 1 1)] 2 34 false 0 0 0) (tr (tl (.nd .lf (.row [(.so k93
  3 0 3 0),(.so k95 3 0 3 0),(.so k97 3 0 3 0),(.ref 0 k90)] 4 94 false 0 0 0) .lf)))) (.row [(.nat .i64 3)] 1 3 false 0 0 0) (tn (tn (tr (.nd .lf
  (.row [(.nat .i64 1)] 1 3 false 0 0 0) .lf)) (tl (tl (.nd .lf (.row [(.sl k146 0 0 1 1),(.nat .i64 2),(.nat .i64 0),(.sl k152 0 0 1 1),(.nat .i64
  3),(.nat .i64 0),(.sl k157 0 0 1 1),(.nat .i64 1),(.nat .i64 1),(.sl k5 0 0 2 2),(.nat .i64 3),(.nat .i64 2)] 12 143 true 0 0 0) .lf)))) (tn (tr
  (.nd .lf (.row [(.nat .i64 3)] 1 3 false 0 0 0) .lf)) (tl (.nd .lf (.row [(.bool true),(.bool true),(.bool true)] 3 4 true 0 0 0) .lf))))))), k321⟩
def a0_122 : S := ⟨(tn (tn (tn (.nd .lf (.row [(.nat .i64 1),(.nat .i64 2)] 2 3 false 0 0 0) .lf) (.nd .lf (.row [(.sl k7 0 0 1 1),(.sl k8 0 0 2 2)] 2
  34 false 0 0 0) .lf)) (.nd (.nd .lf (.row [(.nat .i64 1),(.nat .i64 1)] 2 3 false 0 0 0) .lf) (.row [(.nat .i64 3)] 1 3 false 0 0 0) (tl (tl (tr
  (.nd .lf (.row [(.sl k99 0 0 1 1),(.nat .i64 2),(.nat .i64 0),(.sl k103 0 0 1 1),(.nat .i64 1),(.nat .i64 1),(.sl k111 0 0 1 1),(.nat .i64 3),(.nat
  .i64 0),(.sl k5 0 0 2 2),(.nat .i64 3),(.nat .i64 2)] 12 143 true 0 0 0) .lf)))))) (tn (.nd (.nd .lf (.row [(.nat .i64 1)] 1 3 false 0 0 0) .lf)
  (.row [(.nat .i64 1),(.nat .i64 2)] 2 3 false 0 0 0) (.nd (tl (tl (tl (.nd .lf (.row [(.sl k126 0 0 1 1),(.nat .i64 1),(.nat .i64 1),(.sl k134 0 0 1
  1),(.nat .i64 3),(.nat .i64 0),(.sl k5 0 0 2 2),(.nat .i64 3),(.nat .i64 2)] 9 143 true 0 0 0) .lf)))) (.row [(.sl k9 0 0 1 1),(.sl k10 0 0 2 2)] 2
  34 false 0 0 0) (tr (tl (.nd .lf (.row [(.so k102 12 0 4 0),(.so k133 9 0 3 0),(.so k151 12 0 4 0)] 3 141 true 3 0 0) .lf))))) (.nd (.nd (tl (tr
  (.nd .lf (.row [(.nat .i64 2)] 1 3 false 0 0 0) .lf))) (.row [(.sl k5 0 0 2 2),(.sl k6 0 0 1 1)] 2 34 false 0 0 0) (tr (tl (.nd .lf (.row [(.so k93
  3 0 3 0),(.so k95 3 0 3 0),(.so k97 3 0 3 0),(.ref 0 k90)] 4 94 false 0 0 0) .lf)))) (.row [(.nat .i64 3)] 1 3 false 0 0 0) (tn (tn (tr (.nd .lf
  (.row [(.nat .i64 1)] 1 3 false 0 0 0) .lf)) (tl (tl (.nd .lf (.row [(.sl k146 0 0 1 1),(.nat .i64 2),(.nat .i64 0),(.sl k152 0 0 1 1),(.nat .i64
  1),(.nat .i64 1),(.sl k159 0 0 1 1),(.nat .i64 3),(.nat .i64 0),(.sl k5 0 0 2 2),(.nat .i64 3),(.nat .i64 2)] 12 143 true 0 0 0) .lf)))) (tn (tr
  (.nd .lf (.row [(.nat .i64 3)] 1 3 false 0 0 0) .lf)) (tl (.nd .lf (.row [(.bool true),(.bool true),(.bool true)] 3 4 true 0 0 0) .lf))))))), k322⟩
def a0_123 : S := ⟨(tn (tn (tn (.nd .lf (.row [(.nat .i64 1),(.nat .i64 2)] 2 3 false 0 0 0) .lf) (.nd .lf (.row [(.sl k7 0 0 1 1),(.sl k8 0 0 2 2)] 2
  34 false 0 0 0) .lf)) (.nd (.nd .lf (.row [(.nat .i64 1),(.nat .i64 1)] 2 3 false 0 0 0) .lf) (.row [(.nat .i64 3)] 1 3 false 0 0 0) (tl (tl (tr
  (.nd .lf (.row [(.sl k99 0 0 1 1),(.nat .i64 2),(.nat .i64 0),(.sl k103 0 0 1 1),(.nat .i64 1),(.nat .i64 1),(.sl k111 0 0 1 1),(.nat .i64 3),(.nat
  .i64 0),(.sl k5 0 0 2 2),(.nat .i64 3),(.nat .i64 2)] 12 143 true 0 0 0) .lf)))))) (tn (.nd (.nd .lf (.row [(.nat .i64 1)] 1 3 false 0 0 0) (tr (tl
  (tl (.nd .lf (.row [(.sl k146 0 0 1 1),(.nat .i64 1),(.nat .i64 1),(.sl k154 0 0 1 1),(.nat .i64 3),(.nat .i64 0),(.sl k159 0 0 1 1),(.nat .i64
  2),(.nat .i64 0),(.sl k5 0 0 2 2),(.nat .i64 3),(.nat .i64 2)] 12 143 true 0 0 0) .lf))))) (.row [(.nat .i64 1),(.nat .i64 2)] 2 3 false 0 0 0) (.nd
  (tl (tl (tl (.nd .lf (.row [(.sl k126 0 0 1 1),(.nat .i64 1),(.nat .i64 1),(.sl k134 0 0 1 1),(.nat .i64 3),(.nat .i64 0),(.sl k5 0 0 2 2),(.nat
  .i64 3),(.nat .i64 2)] 9 143 true 0 0 0) .lf)))) (.row [(.sl k9 0 0 1 1),(.sl k10 0 0 2 2)] 2 34 false 0 0 0) (tr (tl (.nd .lf (.row [(.so k102 12 0
  4 0),(.so k133 9 0 3 0),(.so k153 12 0 4 0)] 3 141 true 3 0 0) .lf))))) (.nd (.nd (tl (tr (.nd .lf (.row [(.nat .i64 2)] 1 3 false 0 0 0) .lf)))
  (.row [(.sl k5 0 0 2 2),(.sl k6 0 0 1 1)] 2 34 false 0 0 0) (tr (tl (.nd .lf (.row [(.so k93 3 0 3 0),(.so k95 3 0 3 0),(.so k97 3 0 3 0),(.ref 0
  k90)] 4 94 false 0 0 0) .lf)))) (.row [(.nat .i64 3)] 1 3 false 0 0 0) (tn (tl (tr (.nd .lf (.row [(.nat .i64 1)] 1 3 false 0 0 0) .lf))) (tn (tr
  (.nd .lf (.row [(.nat .i64 3)] 1 3 false 0 0 0) .lf)) (tl (.nd .lf (.row [(.bool true),(.bool true),(.bool true)] 3 4 true 0 0 0) .lf))))))), k323⟩
def a0_124 : S := ⟨(tn (tn (tn (.nd .lf (.row [(.nat .i64 1),(.nat .i64 2)] 2 3 false 0 0 0) .lf) (.nd .lf (.row [(.sl k7 0 0 1 1),(.sl k8 0 0 2 2)] 2
  34 false 0 0 0) .lf)) (.nd (.nd .lf (.row [(.nat .i64 1),(.nat .i64 1)] 2 3 false 0 0 0) .lf) (.row [(.nat .i64 3)] 1 3 false 0 0 0) (tl (tl (tr
  (.nd .lf (.row [(.sl k99 0 0 1 1),(.nat .i64 2),(.nat .i64 0),(.sl k103 0 0 1 1),(.nat .i64 1),(.nat .i64 1),(.sl k111 0 0 1 1),(.nat .i64 3),(.nat
  .i64 0),(.sl k5 0 0 2 2),(.nat .i64 3),(.nat .i64 2)] 12 143 true 0 0 0) .lf)))))) (tn (.nd (.nd .lf (.row [(.nat .i64 1)] 1 3 false 0 0 0) (tr (tl
  (tl (.nd .lf (.row [(.sl k146 0 0 1 1),(.nat .i64 1),(.nat .i64 1),(.sl k154 0 0 1 1),(.nat .i64 2),(.nat .i64 0),(.sl k159 0 0 1 1),(.nat .i64
  3),(.nat .i64 0),(.sl k5 0 0 2 2),(.nat .i64 3),(.nat .i64 2)] 12 143 true 0 0 0) .lf))))) (.row [(.nat .i64 1),(.nat .i64 2)] 2 3 false 0 0 0) (.nd
  (tl (tl (tl (.nd .lf (.row [(.sl k126 0 0 1 1),(.nat .i64 1),(.nat .i64 1),(.sl k134 0 0 1 1),(.nat .i64 3),(.nat .i64 0),(.sl k5 0 0 2 2),(.nat
  .i64 3),(.nat .i64 2)] 9 143 true 0 0 0) .lf)))) (.row [(.sl k9 0 0 1 1),(.sl k10 0 0 2 2)] 2 34 false 0 0 0) (tr (tl (.nd .lf (.row [(.so k102 12 0
  4 0),(.so k133 9 0 3 0),(.so k153 12 0 4 0)] 3 141 true 3 0 0) .lf))))) (.nd (.nd (tl (tr (.nd .lf (.row [(.nat .i64 2)] 1 3 false 0 0 0) .lf)))
  (.row [(.sl k5 0 0 2 2),(.sl k6 0 0 1 1)] 2 34 false 0 0 0) (tr (tl (.nd .lf (.row [(.so k93 3 0 3 0),(.so k95 3 0 3 0),(.so k97 3 0 3 0),(.ref 0
  k90)] 4 94 false 0 0 0) .lf)))) (.row [(.nat .i64 3)] 1 3 false 0 0 0) (tn (tl (tr (.nd .lf (.row [(.nat .i64 1)] 1 3 false 0 0 0) .lf))) (tn (tr
  (.nd .lf (.row [(.nat .i64 3)] 1 3 false 0 0 0) .lf)) (tl (.nd .lf (.row [(.bool true),(.bool true),(.bool true)] 3 4 true 0 0 0) .lf))))))), k324⟩
def a0_125 : S := ⟨(tn (tn (tn (.nd .lf (.row [(.nat .i64 1),(.nat .i64 2)] 2 3 false 0 0 0) .lf) (.nd .lf (.row [(.sl k7 0 0 1 1),(.sl k8 0 0 2 2)] 2
  34 false 0 0 0) .lf)) (.nd (.nd .lf (.row [(.nat .i64 1),(.nat .i64 1)] 2 3 false 0 0 0) .lf) (.row [(.nat .i64 3)] 1 3 false 0 0 0) (tl (tl (tr
  (.nd .lf (.row [(.sl k99 0 0 1 1),(.nat .i64 2),(.nat .i64 0),(.sl k103 0 0 1 1),(.nat .i64 1),(.nat .i64 1),(.sl k111 0 0 1 1),(.nat .i64 3),(.nat
  .i64 0),(.sl k5 0 0 2 2),(.nat .i64 3),(.nat .i64 2)] 12 143 true 0 0 0) .lf)))))) (tn (.nd (.nd .lf (.row [(.nat .i64 1)] 1 3 false 0 0 0) .lf)
  (.row [(.nat .i64 1),(.nat .i64 2)] 2 3 false 0 0 0) (.nd (tl (tl (tl (.nd .lf (.row [(.sl k126 0 0 1 1),(.nat .i64 1),(.nat .i64 1),(.sl k134 0 0 1
  1),(.nat .i64 3),(.nat .i64 0),(.sl k5 0 0 2 2),(.nat .i64 3),(.nat .i64 2)] 9 143 true 0 0 0) .lf)))) (.row [(.sl k9 0 0 1 1),(.sl k10 0 0 2 2)] 2
  34 false 0 0 0) (tr (tl (.nd .lf (.row [(.so k102 12 0 4 0),(.so k133 9 0 3 0),(.so k151 12 0 4 0)] 3 141 true 3 0 0) .lf))))) (.nd (.nd (tl (tr
  (.nd .lf (.row [(.nat .i64 2)] 1 3 false 0 0 0) .lf))) (.row [(.sl k5 0 0 2 2),(.sl k6 0 0 1 1)] 2 34 false 0 0 0) (tr (tl (.nd .lf (.row [(.so k93
  3 0 3 0),(.so k95 3 0 3 0),(.so k97 3 0 3 0),(.ref 0 k90)] 4 94 false 0 0 0) .lf)))) (.row [(.nat .i64 3)] 1 3 false 0 0 0) (tn (tn (tr (.nd .lf
  (.row [(.nat .i64 1)] 1 3 false 0 0 0) .lf)) (tl (tl (.nd .lf (.row [(.sl k146 0 0 1 1),(.nat .i64 3),(.nat .i64 0),(.sl k152 0 0 1 1),(.nat .i64
  2),(.nat .i64 0),(.sl k157 0 0 1 1),(.nat .i64 1),(.nat .i64 1),(.sl k5 0 0 2 2),(.nat .i64 3),(.nat .i64 2)] 12 143 true 0 0 0) .lf)))) (tn (tr
  (.nd .lf (.row [(.nat .i64 3)] 1 3 false 0 0 0) .lf)) (tl (.nd .lf (.row [(.bool true),(.bool true),(.bool true)] 3 4 true 0 0 0) .lf))))))), k325⟩
def a0_126 : S := ⟨(tn (tn (tn (.nd .lf (.row [(.nat .i64 1),(.nat .i64 2)] 2 3 false 0 0 0) .lf) (.nd .lf (.row [(.sl k7 0 0 1 1),(.sl k8 0 0 2 2)] 2
  34 false 0 0 0) .lf)) (.nd (.nd .lf (.row [(.nat .i64 1),(.nat .i64 1)] 2 3 false 0 0 0) .lf) (.row [(.nat .i64 3)] 1 3 false 0 0 0) (tl (tl (tr
  (.nd .lf (.row [(.sl k99 0 0 1 1),(.nat .i64 2),(.nat .i64 0),(.sl k103 0 0 1 1),(.nat .i64 1),(.nat .i64 1),(.sl k111 0 0 1 1),(.nat .i64 3),(.nat
  .i64 0),(.sl k5 0 0 2 2),(.nat .i64 3),(.nat .i64 2)] 12 143 true 0 0 0) .lf)))))) (tn (.nd (.nd .lf (.row [(.nat .i64 1)] 1 3 false 0 0 0) .lf)
  (.row [(.nat .i64 1),(.nat .i64 2)] 2 3 false 0 0 0) (.nd .lf (.row [(.sl k9 0 0 1 1),(.sl k10 0 0 2 2)] 2 34 false 0 0 0) (tr (tl (.nd .lf (.row
  [(.so k102 12 0 4 0),(.so k131 9 0 3 0),(.so k151 12 0 4 0)] 3 141 true 3 0 0) .lf))))) (.nd (.nd (tl (tn (tl (.nd .lf (.row [(.sl k126 0 0 1
  1),(.nat .i64 3),(.nat .i64 0),(.sl k132 0 0 1 1),(.nat .i64 1),(.nat .i64 1),(.sl k5 0 0 2 2),(.nat .i64 3),(.nat .i64 2)] 9 143 true 0 0 0) .lf))
  (.nd .lf (.row [(.nat .i64 2)] 1 3 false 0 0 0) .lf))) (.row [(.sl k5 0 0 2 2),(.sl k6 0 0 1 1)] 2 34 false 0 0 0) (tr (tl (.nd .lf (.row [(.so k93
  3 0 3 0),(.so k95 3 0 3 0),(.so k97 3 0 3 0),(.ref 0 k90)] 4 94 false 0 0 0) .lf)))) (.row [(.nat .i64 3)] 1 3 false 0 0 0) (tn (tn (tr (.nd .lf
  (.row [(.nat .i64 1)] 1 3 false 0 0 0) .lf)) (tl (tl (.nd .lf (.row [(.sl k146 0 0 1 1),(.nat .i64 3),(.nat .i64 0),(.sl k152 0 0 1 1),(.nat .i64
  1),(.nat .i64 1),(.sl k159 0 0 1 1),(.nat .i64 2),(.nat .i64 0),(.sl k5 0 0 2 2),(.nat .i64 3),(.nat .i64 2)] 12 143 true 0 0 0) .lf)))) (tn (tr
  (.nd .lf (.row [(.nat .i64 3)] 1 3 false 0 0 0) .lf)) (tl (.nd .lf (.row [(.bool true),(.bool true),(.bool true)] 3 4 true 0 0 0) .lf))))))), k326⟩
def a0_127 : S := ⟨(tn (tn (tn (.nd .lf (.row [(.nat .i64 1),(.nat .i64 2)] 2 3 false 0 0 0) .lf) (.nd .lf (.row [(.sl k7 0 0 1 1),(.sl k8 0 0 2 2)] 2
  34 false 0 0 0) .lf)) (.nd (.nd .lf (.row [(.nat .i64 1),(.nat .i64 1)] 2 3 false 0 0 0) .lf) (.row [(.nat .i64 3)] 1 3 false 0 0 0) (tl (tl (tr
  (.nd .lf (.row [(.sl k99 0 0 1 1),(.nat .i64 2),(.nat .i64 0),(.sl k103 0 0 1 1),(.nat .i64 1),(.nat .i64 1),(.sl k111 0 0 1 1),(.nat .i64 3),(.nat
  .i64 0),(.sl k5 0 0 2 2),(.nat .i64 3),(.nat .i64 2)] 12 143 true 0 0 0) .lf)))))) (tn (.nd (.nd .lf (.row [(.nat .i64 1)] 1 3 false 0 0 0) .lf)
  (.row [(.nat .i64 1),(.nat .i64 2)] 2 3 false 0 0 0) (.nd .lf (.row [(.sl k9 0 0 1 1),(.sl k10 0 0 2 2)] 2 34 false 0 0 0) (tr (tl (.nd .lf (.row
  [(.so k102 12 0 4 0),(.so k131 9 0 3 0),(.so k151 12 0 4 0)] 3 141 true 3 0 0) .lf))))) (.nd (.nd (tl (tn (tl (.nd .lf (.row [(.sl k126 0 0 1
  1),(.nat .i64 3),(.nat .i64 0),(.sl k132 0 0 1 1),(.nat .i64 1),(.nat .i64 1),(.sl k5 0 0 2 2),(.nat .i64 3),(.nat .i64 2)] 9 143 true 0 0 0) .lf))
  (.nd .lf (.row [(.nat .i64 2)] 1 3 false 0 0 0) .lf))) (.row [(.sl k5 0 0 2 2),(.sl k6 0 0 1 1)] 2 34 false 0 0 0) (tr (tl (.nd .lf (.row [(.so k93
  3 0 3 0),(.so k95 3 0 3 0),(.so k97 3 0 3 0),(.ref 0 k90)] 4 94 false 0 0 0) .lf)))) (.row [(.nat .i64 3)] 1 3 false 0 0 0) (tn (tn (tr (.nd .lf
  (.row [(.nat .i64 1)] 1 3 false 0 0 0) .lf)) (tl (tl (.nd .lf (.row [(.sl k146 0 0 1 1),(.nat .i64 2),(.nat .i64 0),(.sl k152 0 0 1 1),(.nat .i64
  3),(.nat .i64 0),(.sl k157 0 0 1 1),(.nat .i64 1),(.nat .i64 1),(.sl k5 0 0 2 2),(.nat .i64 3),(.nat .i64 2)] 12 143 true 0 0 0) .lf)))) (tn (tr
  (.nd .lf (.row [(.nat .i64 3)] 1 3 false 0 0 0) .lf)) (tl (.nd .lf (.row [(.bool true),(.bool true),(.bool true)] 3 4 true 0 0 0) .lf))))))), k327⟩
def a0_128 : S := ⟨(tn (tn (tn (.nd .lf (.row [(.nat .i64 1),(.nat .i64 2)] 2 3 false 0 0 0) .lf) (.nd .lf (.row [(.sl k7 0 0 1 1),(.sl k8 0 0 2 2)] 2
  34 false 0 0 0) .lf)) (.nd (.nd .lf (.row [(.nat .i64 1),(.nat .i64 1)] 2 3 false 0 0 0) .lf) (.row [(.nat .i64 3)] 1 3 false 0 0 0) (tl (tl (tr
  (.nd .lf (.row [(.sl k99 0 0 1 1),(.nat .i64 2),(.nat .i64 0),(.sl k103 0 0 1 1),(.nat .i64 1),(.nat .i64 1),(.sl k111 0 0 1 1),(.nat .i64 3),(.nat
  .i64 0),(.sl k5 0 0 2 2),(.nat .i64 3),(.nat .i64 2)] 12 143 true 0 0 0) .lf)))))) (tn (.nd (.nd .lf (.row [(.nat .i64 1)] 1 3 false 0 0 0) .lf)
  (.row [(.nat .i64 1),(.nat .i64 2)] 2 3 false 0 0 0) (.nd .lf (.row [(.sl k9 0 0 1 1),(.sl k10 0 0 2 2)] 2 34 false 0 0 0) (tr (tl (.nd .lf (.row
  [(.so k102 12 0 4 0),(.so k131 9 0 3 0),(.so k151 12 0 4 0)] 3 141 true 3 0 0) .lf))))) (.nd (.nd (tl (tn (tl (.nd .lf (.row [(.sl k126 0 0 1
  1),(.nat .i64 3),(.nat .i64 0),(.sl k132 0 0 1 1),(.nat .i64 1),(.nat .i64 1),(.sl k5 0 0 2 2),(.nat .i64 3),(.nat .i64 2)] 9 143 true 0 0 0) .lf))
  (.nd .lf (.row [(.nat .i64 2)] 1 3 false 0 0 0) .lf))) (.row [(.sl k5 0 0 2 2),(.sl k6 0 0 1 1)] 2 34 false 0 0 0) (tr (tl (.nd .lf (.row [(.so k93
  3 0 3 0),(.so k95 3 0 3 0),(.so k97 3 0 3 0),(.ref 0 k90)] 4 94 false 0 0 0) .lf)))) (.row [(.nat .i64 3)] 1 3 false 0 0 0) (tn (tn (tr (.nd .lf
  (.row [(.nat .i64 1)] 1 3 false 0 0 0) .lf)) (tl (tl (.nd .lf (.row [(.sl k146 0 0 1 1),(.nat .i64 2),(.nat .i64 0),(.sl k152 0 0 1 1),(.nat .i64
  1),(.nat .i64 1),(.sl k159 0 0 1 1),(.nat .i64 3),(.nat .i64 0),(.sl k5 0 0 2 2),(.nat .i64 3),(.nat .i64 2)] 12 143 true 0 0 0) .lf)))) (tn (tr
  (.nd .lf (.row [(.nat .i64 3)] 1 3 false 0 0 0) .lf)) (tl (.nd .lf (.row [(.bool true),(.bool true),(.bool true)] 3 4 true 0 0 0) .lf))))))), k328⟩
end Go.Proofs.YtmplkbipoacmmaaGreatDoor.translitKnown
