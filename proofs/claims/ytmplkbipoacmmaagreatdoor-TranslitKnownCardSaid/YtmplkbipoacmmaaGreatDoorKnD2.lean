/- What the evaluator knows at some calls of the closed run of TranslitKnown. No statement of the seat stands here. No condition. By an AI agent. -/
import Derived.Test.YtmplkbipoacmmaaGreatDoorKnD1
namespace Go.Proofs.YtmplkbipoacmmaaGreatDoor.translitKnown
open Go.Ev Go.RowKit
set_option maxRecDepth 100000
def a1_0 : S := ⟨(tn (tn (tl (tn (tr (tr (tr (tl (tl (tl (.nd .lf (.row [(.nat .i64 1)] 1 3 false 0 0 0) .lf))))))) (tr (tr (tr (tl (tl (tl (.nd .lf
  (.row [(.nat .i64 2)] 1 3 false 0 0 0) .lf))))))))) (tn (.nd .lf (.row [(.nat .i64 1),(.nat .i64 1)] 2 3 false 0 0 0) .lf) (tn (tr (tl (tn (tl (tl
  (tl (.nd .lf (.row [(.sl k1043 0 0 1 1),(.nat .i64 2),(.nat .i64 0),(.sl k1047 0 0 1 1),(.nat .i64 1),(.nat .i64 1),(.sl k5 0 0 2 2),(.nat .i64
  3),(.nat .i64 2),(.sl k7 0 0 1 1),(.nat .i64 1),(.nat .i64 4)] 12 143 true 0 0 0) .lf)))) (tl (tl (tl (.nd .lf (.row [(.sl k1105 0 0 1 1),(.nat .i64
  2),(.nat .i64 0),(.sl k1111 0 0 1 1),(.nat .i64 1),(.nat .i64 1),(.sl k5 0 0 2 2),(.nat .i64 3),(.nat .i64 2),(.sl k7 0 0 1 1),(.nat .i64 1),(.nat
  .i64 6)] 12 143 true 0 0 0) .lf))))))) (tn (tr (tr (tl (tl (tl (.nd .lf (.row [(.nil 1),(.nat .i64 2),(.nat .i64 3)] 3 143 true 0 0 0) .lf)))))) (tr
  (tl (tl (tl (tl (.nd .lf (.row [(.sl k1079 0 0 1 1),(.nat .i64 1),(.nat .i64 1),(.sl k5 0 0 2 2),(.nat .i64 3),(.nat .i64 2),(.sl k7 0 0 1 1),(.nat
  .i64 1),(.nat .i64 5)] 9 143 true 0 0 0) .lf)))))))))) (tn (.nd (.nd (tr (tn (tr (tl (tl (tl (.nd .lf (.row [(.nat .i64 2)] 1 3 false 0 0 0)
  .lf))))) (tl (tl (tl (tl (.nd .lf (.row [(.nil 1),(.nat .i64 2),(.nat .i64 3)] 3 143 true 0 0 0) .lf))))))) (.row [(.nat .i64 1)] 1 3 false 0 0 0)
  .lf) (.row [(.nat .i64 1),(.nat .i64 2)] 2 3 false 0 0 0) (.nd .lf (.row [(.sl k9 0 0 1 1),(.sl k10 0 0 2 2)] 2 34 false 0 0 0) (tl (tl (tl (tn (tl
  (tl (.nd .lf (.row [(.so k1046 12 0 4 0),(.so k1086 9 0 3 0),(.so k1110 12 0 4 0),(.so k1143 12 0 4 0),(.so k1073 3 0 1 0),(.so k1103 3 0 1 0),(.so
  k1134 3 0 1 0),(.so k1165 3 0 1 0)] 8 141 true 8 0 0) .lf))) (tl (tl (.nd .lf (.row [(.nil 1),(.nat .i64 2),(.nat .i64 3)] 3 143 true 0 0 0)
  .lf))))))))) (.nd (tn (tr (tl (tl (tl (tl (tl (.nd .lf (.row [(.nat .i64 2)] 1 3 false 0 0 0) .lf))))))) (tl (tl (tl (tl (tl (tl (.nd .lf (.row
  [(.so k1037 8 0 8 0),(.so k1039 8 0 8 0),(.so k1041 8 0 8 0),(.ref 0 k1034)] 4 94 false 0 0 0) .lf)))))))) (.row [(.nat .i64 3)] 1 3 false 0 0 0)
  (tn (tr (tn (tn (tl (tl (tl (.nd .lf (.row [(.nat .i64 1)] 1 3 false 0 0 0) .lf)))) (tl (tl (tl (.nd .lf (.row [(.nat .i64 1)] 1 3 false 0 0 0)
  .lf))))) (tn (tl (tl (tl (.nd .lf (.row [(.nat .i64 1)] 1 3 false 0 0 0) .lf)))) (tl (tl (tl (.nd .lf (.row [(.sl k1136 0 0 1 1),(.nat .i64 1),(.nat
  .i64 1),(.sl k1144 0 0 1 1),(.nat .i64 2),(.nat .i64 0),(.sl k5 0 0 2 2),(.nat .i64 3),(.nat .i64 2),(.sl k7 0 0 1 1),(.nat .i64 1),(.nat .i64 7)]
  12 143 true 0 0 0) .lf))))))) (tl (tl (tn (tl (tl (tl (.nd .lf (.row [(.bool true),(.bool true),(.bool true),(.bool true),(.bool false),(.bool
  false),(.bool false),(.bool false)] 8 4 true 0 0 0) .lf)))) (tl (tl (tl (.nd .lf (.row [(.nil 1),(.nat .i64 2),(.nat .i64 3)] 3 143 true 0 0 0)
  .lf))))))))))), k1166⟩
def a1_1 : S := ⟨(tn (tn (tl (tn (tr (tr (tr (tl (tl (tl (.nd .lf (.row [(.nat .i64 2)] 1 3 false 0 0 0) .lf))))))) (tr (tl (tr (tl (tl (tl (.nd .lf
  (.row [(.sl k1105 0 0 1 1),(.nat .i64 1),(.nat .i64 1),(.sl k1113 0 0 1 1),(.nat .i64 2),(.nat .i64 0),(.sl k5 0 0 2 2),(.nat .i64 3),(.nat .i64
  2),(.sl k7 0 0 1 1),(.nat .i64 1),(.nat .i64 6)] 12 143 true 0 0 0) .lf))))))))) (tn (.nd .lf (.row [(.nat .i64 1),(.nat .i64 1)] 2 3 false 0 0 0)
  .lf) (tn (tr (tn (tl (tl (tl (tl (.nd .lf (.row [(.sl k1043 0 0 1 1),(.nat .i64 2),(.nat .i64 0),(.sl k1047 0 0 1 1),(.nat .i64 1),(.nat .i64
  1),(.sl k5 0 0 2 2),(.nat .i64 3),(.nat .i64 2),(.sl k7 0 0 1 1),(.nat .i64 1),(.nat .i64 4)] 12 143 true 0 0 0) .lf))))) (tr (tl (tl (tl (.nd .lf
  (.row [(.nat .i64 1)] 1 3 false 0 0 0) .lf))))))) (tn (tr (tr (tl (tl (tl (.nd .lf (.row [(.nil 1),(.nat .i64 2),(.nat .i64 3)] 3 143 true 0 0 0)
  .lf)))))) (tr (tl (tl (tl (tl (.nd .lf (.row [(.sl k1079 0 0 1 1),(.nat .i64 1),(.nat .i64 1),(.sl k5 0 0 2 2),(.nat .i64 3),(.nat .i64 2),(.sl k7 0
  0 1 1),(.nat .i64 1),(.nat .i64 5)] 9 143 true 0 0 0) .lf)))))))))) (tn (.nd (.nd (tr (tn (tr (tl (tl (tl (.nd .lf (.row [(.nat .i64 1)] 1 3 false 0
  0 0) .lf))))) (tl (tl (tl (tl (.nd .lf (.row [(.nil 1),(.nat .i64 2),(.nat .i64 3)] 3 143 true 0 0 0) .lf))))))) (.row [(.nat .i64 1)] 1 3 false 0 0
  0) (tr (tl (tr (tl (tl (tl (.nd .lf (.row [(.nat .i64 2)] 1 3 false 0 0 0) .lf)))))))) (.row [(.nat .i64 1),(.nat .i64 2)] 2 3 false 0 0 0) (.nd (tr
  (tr (tr (tl (tl (tl (.nd .lf (.row [(.sl k1136 0 0 1 1),(.nat .i64 2),(.nat .i64 0),(.sl k1142 0 0 1 1),(.nat .i64 1),(.nat .i64 1),(.sl k5 0 0 2
  2),(.nat .i64 3),(.nat .i64 2),(.sl k7 0 0 1 1),(.nat .i64 1),(.nat .i64 7)] 12 143 true 0 0 0) .lf))))))) (.row [(.sl k9 0 0 1 1),(.sl k10 0 0 2
  2)] 2 34 false 0 0 0) (tl (tl (tl (tn (tl (tl (.nd .lf (.row [(.so k1046 12 0 4 0),(.so k1086 9 0 3 0),(.so k1112 12 0 4 0),(.so k1141 12 0 4
  0),(.so k1073 3 0 1 0),(.so k1103 3 0 1 0),(.so k1134 3 0 1 0),(.so k1165 3 0 1 0)] 8 141 true 8 0 0) .lf))) (tl (tl (.nd .lf (.row [(.nil 1),(.nat
  .i64 2),(.nat .i64 3)] 3 143 true 0 0 0) .lf))))))))) (.nd (tn (tr (tl (tl (tl (tl (tl (.nd .lf (.row [(.nat .i64 2)] 1 3 false 0 0 0) .lf)))))))
  (tl (tl (tl (tl (tl (tl (.nd .lf (.row [(.so k1037 8 0 8 0),(.so k1039 8 0 8 0),(.so k1041 8 0 8 0),(.ref 0 k1034)] 4 94 false 0 0 0) .lf))))))))
  (.row [(.nat .i64 3)] 1 3 false 0 0 0) (tn (tr (tn (tl (tl (tl (tl (.nd .lf (.row [(.nat .i64 1)] 1 3 false 0 0 0) .lf))))) (tl (tl (tl (tl (.nd .lf
  (.row [(.nat .i64 1)] 1 3 false 0 0 0) .lf))))))) (tl (tl (tn (tl (tl (tl (.nd .lf (.row [(.bool true),(.bool true),(.bool true),(.bool true),(.bool
  false),(.bool false),(.bool false),(.bool false)] 8 4 true 0 0 0) .lf)))) (tl (tl (tl (.nd .lf (.row [(.nil 1),(.nat .i64 2),(.nat .i64 3)] 3 143
  true 0 0 0) .lf))))))))))), k1166⟩
def a1_2 : S := ⟨(tn (tn (tl (tn (tr (tr (tr (tl (tl (tl (.nd .lf (.row [(.nat .i64 1)] 1 3 false 0 0 0) .lf))))))) (tr (tn (tr (tl (tl (tl (.nd .lf
  (.row [(.sl k1105 0 0 1 1),(.nat .i64 1),(.nat .i64 1),(.sl k1113 0 0 1 1),(.nat .i64 2),(.nat .i64 0),(.sl k5 0 0 2 2),(.nat .i64 3),(.nat .i64
  2),(.sl k7 0 0 1 1),(.nat .i64 1),(.nat .i64 6)] 12 143 true 0 0 0) .lf))))) (tr (tl (tl (tl (.nd .lf (.row [(.nat .i64 2)] 1 3 false 0 0 0)
  .lf))))))))) (tn (.nd .lf (.row [(.nat .i64 1),(.nat .i64 1)] 2 3 false 0 0 0) .lf) (tn (tr (tl (tl (tl (tl (tl (.nd .lf (.row [(.sl k1043 0 0 1
  1),(.nat .i64 2),(.nat .i64 0),(.sl k1047 0 0 1 1),(.nat .i64 1),(.nat .i64 1),(.sl k5 0 0 2 2),(.nat .i64 3),(.nat .i64 2),(.sl k7 0 0 1 1),(.nat
  .i64 1),(.nat .i64 4)] 12 143 true 0 0 0) .lf))))))) (tn (tr (tr (tl (tl (tl (.nd .lf (.row [(.nil 1),(.nat .i64 2),(.nat .i64 3)] 3 143 true 0 0 0)
  .lf)))))) (tr (tl (tl (tl (tl (.nd .lf (.row [(.sl k1079 0 0 1 1),(.nat .i64 1),(.nat .i64 1),(.sl k5 0 0 2 2),(.nat .i64 3),(.nat .i64 2),(.sl k7 0
  0 1 1),(.nat .i64 1),(.nat .i64 5)] 9 143 true 0 0 0) .lf)))))))))) (tn (.nd (.nd (tr (tn (tr (tl (tl (tl (.nd .lf (.row [(.nat .i64 1)] 1 3 false 0
  0 0) .lf))))) (tl (tl (tl (tl (.nd .lf (.row [(.nil 1),(.nat .i64 2),(.nat .i64 3)] 3 143 true 0 0 0) .lf))))))) (.row [(.nat .i64 1)] 1 3 false 0 0
  0) (tr (tl (tr (tl (tl (tl (.nd .lf (.row [(.nat .i64 2)] 1 3 false 0 0 0) .lf)))))))) (.row [(.nat .i64 1),(.nat .i64 2)] 2 3 false 0 0 0) (.nd .lf
  (.row [(.sl k9 0 0 1 1),(.sl k10 0 0 2 2)] 2 34 false 0 0 0) (tl (tl (tl (tn (tl (tl (.nd .lf (.row [(.so k1046 12 0 4 0),(.so k1086 9 0 3 0),(.so
  k1112 12 0 4 0),(.so k1143 12 0 4 0),(.so k1073 3 0 1 0),(.so k1103 3 0 1 0),(.so k1134 3 0 1 0),(.so k1165 3 0 1 0)] 8 141 true 8 0 0) .lf))) (tl
  (tl (.nd .lf (.row [(.nil 1),(.nat .i64 2),(.nat .i64 3)] 3 143 true 0 0 0) .lf))))))))) (.nd (tn (tr (tl (tl (tl (tl (tl (.nd .lf (.row [(.nat .i64
  2)] 1 3 false 0 0 0) .lf))))))) (tl (tl (tl (tl (tl (tl (.nd .lf (.row [(.so k1037 8 0 8 0),(.so k1039 8 0 8 0),(.so k1041 8 0 8 0),(.ref 0 k1034)]
  4 94 false 0 0 0) .lf)))))))) (.row [(.nat .i64 3)] 1 3 false 0 0 0) (tn (tr (tn (tl (tl (tl (tl (.nd .lf (.row [(.nat .i64 1)] 1 3 false 0 0 0)
  .lf))))) (tn (tl (tl (tl (.nd .lf (.row [(.nat .i64 1)] 1 3 false 0 0 0) .lf)))) (tl (tl (tl (.nd .lf (.row [(.sl k1136 0 0 1 1),(.nat .i64 1),(.nat
  .i64 1),(.sl k1144 0 0 1 1),(.nat .i64 2),(.nat .i64 0),(.sl k5 0 0 2 2),(.nat .i64 3),(.nat .i64 2),(.sl k7 0 0 1 1),(.nat .i64 1),(.nat .i64 7)]
  12 143 true 0 0 0) .lf))))))) (tl (tl (tn (tl (tl (tl (.nd .lf (.row [(.bool true),(.bool true),(.bool true),(.bool true),(.bool false),(.bool
  false),(.bool false),(.bool false)] 8 4 true 0 0 0) .lf)))) (tl (tl (tl (.nd .lf (.row [(.nil 1),(.nat .i64 2),(.nat .i64 3)] 3 143 true 0 0 0)
  .lf))))))))))), k1166⟩
def a1_3 : S := ⟨(tn (tn (tl (tl (tr (tr (tr (tl (tl (tl (.nd .lf (.row [(.nat .i64 2)] 1 3 false 0 0 0) .lf))))))))) (tn (.nd .lf (.row [(.nat .i64
  1),(.nat .i64 1)] 2 3 false 0 0 0) (tr (tr (tl (tl (tl (tl (.nd .lf (.row [(.sl k1075 0 0 1 1),(.nat .i64 1),(.nat .i64 1),(.sl k5 0 0 2 2),(.nat
  .i64 3),(.nat .i64 2),(.sl k7 0 0 1 1),(.nat .i64 1),(.nat .i64 5)] 9 143 true 0 0 0) .lf)))))))) (tn (tr (tn (tn (tl (tl (tl (.nd .lf (.row [(.sl
  k1043 0 0 1 1),(.nat .i64 2),(.nat .i64 0),(.sl k1047 0 0 1 1),(.nat .i64 1),(.nat .i64 1),(.sl k5 0 0 2 2),(.nat .i64 3),(.nat .i64 2),(.sl k7 0 0
  1 1),(.nat .i64 1),(.nat .i64 4)] 12 143 true 0 0 0) .lf)))) (tl (tl (tl (.nd .lf (.row [(.sl k1105 0 0 1 1),(.nat .i64 2),(.nat .i64 0),(.sl k1111
  0 0 1 1),(.nat .i64 1),(.nat .i64 1),(.sl k5 0 0 2 2),(.nat .i64 3),(.nat .i64 2),(.sl k7 0 0 1 1),(.nat .i64 1),(.nat .i64 6)] 12 143 true 0 0 0)
  .lf))))) (tr (tl (tl (tl (.nd .lf (.row [(.nat .i64 1)] 1 3 false 0 0 0) .lf))))))) (tl (tr (tr (tl (tl (tl (.nd .lf (.row [(.nil 1),(.nat .i64
  2),(.nat .i64 3)] 3 143 true 0 0 0) .lf)))))))))) (tn (.nd (.nd (tr (tn (tr (tl (tl (tl (.nd .lf (.row [(.nat .i64 2)] 1 3 false 0 0 0) .lf))))) (tl
  (tl (tl (tl (.nd .lf (.row [(.nil 1),(.nat .i64 2),(.nat .i64 3)] 3 143 true 0 0 0) .lf))))))) (.row [(.nat .i64 1)] 1 3 false 0 0 0) .lf) (.row
  [(.nat .i64 1),(.nat .i64 2)] 2 3 false 0 0 0) (.nd (tr (tr (tr (tl (tl (tl (.nd .lf (.row [(.sl k1136 0 0 1 1),(.nat .i64 2),(.nat .i64 0),(.sl
  k1142 0 0 1 1),(.nat .i64 1),(.nat .i64 1),(.sl k5 0 0 2 2),(.nat .i64 3),(.nat .i64 2),(.sl k7 0 0 1 1),(.nat .i64 1),(.nat .i64 7)] 12 143 true 0
  0 0) .lf))))))) (.row [(.sl k9 0 0 1 1),(.sl k10 0 0 2 2)] 2 34 false 0 0 0) (tl (tl (tl (tn (tl (tl (.nd .lf (.row [(.so k1046 12 0 4 0),(.so k1082
  9 0 3 0),(.so k1110 12 0 4 0),(.so k1141 12 0 4 0),(.so k1073 3 0 1 0),(.so k1103 3 0 1 0),(.so k1134 3 0 1 0),(.so k1165 3 0 1 0)] 8 141 true 8 0
  0) .lf))) (tl (tl (.nd .lf (.row [(.nil 1),(.nat .i64 2),(.nat .i64 3)] 3 143 true 0 0 0) .lf))))))))) (.nd (tn (tr (tn (tl (tl (tl (tl (.nd .lf
  (.row [(.nat .i64 2)] 1 3 false 0 0 0) .lf))))) (tl (tl (tl (tl (.nd .lf (.row [(.nat .i64 1)] 1 3 false 0 0 0) .lf))))))) (tl (tl (tl (tl (tl (tl
  (.nd .lf (.row [(.so k1037 8 0 8 0),(.so k1039 8 0 8 0),(.so k1041 8 0 8 0),(.ref 0 k1034)] 4 94 false 0 0 0) .lf)))))))) (.row [(.nat .i64 3)] 1 3
  false 0 0 0) (tn (tr (tl (tn (tl (tl (tl (.nd .lf (.row [(.nat .i64 1)] 1 3 false 0 0 0) .lf)))) (tl (tl (tl (.nd .lf (.row [(.nat .i64 1)] 1 3
  false 0 0 0) .lf))))))) (tl (tl (tn (tl (tl (tl (.nd .lf (.row [(.bool true),(.bool true),(.bool true),(.bool true),(.bool false),(.bool
  false),(.bool false),(.bool false)] 8 4 true 0 0 0) .lf)))) (tl (tl (tl (.nd .lf (.row [(.nil 1),(.nat .i64 2),(.nat .i64 3)] 3 143 true 0 0 0)
  .lf))))))))))), k1166⟩
def a1_4 : S := ⟨(tn (tn (tl (tn (tr (tr (tr (tl (tl (tl (.nd .lf (.row [(.nat .i64 1)] 1 3 false 0 0 0) .lf))))))) (tr (tn (tr (tl (tl (tl (.nd .lf
  (.row [(.sl k1105 0 0 1 1),(.nat .i64 1),(.nat .i64 1),(.sl k1113 0 0 1 1),(.nat .i64 2),(.nat .i64 0),(.sl k5 0 0 2 2),(.nat .i64 3),(.nat .i64
  2),(.sl k7 0 0 1 1),(.nat .i64 1),(.nat .i64 6)] 12 143 true 0 0 0) .lf))))) (tr (tl (tl (tl (.nd .lf (.row [(.nat .i64 2)] 1 3 false 0 0 0)
  .lf))))))))) (tn (.nd .lf (.row [(.nat .i64 1),(.nat .i64 1)] 2 3 false 0 0 0) (tr (tr (tl (tl (tl (tl (.nd .lf (.row [(.sl k1075 0 0 1 1),(.nat
  .i64 1),(.nat .i64 1),(.sl k5 0 0 2 2),(.nat .i64 3),(.nat .i64 2),(.sl k7 0 0 1 1),(.nat .i64 1),(.nat .i64 5)] 9 143 true 0 0 0) .lf)))))))) (tn
  (tr (tl (tl (tl (tl (tl (.nd .lf (.row [(.sl k1043 0 0 1 1),(.nat .i64 2),(.nat .i64 0),(.sl k1047 0 0 1 1),(.nat .i64 1),(.nat .i64 1),(.sl k5 0 0
  2 2),(.nat .i64 3),(.nat .i64 2),(.sl k7 0 0 1 1),(.nat .i64 1),(.nat .i64 4)] 12 143 true 0 0 0) .lf))))))) (tl (tr (tr (tl (tl (tl (.nd .lf (.row
  [(.nil 1),(.nat .i64 2),(.nat .i64 3)] 3 143 true 0 0 0) .lf)))))))))) (tn (.nd (.nd (tr (tn (tr (tl (tl (tl (.nd .lf (.row [(.nat .i64 1)] 1 3
  false 0 0 0) .lf))))) (tl (tl (tl (tl (.nd .lf (.row [(.nil 1),(.nat .i64 2),(.nat .i64 3)] 3 143 true 0 0 0) .lf))))))) (.row [(.nat .i64 1)] 1 3
  false 0 0 0) (tr (tl (tr (tl (tl (tl (.nd .lf (.row [(.nat .i64 2)] 1 3 false 0 0 0) .lf)))))))) (.row [(.nat .i64 1),(.nat .i64 2)] 2 3 false 0 0
  0) (.nd .lf (.row [(.sl k9 0 0 1 1),(.sl k10 0 0 2 2)] 2 34 false 0 0 0) (tl (tl (tl (tn (tl (tl (.nd .lf (.row [(.so k1046 12 0 4 0),(.so k1082 9 0
  3 0),(.so k1112 12 0 4 0),(.so k1143 12 0 4 0),(.so k1073 3 0 1 0),(.so k1103 3 0 1 0),(.so k1134 3 0 1 0),(.so k1165 3 0 1 0)] 8 141 true 8 0 0)
  .lf))) (tl (tl (.nd .lf (.row [(.nil 1),(.nat .i64 2),(.nat .i64 3)] 3 143 true 0 0 0) .lf))))))))) (.nd (tn (tr (tn (tl (tl (tl (tl (.nd .lf (.row
  [(.nat .i64 2)] 1 3 false 0 0 0) .lf))))) (tl (tl (tl (tl (.nd .lf (.row [(.nat .i64 1)] 1 3 false 0 0 0) .lf))))))) (tl (tl (tl (tl (tl (tl (.nd
  .lf (.row [(.so k1037 8 0 8 0),(.so k1039 8 0 8 0),(.so k1041 8 0 8 0),(.ref 0 k1034)] 4 94 false 0 0 0) .lf)))))))) (.row [(.nat .i64 3)] 1 3 false
  0 0 0) (tn (tr (tn (tl (tl (tl (tl (.nd .lf (.row [(.nat .i64 1)] 1 3 false 0 0 0) .lf))))) (tr (tl (tl (tl (.nd .lf (.row [(.sl k1136 0 0 1
  1),(.nat .i64 1),(.nat .i64 1),(.sl k1144 0 0 1 1),(.nat .i64 2),(.nat .i64 0),(.sl k5 0 0 2 2),(.nat .i64 3),(.nat .i64 2),(.sl k7 0 0 1 1),(.nat
  .i64 1),(.nat .i64 7)] 12 143 true 0 0 0) .lf))))))) (tl (tl (tn (tl (tl (tl (.nd .lf (.row [(.bool true),(.bool true),(.bool true),(.bool
  true),(.bool false),(.bool false),(.bool false),(.bool false)] 8 4 true 0 0 0) .lf)))) (tl (tl (tl (.nd .lf (.row [(.nil 1),(.nat .i64 2),(.nat .i64
  3)] 3 143 true 0 0 0) .lf))))))))))), k1166⟩
def a1_5 : S := ⟨(tn (tn (tl (tn (tr (tr (tr (tl (tl (tl (.nd .lf (.row [(.nat .i64 2)] 1 3 false 0 0 0) .lf))))))) (tr (tl (tr (tl (tl (tl (.nd .lf
  (.row [(.sl k1105 0 0 1 1),(.nat .i64 1),(.nat .i64 1),(.sl k1113 0 0 1 1),(.nat .i64 2),(.nat .i64 0),(.sl k5 0 0 2 2),(.nat .i64 3),(.nat .i64
  2),(.sl k7 0 0 1 1),(.nat .i64 1),(.nat .i64 6)] 12 143 true 0 0 0) .lf))))))))) (tn (.nd .lf (.row [(.nat .i64 1),(.nat .i64 1)] 2 3 false 0 0 0)
  (tr (tr (tl (tl (tl (tl (.nd .lf (.row [(.sl k1075 0 0 1 1),(.nat .i64 1),(.nat .i64 1),(.sl k5 0 0 2 2),(.nat .i64 3),(.nat .i64 2),(.sl k7 0 0 1
  1),(.nat .i64 1),(.nat .i64 5)] 9 143 true 0 0 0) .lf)))))))) (tn (tr (tn (tl (tl (tl (tl (.nd .lf (.row [(.sl k1043 0 0 1 1),(.nat .i64 2),(.nat
  .i64 0),(.sl k1047 0 0 1 1),(.nat .i64 1),(.nat .i64 1),(.sl k5 0 0 2 2),(.nat .i64 3),(.nat .i64 2),(.sl k7 0 0 1 1),(.nat .i64 1),(.nat .i64 4)]
  12 143 true 0 0 0) .lf))))) (tr (tl (tl (tl (.nd .lf (.row [(.nat .i64 1)] 1 3 false 0 0 0) .lf))))))) (tl (tr (tr (tl (tl (tl (.nd .lf (.row [(.nil
  1),(.nat .i64 2),(.nat .i64 3)] 3 143 true 0 0 0) .lf)))))))))) (tn (.nd (.nd (tr (tn (tr (tl (tl (tl (.nd .lf (.row [(.nat .i64 1)] 1 3 false 0 0
  0) .lf))))) (tl (tl (tl (tl (.nd .lf (.row [(.nil 1),(.nat .i64 2),(.nat .i64 3)] 3 143 true 0 0 0) .lf))))))) (.row [(.nat .i64 1)] 1 3 false 0 0
  0) (tr (tl (tr (tl (tl (tl (.nd .lf (.row [(.nat .i64 2)] 1 3 false 0 0 0) .lf)))))))) (.row [(.nat .i64 1),(.nat .i64 2)] 2 3 false 0 0 0) (.nd (tr
  (tr (tr (tl (tl (tl (.nd .lf (.row [(.sl k1136 0 0 1 1),(.nat .i64 2),(.nat .i64 0),(.sl k1142 0 0 1 1),(.nat .i64 1),(.nat .i64 1),(.sl k5 0 0 2
  2),(.nat .i64 3),(.nat .i64 2),(.sl k7 0 0 1 1),(.nat .i64 1),(.nat .i64 7)] 12 143 true 0 0 0) .lf))))))) (.row [(.sl k9 0 0 1 1),(.sl k10 0 0 2
  2)] 2 34 false 0 0 0) (tl (tl (tl (tn (tl (tl (.nd .lf (.row [(.so k1046 12 0 4 0),(.so k1082 9 0 3 0),(.so k1112 12 0 4 0),(.so k1141 12 0 4
  0),(.so k1073 3 0 1 0),(.so k1103 3 0 1 0),(.so k1134 3 0 1 0),(.so k1165 3 0 1 0)] 8 141 true 8 0 0) .lf))) (tl (tl (.nd .lf (.row [(.nil 1),(.nat
  .i64 2),(.nat .i64 3)] 3 143 true 0 0 0) .lf))))))))) (.nd (tn (tr (tn (tl (tl (tl (tl (.nd .lf (.row [(.nat .i64 2)] 1 3 false 0 0 0) .lf))))) (tl
  (tl (tl (tl (.nd .lf (.row [(.nat .i64 1)] 1 3 false 0 0 0) .lf))))))) (tl (tl (tl (tl (tl (tl (.nd .lf (.row [(.so k1037 8 0 8 0),(.so k1039 8 0 8
  0),(.so k1041 8 0 8 0),(.ref 0 k1034)] 4 94 false 0 0 0) .lf)))))))) (.row [(.nat .i64 3)] 1 3 false 0 0 0) (tn (tr (tl (tl (tl (tl (tl (.nd .lf
  (.row [(.nat .i64 1)] 1 3 false 0 0 0) .lf))))))) (tl (tl (tn (tl (tl (tl (.nd .lf (.row [(.bool true),(.bool true),(.bool true),(.bool true),(.bool
  false),(.bool false),(.bool false),(.bool false)] 8 4 true 0 0 0) .lf)))) (tl (tl (tl (.nd .lf (.row [(.nil 1),(.nat .i64 2),(.nat .i64 3)] 3 143
  true 0 0 0) .lf))))))))))), k1166⟩
def a1_6 : S := ⟨(tn (tn (tl (tn (tr (tr (tr (tl (tl (tl (.nd .lf (.row [(.nat .i64 1)] 1 3 false 0 0 0) .lf))))))) (tr (tr (tr (tl (tl (tl (.nd .lf
  (.row [(.nat .i64 2)] 1 3 false 0 0 0) .lf))))))))) (tn (.nd .lf (.row [(.nat .i64 1),(.nat .i64 1)] 2 3 false 0 0 0) (tr (tr (tl (tl (tl (tl (.nd
  .lf (.row [(.sl k1075 0 0 1 1),(.nat .i64 1),(.nat .i64 1),(.sl k5 0 0 2 2),(.nat .i64 3),(.nat .i64 2),(.sl k7 0 0 1 1),(.nat .i64 1),(.nat .i64
  5)] 9 143 true 0 0 0) .lf)))))))) (tn (tr (tl (tn (tl (tl (tl (.nd .lf (.row [(.sl k1043 0 0 1 1),(.nat .i64 2),(.nat .i64 0),(.sl k1047 0 0 1
  1),(.nat .i64 1),(.nat .i64 1),(.sl k5 0 0 2 2),(.nat .i64 3),(.nat .i64 2),(.sl k7 0 0 1 1),(.nat .i64 1),(.nat .i64 4)] 12 143 true 0 0 0) .lf))))
  (tl (tl (tl (.nd .lf (.row [(.sl k1105 0 0 1 1),(.nat .i64 2),(.nat .i64 0),(.sl k1111 0 0 1 1),(.nat .i64 1),(.nat .i64 1),(.sl k5 0 0 2 2),(.nat
  .i64 3),(.nat .i64 2),(.sl k7 0 0 1 1),(.nat .i64 1),(.nat .i64 6)] 12 143 true 0 0 0) .lf))))))) (tl (tr (tr (tl (tl (tl (.nd .lf (.row [(.nil
  1),(.nat .i64 2),(.nat .i64 3)] 3 143 true 0 0 0) .lf)))))))))) (tn (.nd (.nd (tr (tn (tr (tl (tl (tl (.nd .lf (.row [(.nat .i64 2)] 1 3 false 0 0
  0) .lf))))) (tl (tl (tl (tl (.nd .lf (.row [(.nil 1),(.nat .i64 2),(.nat .i64 3)] 3 143 true 0 0 0) .lf))))))) (.row [(.nat .i64 1)] 1 3 false 0 0
  0) .lf) (.row [(.nat .i64 1),(.nat .i64 2)] 2 3 false 0 0 0) (.nd .lf (.row [(.sl k9 0 0 1 1),(.sl k10 0 0 2 2)] 2 34 false 0 0 0) (tl (tl (tl (tn
  (tl (tl (.nd .lf (.row [(.so k1046 12 0 4 0),(.so k1082 9 0 3 0),(.so k1110 12 0 4 0),(.so k1143 12 0 4 0),(.so k1073 3 0 1 0),(.so k1103 3 0 1
  0),(.so k1134 3 0 1 0),(.so k1165 3 0 1 0)] 8 141 true 8 0 0) .lf))) (tl (tl (.nd .lf (.row [(.nil 1),(.nat .i64 2),(.nat .i64 3)] 3 143 true 0 0 0)
  .lf))))))))) (.nd (tn (tr (tn (tl (tl (tl (tl (.nd .lf (.row [(.nat .i64 2)] 1 3 false 0 0 0) .lf))))) (tl (tl (tl (tl (.nd .lf (.row [(.nat .i64
  1)] 1 3 false 0 0 0) .lf))))))) (tl (tl (tl (tl (tl (tl (.nd .lf (.row [(.so k1037 8 0 8 0),(.so k1039 8 0 8 0),(.so k1041 8 0 8 0),(.ref 0 k1034)]
  4 94 false 0 0 0) .lf)))))))) (.row [(.nat .i64 3)] 1 3 false 0 0 0) (tn (tr (tn (tn (tl (tl (tl (.nd .lf (.row [(.nat .i64 1)] 1 3 false 0 0 0)
  .lf)))) (tl (tl (tl (.nd .lf (.row [(.nat .i64 1)] 1 3 false 0 0 0) .lf))))) (tr (tl (tl (tl (.nd .lf (.row [(.sl k1136 0 0 1 1),(.nat .i64 1),(.nat
  .i64 1),(.sl k1144 0 0 1 1),(.nat .i64 2),(.nat .i64 0),(.sl k5 0 0 2 2),(.nat .i64 3),(.nat .i64 2),(.sl k7 0 0 1 1),(.nat .i64 1),(.nat .i64 7)]
  12 143 true 0 0 0) .lf))))))) (tl (tl (tn (tl (tl (tl (.nd .lf (.row [(.bool true),(.bool true),(.bool true),(.bool true),(.bool false),(.bool
  false),(.bool false),(.bool false)] 8 4 true 0 0 0) .lf)))) (tl (tl (tl (.nd .lf (.row [(.nil 1),(.nat .i64 2),(.nat .i64 3)] 3 143 true 0 0 0)
  .lf))))))))))), k1166⟩
def a1_7 : S := ⟨(tn (tn (tn (tl (tr (tr (tr (tl (tl (tl (.nd .lf (.row [(.nat .i64 2)] 1 3 false 0 0 0) .lf)))))))) (tr (tr (tl (tl (tl (tl (tl (.nd
  .lf (.row [(.nat .i64 2)] 1 3 false 0 0 0) .lf))))))))) (tn (.nd .lf (.row [(.nat .i64 1),(.nat .i64 1)] 2 3 false 0 0 0) .lf) (tn (tr (tn (tr (tl
  (tl (tl (.nd .lf (.row [(.sl k1105 0 0 1 1),(.nat .i64 2),(.nat .i64 0),(.sl k1111 0 0 1 1),(.nat .i64 1),(.nat .i64 1),(.sl k5 0 0 2 2),(.nat .i64
  3),(.nat .i64 2),(.sl k7 0 0 1 1),(.nat .i64 1),(.nat .i64 6)] 12 143 true 0 0 0) .lf))))) (tr (tl (tl (tl (.nd .lf (.row [(.nat .i64 1)] 1 3 false
  0 0 0) .lf))))))) (tn (tr (tr (tl (tl (tl (.nd .lf (.row [(.nil 1),(.nat .i64 2),(.nat .i64 3)] 3 143 true 0 0 0) .lf)))))) (tr (tl (tl (tl (tl (.nd
  .lf (.row [(.sl k1079 0 0 1 1),(.nat .i64 1),(.nat .i64 1),(.sl k5 0 0 2 2),(.nat .i64 3),(.nat .i64 2),(.sl k7 0 0 1 1),(.nat .i64 1),(.nat .i64
  5)] 9 143 true 0 0 0) .lf)))))))))) (tn (.nd (.nd (tr (tn (tr (tl (tl (tl (.nd .lf (.row [(.nat .i64 2)] 1 3 false 0 0 0) .lf))))) (tl (tl (tl (tl
  (.nd .lf (.row [(.nil 1),(.nat .i64 2),(.nat .i64 3)] 3 143 true 0 0 0) .lf))))))) (.row [(.nat .i64 1)] 1 3 false 0 0 0) .lf) (.row [(.nat .i64
  1),(.nat .i64 2)] 2 3 false 0 0 0) (.nd (tr (tr (tr (tl (tl (tl (.nd .lf (.row [(.sl k1136 0 0 1 1),(.nat .i64 2),(.nat .i64 0),(.sl k1142 0 0 1
  1),(.nat .i64 1),(.nat .i64 1),(.sl k5 0 0 2 2),(.nat .i64 3),(.nat .i64 2),(.sl k7 0 0 1 1),(.nat .i64 1),(.nat .i64 7)] 12 143 true 0 0 0)
  .lf))))))) (.row [(.sl k9 0 0 1 1),(.sl k10 0 0 2 2)] 2 34 false 0 0 0) (tl (tl (tl (tn (tl (tl (.nd .lf (.row [(.so k1051 12 0 4 0),(.so k1086 9 0
  3 0),(.so k1110 12 0 4 0),(.so k1141 12 0 4 0),(.so k1073 3 0 1 0),(.so k1103 3 0 1 0),(.so k1134 3 0 1 0),(.so k1165 3 0 1 0)] 8 141 true 8 0 0)
  .lf))) (tl (tl (.nd .lf (.row [(.nil 1),(.nat .i64 2),(.nat .i64 3)] 3 143 true 0 0 0) .lf))))))))) (.nd (tn (tr (tl (tl (tl (tl (tl (.nd .lf (.row
  [(.nat .i64 1)] 1 3 false 0 0 0) .lf))))))) (tn (tl (tl (tl (tl (tl (.nd .lf (.row [(.so k1037 8 0 8 0),(.so k1039 8 0 8 0),(.so k1041 8 0 8
  0),(.ref 0 k1034)] 4 94 false 0 0 0) .lf)))))) (tl (tl (tl (tl (tl (.nd .lf (.row [(.sl k1043 0 0 1 1),(.nat .i64 1),(.nat .i64 1),(.sl k1052 0 0 1
  1),(.nat .i64 2),(.nat .i64 0),(.sl k5 0 0 2 2),(.nat .i64 3),(.nat .i64 2),(.sl k7 0 0 1 1),(.nat .i64 1),(.nat .i64 4)] 12 143 true 0 0 0)
  .lf)))))))) (.row [(.nat .i64 3)] 1 3 false 0 0 0) (tn (tr (tn (tr (tl (tl (tl (.nd .lf (.row [(.nat .i64 1)] 1 3 false 0 0 0) .lf))))) (tl (tl (tl
  (tl (.nd .lf (.row [(.nat .i64 1)] 1 3 false 0 0 0) .lf))))))) (tl (tl (tn (tl (tl (tl (.nd .lf (.row [(.bool true),(.bool true),(.bool true),(.bool
  true),(.bool false),(.bool false),(.bool false),(.bool false)] 8 4 true 0 0 0) .lf)))) (tl (tl (tl (.nd .lf (.row [(.nil 1),(.nat .i64 2),(.nat .i64
  3)] 3 143 true 0 0 0) .lf))))))))))), k1166⟩
def a1_8 : S := ⟨(tn (tn (tn (tn (tr (tr (tr (tl (tl (tl (.nd .lf (.row [(.nat .i64 1)] 1 3 false 0 0 0) .lf))))))) (tr (tr (tr (tl (tl (tl (.nd .lf
  (.row [(.nat .i64 2)] 1 3 false 0 0 0) .lf)))))))) (tr (tr (tl (tl (tl (tl (tl (.nd .lf (.row [(.nat .i64 2)] 1 3 false 0 0 0) .lf))))))))) (tn (.nd
  .lf (.row [(.nat .i64 1),(.nat .i64 1)] 2 3 false 0 0 0) (tr (tr (tl (tl (tl (tl (.nd .lf (.row [(.sl k1075 0 0 1 1),(.nat .i64 1),(.nat .i64
  1),(.sl k5 0 0 2 2),(.nat .i64 3),(.nat .i64 2),(.sl k7 0 0 1 1),(.nat .i64 1),(.nat .i64 5)] 9 143 true 0 0 0) .lf)))))))) (tn (tr (tl (tr (tl (tl
  (tl (.nd .lf (.row [(.sl k1105 0 0 1 1),(.nat .i64 2),(.nat .i64 0),(.sl k1111 0 0 1 1),(.nat .i64 1),(.nat .i64 1),(.sl k5 0 0 2 2),(.nat .i64
  3),(.nat .i64 2),(.sl k7 0 0 1 1),(.nat .i64 1),(.nat .i64 6)] 12 143 true 0 0 0) .lf))))))) (tl (tr (tr (tl (tl (tl (.nd .lf (.row [(.nil 1),(.nat
  .i64 2),(.nat .i64 3)] 3 143 true 0 0 0) .lf)))))))))) (tn (.nd (.nd (tr (tn (tr (tl (tl (tl (.nd .lf (.row [(.nat .i64 2)] 1 3 false 0 0 0)
  .lf))))) (tl (tl (tl (tl (.nd .lf (.row [(.nil 1),(.nat .i64 2),(.nat .i64 3)] 3 143 true 0 0 0) .lf))))))) (.row [(.nat .i64 1)] 1 3 false 0 0 0)
  .lf) (.row [(.nat .i64 1),(.nat .i64 2)] 2 3 false 0 0 0) (.nd .lf (.row [(.sl k9 0 0 1 1),(.sl k10 0 0 2 2)] 2 34 false 0 0 0) (tl (tl (tl (tn (tl
  (tl (.nd .lf (.row [(.so k1051 12 0 4 0),(.so k1082 9 0 3 0),(.so k1110 12 0 4 0),(.so k1143 12 0 4 0),(.so k1073 3 0 1 0),(.so k1103 3 0 1 0),(.so
  k1134 3 0 1 0),(.so k1165 3 0 1 0)] 8 141 true 8 0 0) .lf))) (tl (tl (.nd .lf (.row [(.nil 1),(.nat .i64 2),(.nat .i64 3)] 3 143 true 0 0 0)
  .lf))))))))) (.nd (tn (tr (tn (tl (tl (tl (tl (.nd .lf (.row [(.nat .i64 1)] 1 3 false 0 0 0) .lf))))) (tl (tl (tl (tl (.nd .lf (.row [(.nat .i64
  1)] 1 3 false 0 0 0) .lf))))))) (tn (tl (tl (tl (tl (tl (.nd .lf (.row [(.so k1037 8 0 8 0),(.so k1039 8 0 8 0),(.so k1041 8 0 8 0),(.ref 0 k1034)]
  4 94 false 0 0 0) .lf)))))) (tl (tl (tl (tl (tl (.nd .lf (.row [(.sl k1043 0 0 1 1),(.nat .i64 1),(.nat .i64 1),(.sl k1052 0 0 1 1),(.nat .i64
  2),(.nat .i64 0),(.sl k5 0 0 2 2),(.nat .i64 3),(.nat .i64 2),(.sl k7 0 0 1 1),(.nat .i64 1),(.nat .i64 4)] 12 143 true 0 0 0) .lf)))))))) (.row
  [(.nat .i64 3)] 1 3 false 0 0 0) (tn (tr (tn (tr (tl (tl (tl (.nd .lf (.row [(.nat .i64 1)] 1 3 false 0 0 0) .lf))))) (tr (tl (tl (tl (.nd .lf (.row
  [(.sl k1136 0 0 1 1),(.nat .i64 1),(.nat .i64 1),(.sl k1144 0 0 1 1),(.nat .i64 2),(.nat .i64 0),(.sl k5 0 0 2 2),(.nat .i64 3),(.nat .i64 2),(.sl
  k7 0 0 1 1),(.nat .i64 1),(.nat .i64 7)] 12 143 true 0 0 0) .lf))))))) (tl (tl (tn (tl (tl (tl (.nd .lf (.row [(.bool true),(.bool true),(.bool
  true),(.bool true),(.bool false),(.bool false),(.bool false),(.bool false)] 8 4 true 0 0 0) .lf)))) (tl (tl (tl (.nd .lf (.row [(.nil 1),(.nat .i64
  2),(.nat .i64 3)] 3 143 true 0 0 0) .lf))))))))))), k1166⟩
def a1_9 : S := ⟨(tn (tn (tn (tn (tr (tr (tr (tl (tl (tl (.nd .lf (.row [(.nat .i64 2)] 1 3 false 0 0 0) .lf))))))) (tr (tl (tr (tl (tl (tl (.nd .lf
  (.row [(.sl k1105 0 0 1 1),(.nat .i64 1),(.nat .i64 1),(.sl k1113 0 0 1 1),(.nat .i64 2),(.nat .i64 0),(.sl k5 0 0 2 2),(.nat .i64 3),(.nat .i64
  2),(.sl k7 0 0 1 1),(.nat .i64 1),(.nat .i64 6)] 12 143 true 0 0 0) .lf)))))))) (tr (tr (tl (tl (tl (tl (tl (.nd .lf (.row [(.nat .i64 2)] 1 3 false
  0 0 0) .lf))))))))) (tn (.nd .lf (.row [(.nat .i64 1),(.nat .i64 1)] 2 3 false 0 0 0) (tr (tr (tl (tl (tl (tl (.nd .lf (.row [(.sl k1075 0 0 1
  1),(.nat .i64 1),(.nat .i64 1),(.sl k5 0 0 2 2),(.nat .i64 3),(.nat .i64 2),(.sl k7 0 0 1 1),(.nat .i64 1),(.nat .i64 5)] 9 143 true 0 0 0)
  .lf)))))))) (tn (tr (tr (tr (tl (tl (tl (.nd .lf (.row [(.nat .i64 1)] 1 3 false 0 0 0) .lf))))))) (tl (tr (tr (tl (tl (tl (.nd .lf (.row [(.nil
  1),(.nat .i64 2),(.nat .i64 3)] 3 143 true 0 0 0) .lf)))))))))) (tn (.nd (.nd (tr (tn (tr (tl (tl (tl (.nd .lf (.row [(.nat .i64 1)] 1 3 false 0 0
  0) .lf))))) (tl (tl (tl (tl (.nd .lf (.row [(.nil 1),(.nat .i64 2),(.nat .i64 3)] 3 143 true 0 0 0) .lf))))))) (.row [(.nat .i64 1)] 1 3 false 0 0
  0) (tr (tl (tr (tl (tl (tl (.nd .lf (.row [(.nat .i64 2)] 1 3 false 0 0 0) .lf)))))))) (.row [(.nat .i64 1),(.nat .i64 2)] 2 3 false 0 0 0) (.nd (tr
  (tr (tr (tl (tl (tl (.nd .lf (.row [(.sl k1136 0 0 1 1),(.nat .i64 2),(.nat .i64 0),(.sl k1142 0 0 1 1),(.nat .i64 1),(.nat .i64 1),(.sl k5 0 0 2
  2),(.nat .i64 3),(.nat .i64 2),(.sl k7 0 0 1 1),(.nat .i64 1),(.nat .i64 7)] 12 143 true 0 0 0) .lf))))))) (.row [(.sl k9 0 0 1 1),(.sl k10 0 0 2
  2)] 2 34 false 0 0 0) (tl (tl (tl (tn (tl (tl (.nd .lf (.row [(.so k1051 12 0 4 0),(.so k1082 9 0 3 0),(.so k1112 12 0 4 0),(.so k1141 12 0 4
  0),(.so k1073 3 0 1 0),(.so k1103 3 0 1 0),(.so k1134 3 0 1 0),(.so k1165 3 0 1 0)] 8 141 true 8 0 0) .lf))) (tl (tl (.nd .lf (.row [(.nil 1),(.nat
  .i64 2),(.nat .i64 3)] 3 143 true 0 0 0) .lf))))))))) (.nd (tn (tr (tn (tl (tl (tl (tl (.nd .lf (.row [(.nat .i64 1)] 1 3 false 0 0 0) .lf))))) (tl
  (tl (tl (tl (.nd .lf (.row [(.nat .i64 1)] 1 3 false 0 0 0) .lf))))))) (tn (tl (tl (tl (tl (tl (.nd .lf (.row [(.so k1037 8 0 8 0),(.so k1039 8 0 8
  0),(.so k1041 8 0 8 0),(.ref 0 k1034)] 4 94 false 0 0 0) .lf)))))) (tl (tl (tl (tl (tl (.nd .lf (.row [(.sl k1043 0 0 1 1),(.nat .i64 1),(.nat .i64
  1),(.sl k1052 0 0 1 1),(.nat .i64 2),(.nat .i64 0),(.sl k5 0 0 2 2),(.nat .i64 3),(.nat .i64 2),(.sl k7 0 0 1 1),(.nat .i64 1),(.nat .i64 4)] 12 143
  true 0 0 0) .lf)))))))) (.row [(.nat .i64 3)] 1 3 false 0 0 0) (tr (tl (tl (tn (tl (tl (tl (.nd .lf (.row [(.bool true),(.bool true),(.bool
  true),(.bool true),(.bool false),(.bool false),(.bool false),(.bool false)] 8 4 true 0 0 0) .lf)))) (tl (tl (tl (.nd .lf (.row [(.nil 1),(.nat .i64
  2),(.nat .i64 3)] 3 143 true 0 0 0) .lf))))))))))), k1166⟩
def a1_10 : S := ⟨(tn (tn (tn (tn (tr (tr (tr (tl (tl (tl (.nd .lf (.row [(.nat .i64 1)] 1 3 false 0 0 0) .lf))))))) (tr (tn (tr (tl (tl (tl (.nd .lf
  (.row [(.sl k1105 0 0 1 1),(.nat .i64 1),(.nat .i64 1),(.sl k1113 0 0 1 1),(.nat .i64 2),(.nat .i64 0),(.sl k5 0 0 2 2),(.nat .i64 3),(.nat .i64
  2),(.sl k7 0 0 1 1),(.nat .i64 1),(.nat .i64 6)] 12 143 true 0 0 0) .lf))))) (tr (tl (tl (tl (.nd .lf (.row [(.nat .i64 2)] 1 3 false 0 0 0)
  .lf)))))))) (tr (tr (tl (tl (tl (tl (tl (.nd .lf (.row [(.nat .i64 2)] 1 3 false 0 0 0) .lf))))))))) (tn (.nd .lf (.row [(.nat .i64 1),(.nat .i64
  1)] 2 3 false 0 0 0) (tr (tr (tl (tl (tl (tl (.nd .lf (.row [(.sl k1075 0 0 1 1),(.nat .i64 1),(.nat .i64 1),(.sl k5 0 0 2 2),(.nat .i64 3),(.nat
  .i64 2),(.sl k7 0 0 1 1),(.nat .i64 1),(.nat .i64 5)] 9 143 true 0 0 0) .lf)))))))) (tr (tl (tr (tr (tl (tl (tl (.nd .lf (.row [(.nil 1),(.nat .i64
  2),(.nat .i64 3)] 3 143 true 0 0 0) .lf)))))))))) (tn (.nd (.nd (tr (tn (tr (tl (tl (tl (.nd .lf (.row [(.nat .i64 1)] 1 3 false 0 0 0) .lf))))) (tl
  (tl (tl (tl (.nd .lf (.row [(.nil 1),(.nat .i64 2),(.nat .i64 3)] 3 143 true 0 0 0) .lf))))))) (.row [(.nat .i64 1)] 1 3 false 0 0 0) (tr (tl (tr
  (tl (tl (tl (.nd .lf (.row [(.nat .i64 2)] 1 3 false 0 0 0) .lf)))))))) (.row [(.nat .i64 1),(.nat .i64 2)] 2 3 false 0 0 0) (.nd .lf (.row [(.sl k9
  0 0 1 1),(.sl k10 0 0 2 2)] 2 34 false 0 0 0) (tl (tl (tl (tn (tl (tl (.nd .lf (.row [(.so k1051 12 0 4 0),(.so k1082 9 0 3 0),(.so k1112 12 0 4
  0),(.so k1143 12 0 4 0),(.so k1073 3 0 1 0),(.so k1103 3 0 1 0),(.so k1134 3 0 1 0),(.so k1165 3 0 1 0)] 8 141 true 8 0 0) .lf))) (tl (tl (.nd .lf
  (.row [(.nil 1),(.nat .i64 2),(.nat .i64 3)] 3 143 true 0 0 0) .lf))))))))) (.nd (tn (tr (tn (tl (tl (tl (tl (.nd .lf (.row [(.nat .i64 1)] 1 3
  false 0 0 0) .lf))))) (tl (tl (tl (tl (.nd .lf (.row [(.nat .i64 1)] 1 3 false 0 0 0) .lf))))))) (tn (tl (tl (tl (tl (tl (.nd .lf (.row [(.so k1037
  8 0 8 0),(.so k1039 8 0 8 0),(.so k1041 8 0 8 0),(.ref 0 k1034)] 4 94 false 0 0 0) .lf)))))) (tl (tl (tl (tl (tl (.nd .lf (.row [(.sl k1043 0 0 1
  1),(.nat .i64 1),(.nat .i64 1),(.sl k1052 0 0 1 1),(.nat .i64 2),(.nat .i64 0),(.sl k5 0 0 2 2),(.nat .i64 3),(.nat .i64 2),(.sl k7 0 0 1 1),(.nat
  .i64 1),(.nat .i64 4)] 12 143 true 0 0 0) .lf)))))))) (.row [(.nat .i64 3)] 1 3 false 0 0 0) (tn (tr (tr (tr (tl (tl (tl (.nd .lf (.row [(.sl k1136
  0 0 1 1),(.nat .i64 1),(.nat .i64 1),(.sl k1144 0 0 1 1),(.nat .i64 2),(.nat .i64 0),(.sl k5 0 0 2 2),(.nat .i64 3),(.nat .i64 2),(.sl k7 0 0 1
  1),(.nat .i64 1),(.nat .i64 7)] 12 143 true 0 0 0) .lf))))))) (tl (tl (tn (tl (tl (tl (.nd .lf (.row [(.bool true),(.bool true),(.bool true),(.bool
  true),(.bool false),(.bool false),(.bool false),(.bool false)] 8 4 true 0 0 0) .lf)))) (tl (tl (tl (.nd .lf (.row [(.nil 1),(.nat .i64 2),(.nat .i64
  3)] 3 143 true 0 0 0) .lf))))))))))), k1166⟩
def a1_11 : S := ⟨(tn (tn (tn (tl (tr (tr (tr (tl (tl (tl (.nd .lf (.row [(.nat .i64 2)] 1 3 false 0 0 0) .lf)))))))) (tr (tr (tl (tl (tl (tl (tl (.nd
  .lf (.row [(.nat .i64 2)] 1 3 false 0 0 0) .lf))))))))) (tn (.nd .lf (.row [(.nat .i64 1),(.nat .i64 1)] 2 3 false 0 0 0) (tr (tr (tl (tl (tl (tl
  (.nd .lf (.row [(.sl k1075 0 0 1 1),(.nat .i64 1),(.nat .i64 1),(.sl k5 0 0 2 2),(.nat .i64 3),(.nat .i64 2),(.sl k7 0 0 1 1),(.nat .i64 1),(.nat
  .i64 5)] 9 143 true 0 0 0) .lf)))))))) (tn (tr (tn (tr (tl (tl (tl (.nd .lf (.row [(.sl k1105 0 0 1 1),(.nat .i64 2),(.nat .i64 0),(.sl k1111 0 0 1
  1),(.nat .i64 1),(.nat .i64 1),(.sl k5 0 0 2 2),(.nat .i64 3),(.nat .i64 2),(.sl k7 0 0 1 1),(.nat .i64 1),(.nat .i64 6)] 12 143 true 0 0 0)
  .lf))))) (tr (tl (tl (tl (.nd .lf (.row [(.nat .i64 1)] 1 3 false 0 0 0) .lf))))))) (tl (tr (tr (tl (tl (tl (.nd .lf (.row [(.nil 1),(.nat .i64
  2),(.nat .i64 3)] 3 143 true 0 0 0) .lf)))))))))) (tn (.nd (.nd (tr (tn (tr (tl (tl (tl (.nd .lf (.row [(.nat .i64 2)] 1 3 false 0 0 0) .lf))))) (tl
  (tl (tl (tl (.nd .lf (.row [(.nil 1),(.nat .i64 2),(.nat .i64 3)] 3 143 true 0 0 0) .lf))))))) (.row [(.nat .i64 1)] 1 3 false 0 0 0) .lf) (.row
  [(.nat .i64 1),(.nat .i64 2)] 2 3 false 0 0 0) (.nd (tr (tr (tr (tl (tl (tl (.nd .lf (.row [(.sl k1136 0 0 1 1),(.nat .i64 2),(.nat .i64 0),(.sl
  k1142 0 0 1 1),(.nat .i64 1),(.nat .i64 1),(.sl k5 0 0 2 2),(.nat .i64 3),(.nat .i64 2),(.sl k7 0 0 1 1),(.nat .i64 1),(.nat .i64 7)] 12 143 true 0
  0 0) .lf))))))) (.row [(.sl k9 0 0 1 1),(.sl k10 0 0 2 2)] 2 34 false 0 0 0) (tl (tl (tl (tn (tl (tl (.nd .lf (.row [(.so k1051 12 0 4 0),(.so k1082
  9 0 3 0),(.so k1110 12 0 4 0),(.so k1141 12 0 4 0),(.so k1073 3 0 1 0),(.so k1103 3 0 1 0),(.so k1134 3 0 1 0),(.so k1165 3 0 1 0)] 8 141 true 8 0
  0) .lf))) (tl (tl (.nd .lf (.row [(.nil 1),(.nat .i64 2),(.nat .i64 3)] 3 143 true 0 0 0) .lf))))))))) (.nd (tn (tr (tn (tl (tl (tl (tl (.nd .lf
  (.row [(.nat .i64 1)] 1 3 false 0 0 0) .lf))))) (tl (tl (tl (tl (.nd .lf (.row [(.nat .i64 1)] 1 3 false 0 0 0) .lf))))))) (tn (tl (tl (tl (tl (tl
  (.nd .lf (.row [(.so k1037 8 0 8 0),(.so k1039 8 0 8 0),(.so k1041 8 0 8 0),(.ref 0 k1034)] 4 94 false 0 0 0) .lf)))))) (tl (tl (tl (tl (tl (.nd .lf
  (.row [(.sl k1043 0 0 1 1),(.nat .i64 1),(.nat .i64 1),(.sl k1052 0 0 1 1),(.nat .i64 2),(.nat .i64 0),(.sl k5 0 0 2 2),(.nat .i64 3),(.nat .i64
  2),(.sl k7 0 0 1 1),(.nat .i64 1),(.nat .i64 4)] 12 143 true 0 0 0) .lf)))))))) (.row [(.nat .i64 3)] 1 3 false 0 0 0) (tn (tr (tl (tr (tl (tl (tl
  (.nd .lf (.row [(.nat .i64 1)] 1 3 false 0 0 0) .lf))))))) (tl (tl (tn (tl (tl (tl (.nd .lf (.row [(.bool true),(.bool true),(.bool true),(.bool
  true),(.bool false),(.bool false),(.bool false),(.bool false)] 8 4 true 0 0 0) .lf)))) (tl (tl (tl (.nd .lf (.row [(.nil 1),(.nat .i64 2),(.nat .i64
  3)] 3 143 true 0 0 0) .lf))))))))))), k1166⟩
def a1_12 : S := ⟨(tn (tn (tn (tn (tr (tr (tr (tl (tl (tl (.nd .lf (.row [(.nat .i64 1)] 1 3 false 0 0 0) .lf))))))) (tr (tn (tr (tl (tl (tl (.nd .lf
  (.row [(.sl k1105 0 0 1 1),(.nat .i64 1),(.nat .i64 1),(.sl k1113 0 0 1 1),(.nat .i64 2),(.nat .i64 0),(.sl k5 0 0 2 2),(.nat .i64 3),(.nat .i64
  2),(.sl k7 0 0 1 1),(.nat .i64 1),(.nat .i64 6)] 12 143 true 0 0 0) .lf))))) (tr (tl (tl (tl (.nd .lf (.row [(.nat .i64 2)] 1 3 false 0 0 0)
  .lf)))))))) (tr (tr (tl (tl (tl (tl (tl (.nd .lf (.row [(.nat .i64 2)] 1 3 false 0 0 0) .lf))))))))) (tn (.nd .lf (.row [(.nat .i64 1),(.nat .i64
  1)] 2 3 false 0 0 0) .lf) (tr (tn (tr (tr (tl (tl (tl (.nd .lf (.row [(.nil 1),(.nat .i64 2),(.nat .i64 3)] 3 143 true 0 0 0) .lf)))))) (tr (tl (tl
  (tl (tl (.nd .lf (.row [(.sl k1079 0 0 1 1),(.nat .i64 1),(.nat .i64 1),(.sl k5 0 0 2 2),(.nat .i64 3),(.nat .i64 2),(.sl k7 0 0 1 1),(.nat .i64
  1),(.nat .i64 5)] 9 143 true 0 0 0) .lf)))))))))) (tn (.nd (.nd (tr (tn (tr (tl (tl (tl (.nd .lf (.row [(.nat .i64 1)] 1 3 false 0 0 0) .lf))))) (tl
  (tl (tl (tl (.nd .lf (.row [(.nil 1),(.nat .i64 2),(.nat .i64 3)] 3 143 true 0 0 0) .lf))))))) (.row [(.nat .i64 1)] 1 3 false 0 0 0) (tr (tl (tr
  (tl (tl (tl (.nd .lf (.row [(.nat .i64 2)] 1 3 false 0 0 0) .lf)))))))) (.row [(.nat .i64 1),(.nat .i64 2)] 2 3 false 0 0 0) (.nd .lf (.row [(.sl k9
  0 0 1 1),(.sl k10 0 0 2 2)] 2 34 false 0 0 0) (tl (tl (tl (tn (tl (tl (.nd .lf (.row [(.so k1051 12 0 4 0),(.so k1086 9 0 3 0),(.so k1112 12 0 4
  0),(.so k1143 12 0 4 0),(.so k1073 3 0 1 0),(.so k1103 3 0 1 0),(.so k1134 3 0 1 0),(.so k1165 3 0 1 0)] 8 141 true 8 0 0) .lf))) (tl (tl (.nd .lf
  (.row [(.nil 1),(.nat .i64 2),(.nat .i64 3)] 3 143 true 0 0 0) .lf))))))))) (.nd (tn (tr (tl (tl (tl (tl (tl (.nd .lf (.row [(.nat .i64 1)] 1 3
  false 0 0 0) .lf))))))) (tn (tl (tl (tl (tl (tl (.nd .lf (.row [(.so k1037 8 0 8 0),(.so k1039 8 0 8 0),(.so k1041 8 0 8 0),(.ref 0 k1034)] 4 94
  false 0 0 0) .lf)))))) (tl (tl (tl (tl (tl (.nd .lf (.row [(.sl k1043 0 0 1 1),(.nat .i64 1),(.nat .i64 1),(.sl k1052 0 0 1 1),(.nat .i64 2),(.nat
  .i64 0),(.sl k5 0 0 2 2),(.nat .i64 3),(.nat .i64 2),(.sl k7 0 0 1 1),(.nat .i64 1),(.nat .i64 4)] 12 143 true 0 0 0) .lf)))))))) (.row [(.nat .i64
  3)] 1 3 false 0 0 0) (tn (tr (tr (tn (tl (tl (tl (.nd .lf (.row [(.nat .i64 1)] 1 3 false 0 0 0) .lf)))) (tl (tl (tl (.nd .lf (.row [(.sl k1136 0 0
  1 1),(.nat .i64 1),(.nat .i64 1),(.sl k1144 0 0 1 1),(.nat .i64 2),(.nat .i64 0),(.sl k5 0 0 2 2),(.nat .i64 3),(.nat .i64 2),(.sl k7 0 0 1 1),(.nat
  .i64 1),(.nat .i64 7)] 12 143 true 0 0 0) .lf))))))) (tl (tl (tn (tl (tl (tl (.nd .lf (.row [(.bool true),(.bool true),(.bool true),(.bool
  true),(.bool false),(.bool false),(.bool false),(.bool false)] 8 4 true 0 0 0) .lf)))) (tl (tl (tl (.nd .lf (.row [(.nil 1),(.nat .i64 2),(.nat .i64
  3)] 3 143 true 0 0 0) .lf))))))))))), k1166⟩
def a1_13 : S := ⟨(tn (tn (tn (tn (tr (tr (tr (tl (tl (tl (.nd .lf (.row [(.nat .i64 2)] 1 3 false 0 0 0) .lf))))))) (tr (tl (tr (tl (tl (tl (.nd .lf
  (.row [(.sl k1105 0 0 1 1),(.nat .i64 1),(.nat .i64 1),(.sl k1113 0 0 1 1),(.nat .i64 2),(.nat .i64 0),(.sl k5 0 0 2 2),(.nat .i64 3),(.nat .i64
  2),(.sl k7 0 0 1 1),(.nat .i64 1),(.nat .i64 6)] 12 143 true 0 0 0) .lf)))))))) (tr (tr (tl (tl (tl (tl (tl (.nd .lf (.row [(.nat .i64 2)] 1 3 false
  0 0 0) .lf))))))))) (tn (.nd .lf (.row [(.nat .i64 1),(.nat .i64 1)] 2 3 false 0 0 0) .lf) (tn (tr (tr (tr (tl (tl (tl (.nd .lf (.row [(.nat .i64
  1)] 1 3 false 0 0 0) .lf))))))) (tn (tr (tr (tl (tl (tl (.nd .lf (.row [(.nil 1),(.nat .i64 2),(.nat .i64 3)] 3 143 true 0 0 0) .lf)))))) (tr (tl
  (tl (tl (tl (.nd .lf (.row [(.sl k1079 0 0 1 1),(.nat .i64 1),(.nat .i64 1),(.sl k5 0 0 2 2),(.nat .i64 3),(.nat .i64 2),(.sl k7 0 0 1 1),(.nat .i64
  1),(.nat .i64 5)] 9 143 true 0 0 0) .lf)))))))))) (tn (.nd (.nd (tr (tn (tr (tl (tl (tl (.nd .lf (.row [(.nat .i64 1)] 1 3 false 0 0 0) .lf))))) (tl
  (tl (tl (tl (.nd .lf (.row [(.nil 1),(.nat .i64 2),(.nat .i64 3)] 3 143 true 0 0 0) .lf))))))) (.row [(.nat .i64 1)] 1 3 false 0 0 0) (tr (tl (tr
  (tl (tl (tl (.nd .lf (.row [(.nat .i64 2)] 1 3 false 0 0 0) .lf)))))))) (.row [(.nat .i64 1),(.nat .i64 2)] 2 3 false 0 0 0) (.nd (tr (tr (tr (tl
  (tl (tl (.nd .lf (.row [(.sl k1136 0 0 1 1),(.nat .i64 2),(.nat .i64 0),(.sl k1142 0 0 1 1),(.nat .i64 1),(.nat .i64 1),(.sl k5 0 0 2 2),(.nat .i64
  3),(.nat .i64 2),(.sl k7 0 0 1 1),(.nat .i64 1),(.nat .i64 7)] 12 143 true 0 0 0) .lf))))))) (.row [(.sl k9 0 0 1 1),(.sl k10 0 0 2 2)] 2 34 false 0
  0 0) (tl (tl (tl (tn (tl (tl (.nd .lf (.row [(.so k1051 12 0 4 0),(.so k1086 9 0 3 0),(.so k1112 12 0 4 0),(.so k1141 12 0 4 0),(.so k1073 3 0 1
  0),(.so k1103 3 0 1 0),(.so k1134 3 0 1 0),(.so k1165 3 0 1 0)] 8 141 true 8 0 0) .lf))) (tl (tl (.nd .lf (.row [(.nil 1),(.nat .i64 2),(.nat .i64
  3)] 3 143 true 0 0 0) .lf))))))))) (.nd (tn (tr (tl (tl (tl (tl (tl (.nd .lf (.row [(.nat .i64 1)] 1 3 false 0 0 0) .lf))))))) (tn (tl (tl (tl (tl
  (tl (.nd .lf (.row [(.so k1037 8 0 8 0),(.so k1039 8 0 8 0),(.so k1041 8 0 8 0),(.ref 0 k1034)] 4 94 false 0 0 0) .lf)))))) (tl (tl (tl (tl (tl (.nd
  .lf (.row [(.sl k1043 0 0 1 1),(.nat .i64 1),(.nat .i64 1),(.sl k1052 0 0 1 1),(.nat .i64 2),(.nat .i64 0),(.sl k5 0 0 2 2),(.nat .i64 3),(.nat .i64
  2),(.sl k7 0 0 1 1),(.nat .i64 1),(.nat .i64 4)] 12 143 true 0 0 0) .lf)))))))) (.row [(.nat .i64 3)] 1 3 false 0 0 0) (tn (tr (tr (tl (tl (tl (tl
  (.nd .lf (.row [(.nat .i64 1)] 1 3 false 0 0 0) .lf))))))) (tl (tl (tn (tl (tl (tl (.nd .lf (.row [(.bool true),(.bool true),(.bool true),(.bool
  true),(.bool false),(.bool false),(.bool false),(.bool false)] 8 4 true 0 0 0) .lf)))) (tl (tl (tl (.nd .lf (.row [(.nil 1),(.nat .i64 2),(.nat .i64
  3)] 3 143 true 0 0 0) .lf))))))))))), k1166⟩
def a1_14 : S := ⟨(tn (tn (tn (tn (tr (tr (tr (tl (tl (tl (.nd .lf (.row [(.nat .i64 1)] 1 3 false 0 0 0) .lf))))))) (tr (tr (tr (tl (tl (tl (.nd .lf
  (.row [(.nat .i64 2)] 1 3 false 0 0 0) .lf)))))))) (tr (tr (tl (tl (tl (tl (tl (.nd .lf (.row [(.nat .i64 2)] 1 3 false 0 0 0) .lf))))))))) (tn (.nd
  .lf (.row [(.nat .i64 1),(.nat .i64 1)] 2 3 false 0 0 0) .lf) (tn (tr (tl (tr (tl (tl (tl (.nd .lf (.row [(.sl k1105 0 0 1 1),(.nat .i64 2),(.nat
  .i64 0),(.sl k1111 0 0 1 1),(.nat .i64 1),(.nat .i64 1),(.sl k5 0 0 2 2),(.nat .i64 3),(.nat .i64 2),(.sl k7 0 0 1 1),(.nat .i64 1),(.nat .i64 6)]
  12 143 true 0 0 0) .lf))))))) (tn (tr (tr (tl (tl (tl (.nd .lf (.row [(.nil 1),(.nat .i64 2),(.nat .i64 3)] 3 143 true 0 0 0) .lf)))))) (tr (tl (tl
  (tl (tl (.nd .lf (.row [(.sl k1079 0 0 1 1),(.nat .i64 1),(.nat .i64 1),(.sl k5 0 0 2 2),(.nat .i64 3),(.nat .i64 2),(.sl k7 0 0 1 1),(.nat .i64
  1),(.nat .i64 5)] 9 143 true 0 0 0) .lf)))))))))) (tn (.nd (.nd (tr (tn (tr (tl (tl (tl (.nd .lf (.row [(.nat .i64 2)] 1 3 false 0 0 0) .lf))))) (tl
  (tl (tl (tl (.nd .lf (.row [(.nil 1),(.nat .i64 2),(.nat .i64 3)] 3 143 true 0 0 0) .lf))))))) (.row [(.nat .i64 1)] 1 3 false 0 0 0) .lf) (.row
  [(.nat .i64 1),(.nat .i64 2)] 2 3 false 0 0 0) (.nd .lf (.row [(.sl k9 0 0 1 1),(.sl k10 0 0 2 2)] 2 34 false 0 0 0) (tl (tl (tl (tn (tl (tl (.nd
  .lf (.row [(.so k1051 12 0 4 0),(.so k1086 9 0 3 0),(.so k1110 12 0 4 0),(.so k1143 12 0 4 0),(.so k1073 3 0 1 0),(.so k1103 3 0 1 0),(.so k1134 3 0
  1 0),(.so k1165 3 0 1 0)] 8 141 true 8 0 0) .lf))) (tl (tl (.nd .lf (.row [(.nil 1),(.nat .i64 2),(.nat .i64 3)] 3 143 true 0 0 0) .lf))))))))) (.nd
  (tn (tr (tl (tl (tl (tl (tl (.nd .lf (.row [(.nat .i64 1)] 1 3 false 0 0 0) .lf))))))) (tn (tl (tl (tl (tl (tl (.nd .lf (.row [(.so k1037 8 0 8
  0),(.so k1039 8 0 8 0),(.so k1041 8 0 8 0),(.ref 0 k1034)] 4 94 false 0 0 0) .lf)))))) (tl (tl (tl (tl (tl (.nd .lf (.row [(.sl k1043 0 0 1 1),(.nat
  .i64 1),(.nat .i64 1),(.sl k1052 0 0 1 1),(.nat .i64 2),(.nat .i64 0),(.sl k5 0 0 2 2),(.nat .i64 3),(.nat .i64 2),(.sl k7 0 0 1 1),(.nat .i64
  1),(.nat .i64 4)] 12 143 true 0 0 0) .lf)))))))) (.row [(.nat .i64 3)] 1 3 false 0 0 0) (tn (tr (tn (tr (tl (tl (tl (.nd .lf (.row [(.nat .i64 1)] 1
  3 false 0 0 0) .lf))))) (tn (tl (tl (tl (.nd .lf (.row [(.nat .i64 1)] 1 3 false 0 0 0) .lf)))) (tl (tl (tl (.nd .lf (.row [(.sl k1136 0 0 1
  1),(.nat .i64 1),(.nat .i64 1),(.sl k1144 0 0 1 1),(.nat .i64 2),(.nat .i64 0),(.sl k5 0 0 2 2),(.nat .i64 3),(.nat .i64 2),(.sl k7 0 0 1 1),(.nat
  .i64 1),(.nat .i64 7)] 12 143 true 0 0 0) .lf))))))) (tl (tl (tn (tl (tl (tl (.nd .lf (.row [(.bool true),(.bool true),(.bool true),(.bool
  true),(.bool false),(.bool false),(.bool false),(.bool false)] 8 4 true 0 0 0) .lf)))) (tl (tl (tl (.nd .lf (.row [(.nil 1),(.nat .i64 2),(.nat .i64
  3)] 3 143 true 0 0 0) .lf))))))))))), k1166⟩
def a1_15 : S := ⟨(tn (tn (tl (tl (tr (tr (tr (tl (tl (tl (.nd .lf (.row [(.nat .i64 2)] 1 3 false 0 0 0) .lf))))))))) (tn (.nd .lf (.row [(.nat .i64
  1),(.nat .i64 1)] 2 3 false 0 0 0) .lf) (tn (tr (tn (tn (tl (tl (tl (.nd .lf (.row [(.sl k1043 0 0 1 1),(.nat .i64 2),(.nat .i64 0),(.sl k1047 0 0 1
  1),(.nat .i64 1),(.nat .i64 1),(.sl k5 0 0 2 2),(.nat .i64 3),(.nat .i64 2),(.sl k7 0 0 1 1),(.nat .i64 1),(.nat .i64 4)] 12 143 true 0 0 0) .lf))))
  (tl (tl (tl (.nd .lf (.row [(.sl k1105 0 0 1 1),(.nat .i64 2),(.nat .i64 0),(.sl k1111 0 0 1 1),(.nat .i64 1),(.nat .i64 1),(.sl k5 0 0 2 2),(.nat
  .i64 3),(.nat .i64 2),(.sl k7 0 0 1 1),(.nat .i64 1),(.nat .i64 6)] 12 143 true 0 0 0) .lf))))) (tr (tl (tl (tl (.nd .lf (.row [(.nat .i64 1)] 1 3
  false 0 0 0) .lf))))))) (tn (tr (tr (tl (tl (tl (.nd .lf (.row [(.nil 1),(.nat .i64 2),(.nat .i64 3)] 3 143 true 0 0 0) .lf)))))) (tr (tl (tl (tl
  (tl (.nd .lf (.row [(.sl k1079 0 0 1 1),(.nat .i64 1),(.nat .i64 1),(.sl k5 0 0 2 2),(.nat .i64 3),(.nat .i64 2),(.sl k7 0 0 1 1),(.nat .i64
  1),(.nat .i64 5)] 9 143 true 0 0 0) .lf)))))))))) (tn (.nd (.nd (tr (tn (tr (tl (tl (tl (.nd .lf (.row [(.nat .i64 2)] 1 3 false 0 0 0) .lf))))) (tl
  (tl (tl (tl (.nd .lf (.row [(.nil 1),(.nat .i64 2),(.nat .i64 3)] 3 143 true 0 0 0) .lf))))))) (.row [(.nat .i64 1)] 1 3 false 0 0 0) .lf) (.row
  [(.nat .i64 1),(.nat .i64 2)] 2 3 false 0 0 0) (.nd (tr (tr (tr (tl (tl (tl (.nd .lf (.row [(.sl k1136 0 0 1 1),(.nat .i64 2),(.nat .i64 0),(.sl
  k1142 0 0 1 1),(.nat .i64 1),(.nat .i64 1),(.sl k5 0 0 2 2),(.nat .i64 3),(.nat .i64 2),(.sl k7 0 0 1 1),(.nat .i64 1),(.nat .i64 7)] 12 143 true 0
  0 0) .lf))))))) (.row [(.sl k9 0 0 1 1),(.sl k10 0 0 2 2)] 2 34 false 0 0 0) (tl (tl (tl (tn (tl (tl (.nd .lf (.row [(.so k1046 12 0 4 0),(.so k1086
  9 0 3 0),(.so k1110 12 0 4 0),(.so k1141 12 0 4 0),(.so k1073 3 0 1 0),(.so k1103 3 0 1 0),(.so k1134 3 0 1 0),(.so k1165 3 0 1 0)] 8 141 true 8 0
  0) .lf))) (tl (tl (.nd .lf (.row [(.nil 1),(.nat .i64 2),(.nat .i64 3)] 3 143 true 0 0 0) .lf))))))))) (.nd (tn (tr (tl (tl (tl (tl (tl (.nd .lf
  (.row [(.nat .i64 2)] 1 3 false 0 0 0) .lf))))))) (tl (tl (tl (tl (tl (tl (.nd .lf (.row [(.so k1037 8 0 8 0),(.so k1039 8 0 8 0),(.so k1041 8 0 8
  0),(.ref 0 k1034)] 4 94 false 0 0 0) .lf)))))))) (.row [(.nat .i64 3)] 1 3 false 0 0 0) (tn (tr (tn (tn (tl (tl (tl (.nd .lf (.row [(.nat .i64 1)] 1
  3 false 0 0 0) .lf)))) (tl (tl (tl (.nd .lf (.row [(.nat .i64 1)] 1 3 false 0 0 0) .lf))))) (tl (tl (tl (tl (.nd .lf (.row [(.nat .i64 1)] 1 3 false
  0 0 0) .lf))))))) (tl (tl (tn (tl (tl (tl (.nd .lf (.row [(.bool true),(.bool true),(.bool true),(.bool true),(.bool false),(.bool false),(.bool
  false),(.bool false)] 8 4 true 0 0 0) .lf)))) (tl (tl (tl (.nd .lf (.row [(.nil 1),(.nat .i64 2),(.nat .i64 3)] 3 143 true 0 0 0) .lf))))))))))),
  k1166⟩
def z1 : S := ⟨(tn (tr (tl (.nd .lf (.row [(.nat .i64 1),(.nat .i64 1)] 2 3 false 0 0 0) .lf))) (tl (tn (.nd .lf (.row [(.nat .i64 1)] 1 3 false 0 0
  0) .lf) (.nd .lf (.row [(.sl k9 0 0 1 1),(.sl k10 0 0 2 2)] 2 34 false 0 0 0) .lf)))), k1764⟩
def i1_0 : List HF := [⟨30, [(.ptr k1035 0 0)], a1_0, .ret (.bool true) z1⟩, ⟨30, [(.ptr k1035 0 0)], a1_1, .ret (.bool true) z1⟩, ⟨30, [(.ptr k1035 0
  0)], a1_2, .ret (.bool true) z1⟩, ⟨30, [(.ptr k1035 0 0)], a1_3, .ret (.bool true) z1⟩, ⟨30, [(.ptr k1035 0 0)], a1_4, .ret (.bool true) z1⟩, ⟨30,
  [(.ptr k1035 0 0)], a1_5, .ret (.bool true) z1⟩, ⟨30, [(.ptr k1035 0 0)], a1_6, .ret (.bool true) z1⟩, ⟨30, [(.ptr k1035 0 0)], a1_7, .ret (.bool
  true) z1⟩, ⟨30, [(.ptr k1035 0 0)], a1_8, .ret (.bool true) z1⟩, ⟨30, [(.ptr k1035 0 0)], a1_9, .ret (.bool true) z1⟩]
def i1_1 : List HF := [⟨30, [(.ptr k1035 0 0)], a1_10, .ret (.bool true) z1⟩, ⟨30, [(.ptr k1035 0 0)], a1_11, .ret (.bool true) z1⟩, ⟨30, [(.ptr k1035
  0 0)], a1_12, .ret (.bool true) z1⟩, ⟨30, [(.ptr k1035 0 0)], a1_13, .ret (.bool true) z1⟩, ⟨30, [(.ptr k1035 0 0)], a1_14, .ret (.bool true) z1⟩,
  ⟨30, [(.ptr k1035 0 0)], a1_15, .ret (.bool true) z1⟩]
noncomputable def x1 : F := List.rec (motive := fun _ => F) (.ret (.ptr k1035 0 0) a1_15) (fun s _ ih => .alt (.ret (.ptr k1035 0 0) s) ih) [
a1_0, a1_1, a1_2, a1_3, a1_4, a1_5, a1_6, a1_7, a1_8, a1_9, a1_10, a1_11, a1_12, a1_13, a1_14]
noncomputable def b1 : HF := ⟨29, [(.sl k1000 0 0 2 2),(.nat .i64 3)], ⟨(tn (tn (tl (.nd .lf (.row [(.nat .i64 1),(.nat .i64 2)] 2 3 false 0 0 0) (tl
  (tr (tr (tr (tr (.nd .lf (.row [(.sl k5 0 0 2 2),(.sl k6 0 0 1 1),(.sl k7 0 0 1 1),(.sl k8 0 0 2 2)] 4 34 false 0 0 0) .lf)))))))) (.nd (.nd .lf
  (.row [(.nat .i64 1),(.nat .i64 1)] 2 3 false 0 0 0) .lf) (.row [(.nat .i64 3)] 1 3 false 0 0 0) .lf)) (tn (.nd (.nd .lf (.row [(.nat .i64 1)] 1 3
  false 0 0 0) .lf) (.row [(.nat .i64 1),(.nat .i64 2)] 2 3 false 0 0 0) (.nd .lf (.row [(.sl k9 0 0 1 1),(.sl k10 0 0 2 2)] 2 34 false 0 0 0) .lf))
  (.nd .lf (.row [(.nat .i64 3)] 1 3 false 0 0 0) .lf))), k1016⟩, x1⟩
end Go.Proofs.YtmplkbipoacmmaaGreatDoor.translitKnown
