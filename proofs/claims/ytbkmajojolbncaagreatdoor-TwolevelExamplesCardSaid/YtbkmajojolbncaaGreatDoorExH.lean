/- The program as the evaluator takes it (three lists of hints, which the proofs need not trust), and eight calls of the closed run, each with what it is given and what it answers. No statement of the seat stands here. No condition. By an AI agent. -/
import Derived.Test.YtbkmajojolbncaaGreatDoorChecked
import Derived.KernelRfl
import Derived.Test.YtbkmajojolbncaaGreatDoorEvG
namespace Go.Proofs.YtbkmajojolbncaaGreatDoor
open Go.Ev
set_option maxRecDepth 100000
noncomputable def pc (hooks : List Hook) : PC := PC.of Tryz.prog hooks [0, 0, 1, 1496577676626844588240573268701473812127674892189696, 1180587117117783400448,
  2596142238358291567181896492221440, 4951755397845521146998422528, 72048797944772608, 174224405710016068418606534374984031047680,
  18389946490379515917061871956257937964913561177922994176, 2, 134217712, 4035119644288212992, 224, 1162770260129060706482046349977059328, 67091392,
  25108406941546723055343157692830665664409421777855601188992, 9007162746437568, 1648730569728, 1099510546368, 137405398784, 2535298707046955702685196550016,
  70368735784800, 1125899890056896, 4120512, 8387456, 1044416, 8126192, 170141183460466738322183768001071808256, 16776112, 2147450368,
  1645454340507299563227537572269046104477628336054785784338710528, 13510790225065984, 24, 992, 130496, 548681513920, 536378752, 480, 504, 245608, 66985920,
  143427993306398208, 70361219594240, 8160, 480, 496, 1099511381504, 68719460352, 1073741696, 33536960, 3931584, 1853679960253787575021989888, 2040,
  18173039004833563770138671581757440, 2596148429187133552496082432262144, 56, 536870904, 130496, 504, 1069514496, 3668928, 1008, 16352, 504, 16777184,
  730393658292466465833344598787316622020663279616, 314127133852361332105981976576, 4190176, 1033017105177713299456, 16924813900647812124508160, 4363686506496,
  68169687301632, 2147417984, 840267397791616, 457792, 24, 224, 32, 232, 457792, 174203158810675334242229616264526442663936, 562821070842880,
  680564731306575584541041368011082825728, 248, 4088, 562945658189824, 8371648, 16911371136, 288230372125171968, 5574846006881141129850776348848519153991680,
  992, 766247770410641131852506072760587465336250576880533504, 1016, 34290532336, 285978026578016256, 2147475296, 2096064, 270565506816, 50312960, 88,
  2164659306496, 2147483640, 480, 216172773926502272, 4064, 166153499473112122929719053475774464, 480, 14507109835234795428234112, 8357760, 32752, 68585257984,
  35181972946432, 224, 224, 248, 1097112485760, 18444616518575357440, 0, 41497810046653206748914664780986368, 8128, 65216, 16352, 4397509111552, 480,
  1073726400, 496, 2040, 1776, 3968, 1920, 2096640, 1920, 309484936034078502816710656, 232, 240, 140600049393664, 5070602400839122185167794339840, 16352,
  1048032, 480, 131056, 1046448, 32696, 6473907284443136, 33226624, 72057559678124032, 549613198720, 374144396855965948448390537225033987085080318689280,
  288194914751872512, 457792, 1016, 24, 70368744177632, 10633823956375806599519922393146441728, 1073741568, 288226220769015808, 480, 992,
  21778061098346189844478291628122334298112, 248, 87111610932532326191870328324693962981376, 9007061815261952, 4397509111552, 268435424,
  356811880641193946689691826088336933575983104, 457792, 2721885089993692897886287760060074426112, 2266699018289282147153920, 140736414328832, 16320, 67042752,
  1160955926341941713408, 4294831872, 1073741696, 8589934080, 8589934080, 88, 70360154226688, 24, 6228864, 10384593407414639918073416691740640, 6228864,
  2097144, 8796088811008, 2032, 562948879675136, 72057592963659776, 36893479342736111616, 123286018324422656, 4294958848,
  10888952654262176519432384150372830132224, 131040, 19342794090620444689299456, 374144419134252505651064520051920053992477580849152, 524008, 33537768, 24,
  523744, 36893487597654834688, 281474972483328, 8555330560, 1047520, 713275394550715778319802418023468735560876032, 9007182074854400, 1152921496014807040,
  147573917370944446464, 7890306461253730304, 17179835392, 2787571881499075797774052896007796375347200, 1237938821800130672580354048,
  383123885193474569774374055887950278561850630313328640, 33519488, 196032, 1016, 536543040, 144115179485392896, 61408, 16637888, 37778931860723777658880,
  137403301872, 150525431606284996046848, 8657507872256, 32480, 1073602816, 4194302, 504, 504, 103582791362410496, 232, 75557859222245976505344, 120,
  8589934584, 32640, 68719474688, 56, 1048032, 4835702990227041035218944, 261632, 2199023247360, 2096608, 7904, 176, 962064154560, 34090744768, 8556375552,
  33029888, 281432027021312, 148754255977818640873472, 17171475456, 928, 4835703260440209768046592, 268172288, 4290768896, 16711424, 1984, 8064, 103048806384,
  34342829312, 4186048, 258016, 260013824, 274877644160, 1504, 2080760, 32192, 8384256, 20282409471425404962397755244544, 17163084480, 224, 7696579557248, 224,
  262112, 10448029773009037967681152029858612457160704, 224, 182686308445276092278898780960839177993124249600, 224, 524224,
  42524890909723710779775849120990470144, 16376, 9007190629408768, 261632, 444288, 444288, 1048064, 224, 0, 56, 2266735911759287759665152, 523264, 4294961792,
  524220, 1073740800, 224, 31457136, 248, 56, 0, 548648513024, 32744, 32752, 184149205606795480238948490449146349755637850570752,
  5050176389969560855884357697536, 0, 130944, 2251799813668864, 1073741792, 56, 0, 248, 248, 0, 16360, 16360, 0, 0, 0, 0, 0, 0, 0, 0, 0, 0, 0, 0, 0, 0, 0, 0, 0,
  0, 0, 0, 0, 0, 0, 0, 7] [(297, 2), (303, 1), (311, 8)] [(7, [7, 7, 0, 7]), (8, [7, 7, 0, 7]), (33, [7, 7]), (34, [7, 7]), (94, [7, 7, 7]), (95, [7, 7, 7]),
  (118, [7, 7, 8, 7]), (119, [7, 7, 8, 7]), (140, []), (141, []), (197, [7, 7]), (198, [7, 7]), (212, [7, 0]), (213, [7, 0]), (216, [7, 7]), (217, [7, 7]),
  (272, [7, 7, 7]), (273, [7, 7, 7]), (289, [0, 8, 8]), (290, [0, 8, 8]), (302, [])]
theorem pcOk (hooks : List Hook) : PcOk Tryz.prog (pc hooks) ∧ (pc hooks).hooks = hooks :=
  pcOk_of (by kernel_rfl) (by kernel_rfl) (by kernel_rfl) (by kernel_rfl)
theorem globals : Tryz.prog.globals.size = 4 := by kernel_rfl
/-- a hook out of its test, which looks at hooks that hold -/
theorem hook_of_test {hs : List Hook} (hh : ∀ h ∈ hs, HookOk Tryz.prog h) {h : Hook} (ht : hookB (pc hs) 300 h = true) : HookOk Tryz.prog h :=
  hookB_ok (pcOk hs).1 (by rw [(pcOk hs).2]; exact hh) ht
def tl (t : Tr B) : Tr B := .nd t .none .lf
def tr (t : Tr B) : Tr B := .nd .lf .none t
def tn (t u : Tr B) : Tr B := .nd t .none u
def k1 : K := .h
def k2 : K := .o k1
def k3 : K := .i k1
def k4 : K := .o k2
def k5 : K := .i k2
def k6 : K := .o k3
def k7 : K := .i k3
def k8 : K := .o k4
def k9 : K := .i k4
def k11 : K := .i k5
def k12 : K := .o k6
def k13 : K := .i k6
def k14 : K := .o k7
def k15 : K := .i k7
def k16 : K := .o k8
def k17 : K := .i k8
def k19 : K := .i k9
def k22 : K := .o k11
def k23 : K := .i k11
def k24 : K := .o k12
def k26 : K := .o k13
def k27 : K := .i k13
def k28 : K := .o k14
def k30 : K := .o k15
def k31 : K := .i k15
def k32 : K := .o k16
def k35 : K := .i k17
def k38 : K := .o k19
def k44 : K := .o k22
def k47 : K := .i k23
def k49 : K := .i k24
def k53 : K := .i k26
def k54 : K := .o k27
def k56 : K := .o k28
def k60 : K := .o k30
def k63 : K := .i k31
def k64 : K := .o k32
def k70 : K := .o k35
def k76 : K := .o k38
def k88 : K := .o k44
def k89 : K := .i k44
def k94 : K := .o k47
def k98 : K := .o k49
def k99 : K := .i k49
def k107 : K := .i k53
def k109 : K := .i k54
def k113 : K := .i k56
def k120 : K := .o k60
def k126 : K := .o k63
def k127 : K := .i k63
def k128 : K := .o k64
def k140 : K := .o k70
def k153 : K := .i k76
def k176 : K := .o k88
def k178 : K := .o k89
def k188 : K := .o k94
def k197 : K := .i k98
def k198 : K := .o k99
def k214 : K := .o k107
def k219 : K := .i k109
def k226 : K := .o k113
def k241 : K := .i k120
def k253 : K := .i k126
def k254 : K := .o k127
def k257 : K := .i k128
def k280 : K := .o k140
def k307 : K := .i k153
def k352 : K := .o k176
def k353 : K := .i k176
def k357 : K := .i k178
def k376 : K := .o k188
def k395 : K := .i k197
def k396 : K := .o k198
def k428 : K := .o k214
def k439 : K := .i k219
def k453 : K := .i k226
def k483 : K := .i k241
def k506 : K := .o k253
def k507 : K := .i k253
def k508 : K := .o k254
def k514 : K := .o k257
def k561 : K := .i k280
def k614 : K := .o k307
def k615 : K := .i k307
def k705 : K := .i k352
def k706 : K := .o k353
def k715 : K := .i k357
def k753 : K := .i k376
def k790 : K := .o k395
def k791 : K := .i k395
def k792 : K := .o k396
def k856 : K := .o k428
def k857 : K := .i k428
def k879 : K := .i k439
def k906 : K := .o k453
def k966 : K := .o k483
def k1013 : K := .i k506
def k1015 : K := .i k507
def k1016 : K := .o k508
def k1029 : K := .i k514
def k1122 : K := .o k561
def k1229 : K := .i k614
def k1230 : K := .o k615
def k1231 : K := .i k615
def k1410 : K := .o k705
def k1413 : K := .i k706
def k1430 : K := .o k715
def k1506 : K := .o k753
def k1507 : K := .i k753
def k1581 : K := .i k790
def k1582 : K := .o k791
def k1583 : K := .i k791
def k1584 : K := .o k792
def k1585 : K := .i k792
def k1713 : K := .i k856
def k1714 : K := .o k857
def k1759 : K := .i k879
def k1812 : K := .o k906
def k1932 : K := .o k966
def k1933 : K := .i k966
def k2026 : K := .o k1013
def k2031 : K := .i k1015
def k2032 : K := .o k1016
def k2058 : K := .o k1029
def k2245 : K := .i k1122
def k2459 : K := .i k1229
def k2460 : K := .o k1230
def k2461 : K := .i k1230
def k2462 : K := .o k1231
def k2820 : K := .o k1410
def k2826 : K := .o k1413
def k2861 : K := .i k1430
def k3013 : K := .i k1506
def k3014 : K := .o k1507
def k3162 : K := .o k1581
def k3164 : K := .o k1582
def k3166 : K := .o k1583
def k3168 : K := .o k1584
def k3169 : K := .i k1584
def k3170 : K := .o k1585
def k3426 : K := .o k1713
def k3427 : K := .i k1713
def k3428 : K := .o k1714
def k3429 : K := .i k1714
def k3519 : K := .i k1759
def k3624 : K := .o k1812
def k3864 : K := .o k1932
def k3865 : K := .i k1932
def k3866 : K := .o k1933
def k4053 : K := .i k2026
def k4063 : K := .i k2031
def k4064 : K := .o k2032
def k4065 : K := .i k2032
def k4117 : K := .i k2058
def k4491 : K := .i k2245
def k4919 : K := .i k2459
def k4920 : K := .o k2460
def k4922 : K := .o k2461
def k4923 : K := .i k2461
def k4924 : K := .o k2462
def k5640 : K := .o k2820
def k5641 : K := .i k2820
def k5653 : K := .i k2826
def k5722 : K := .o k2861
def k6026 : K := .o k3013
def k6028 : K := .o k3014
def k6324 : K := .o k3162
def k6329 : K := .i k3164
def k6332 : K := .o k3166
def k6336 : K := .o k3168
def k6338 : K := .o k3169
def k6339 : K := .i k3169
def k6340 : K := .o k3170
def k6853 : K := .i k3426
def k6855 : K := .i k3427
def k6857 : K := .i k3428
def k6859 : K := .i k3429
def k7039 : K := .i k3519
def k7249 : K := .i k3624
def k7729 : K := .i k3864
def k7730 : K := .o k3865
def k7732 : K := .o k3866
def k7733 : K := .i k3866
def k8106 : K := .o k4053
def k8107 : K := .i k4053
def k8126 : K := .o k4063
def k8128 : K := .o k4064
def k8129 : K := .i k4064
def k8131 : K := .i k4065
def k8234 : K := .o k4117
def k8983 : K := .i k4491
def k9839 : K := .i k4919
def k9840 : K := .o k4920
def k9844 : K := .o k4922
def k9846 : K := .o k4923
def k9847 : K := .i k4923
def k9848 : K := .o k4924
def k11281 : K := .i k5640
def k11282 : K := .o k5641
def k11307 : K := .i k5653
def k11444 : K := .o k5722
def k13707 : K := .i k6853
def k13711 : K := .i k6855
def k13714 : K := .o k6857
def k13718 : K := .o k6859
def k14079 : K := .i k7039
def k14498 : K := .o k7249
def k15459 : K := .i k7729
def k15460 : K := .o k7730
def k15464 : K := .o k7732
def k15466 : K := .o k7733
def k16253 : K := .i k8126
def k16257 : K := .i k8128
def k16259 : K := .i k8129
def k16263 : K := .i k8131
def k16468 : K := .o k8234
def k17966 : K := .o k8983
def k17967 : K := .i k8983
def k22562 : K := .o k11281
def k22564 : K := .o k11282
def k22615 : K := .i k11307
def k22889 : K := .i k11444
def k27415 : K := .i k13707
def k27423 : K := .i k13711
def k27428 : K := .o k13714
def k27436 : K := .o k13718
def k28159 : K := .i k14079
def k32506 : K := .o k16253
def k32514 : K := .o k16257
def k32519 : K := .i k16259
def k32527 : K := .i k16263
def k32936 : K := .o k16468
def hk0 : Hook := ⟨12, [(.ls 0 [(.sl k11 0 0 4 4),(.so k17 8 0 2 0)]),(.sl k22 0 0 2 2),(.nat .i64 9)], ⟨(tn (tn (tn (.nd .lf (.row [(.nat .i64 1),(.nat .i64
  0),(.nat .i64 0),(.str []),(.nat .i64 0),(.nat .i64 0),(.nil 1),(.nat .i64 1),(.nat .i64 0),(.nat .i64 0),(.str []),(.nat .i64 0),(.nat .i64 0),(.nil 1)] 14
  27 false 0 0 0) .lf) (tl (.nd .lf (.row [(.nat .i64 2),(.nat .i64 2)] 2 34 false 0 0 0) .lf))) (tr (tl (.nd .lf (.row [(.nat .i64 1),(.nat .i64 2)] 2 3 false
  0 0 0) .lf)))) (tn (tn (tl (.nd .lf (.row [(.nat .i64 3),(.nat .i64 2),(.nat .i64 3),(.sl k15 0 0 1 1),(.nat .i64 4),(.nat .i64 1),(.nat .i64 0),(.sl k8 0 0 1
  1)] 8 37 true 0 0 0) .lf)) (tl (.nd .lf (.row [(.nat .i64 2),(.nat .i64 3)] 2 34 false 0 0 0) .lf))) (tn (.nd (.nd .lf (.row [(.nat .i64 1),(.nat .i64 1)] 2
  34 false 0 0 0) .lf) (.row [(.nat .i64 1),(.nat .i64 1),(.nat .i64 2),(.nat .i64 2),(.nat .i64 2),(.nat .i64 3),(.nat .i64 1),(.nat .i64 0)] 8 34 false 0 0 0)
  .lf) (.nd .lf (.row [(.nat .i64 2),(.nat .i64 1),(.nat .i64 1),(.str []),(.nat .i64 0),(.nat .i64 0),(.nil 1),(.nat .i64 1),(.nat .i64 0),(.nat .i64 0),(.str
  []),(.nat .i64 0),(.nat .i64 0),(.nil 1)] 14 27 false 0 0 0) .lf)))), k23⟩, (.ls 1 [(.so k6028 1 0 1 0),(.nat .i64 0)]), ⟨(tn (tn (tr (tn (.nd .lf (.row
  [(.nat .i64 2),(.nat .i64 2)] 2 34 false 0 0 0) .lf) (tl (tl (tl (tr (tr (tr (tr (tl (.nd .lf (.row [(.so k6026 4 0 2 0)] 1 28 true 0 0 0) .lf))))))))))) (tl
  (tr (tl (tl (tl (tr (tr (tr (tr (tl (.nd .lf (.row [(.nat .i64 1),(.nat .i64 1),(.nat .i64 2),(.nat .i64 3)] 4 34 true 0 0 0) .lf)))))))))))) (tn (tr (tl (.nd
  .lf (.row [(.nat .i64 2),(.nat .i64 3)] 2 34 false 0 0 0) .lf))) (tl (tl (.nd .lf (.row [(.nat .i64 1),(.nat .i64 1)] 2 34 false 0 0 0) .lf))))), k6324⟩⟩
def hk1 : Hook := ⟨14, [(.ls 0 [(.sl k6332 0 0 4 4),(.so k6338 8 0 2 0)]),(.nat .i64 1),(.sl k6339 0 0 4 4)], ⟨(tn (tn (tn (tl (tl (tl (tr (tr (tl (tl (tl (tr
  (.nd .lf (.row [(.nat .i64 2),(.nat .i64 1),(.nat .i64 1),(.str []),(.nat .i64 0),(.nat .i64 0),(.nil 1),(.nat .i64 1),(.nat .i64 0),(.nat .i64 0),(.str
  []),(.nat .i64 0),(.nat .i64 0),(.nil 1)] 14 27 false 0 0 0) .lf)))))))))) (tn (.nd .lf (.row [(.nat .i64 2),(.nat .i64 2)] 2 34 false 0 0 0) (tr (tl (tr (tl
  (tl (tl (tr (.nd .lf (.row [(.sl k6332 0 0 4 4),(.so k6338 8 0 2 0)] 2 31 false 0 0 0) .lf))))))))) (tn (tl (tl (tr (tr (tr (tr (tl (.nd .lf (.row [(.so k6026
  4 0 2 0)] 1 28 true 0 0 0) .lf)))))))) (tr (tl (tr (tl (tl (tl (tr (.nd .lf (.row [(.nat .i64 1),(.nat .i64 1),(.nat .i64 2),(.nat .i64 2),(.nat .i64 2),(.nat
  .i64 3),(.nat .i64 1),(.nat .i64 0)] 8 34 false 0 0 0) .lf))))))))))) (tl (tn (tl (tl (tr (tr (tl (tl (tl (tr (.nd .lf (.row [(.nat .i64 3),(.nat .i64
  2),(.nat .i64 3),(.sl k6336 0 0 1 1),(.nat .i64 1),(.nat .i64 2),(.nat .i64 2),(.sl k6329 0 0 2 2)] 8 37 true 0 0 0) .lf))))))))) (tl (tl (tl (tr (tr (tr (tr
  (tl (.nd .lf (.row [(.nat .i64 1),(.nat .i64 1),(.nat .i64 2),(.nat .i64 3)] 4 34 true 0 0 0) .lf)))))))))))) (tn (tn (tr (tr (tr (tl (tr (tl (tl (tl (tr (.nd
  .lf (.row [(.nat .i64 1),(.nat .i64 0),(.nat .i64 0),(.str []),(.nat .i64 0),(.nat .i64 0),(.nil 1),(.nat .i64 2),(.nat .i64 2),(.nat .i64 2),(.str []),(.nat
  .i64 0),(.nat .i64 0),(.nil 1),(.nat .i64 2),(.nat .i64 2),(.nat .i64 2),(.str []),(.nat .i64 0),(.nat .i64 0),(.nil 1),(.nat .i64 1),(.nat .i64 0),(.nat .i64
  0),(.str []),(.nat .i64 0),(.nat .i64 0),(.nil 1)] 28 27 false 0 0 0) .lf)))))))))) (tl (.nd .lf (.row [(.nat .i64 2),(.nat .i64 3)] 2 34 false 0 0 0) .lf)))
  (tl (tl (.nd (tl (tr (tr (tl (tl (tl (tr (.nd .lf (.row [(.nat .i64 2),(.nat .i64 2),(.nat .i64 2),(.nat .i64 2),(.nat .i64 1),(.nat .i64 1),(.nat .i64
  2),(.nat .i64 2)] 8 34 false 0 0 0) .lf)))))))) (.row [(.nat .i64 1),(.nat .i64 1)] 2 34 false 0 0 0) .lf))))), k6340⟩, (.ls 1 [(.bool false),(.nat .i64
  3),(.nat .i64 0)]), ⟨(tn (tn (tn (tl (tl (tl (tr (tr (tl (tl (tl (tr (.nd .lf (.row [(.nat .i64 2),(.nat .i64 1),(.nat .i64 1),(.str []),(.nat .i64 0),(.nat
  .i64 0),(.nil 1),(.nat .i64 1),(.nat .i64 0),(.nat .i64 0),(.str []),(.nat .i64 0),(.nat .i64 0),(.nil 1)] 14 27 false 0 0 0) .lf)))))))))) (tn (.nd .lf (.row
  [(.nat .i64 2),(.nat .i64 2)] 2 34 false 0 0 0) (tr (tl (tr (tl (tl (tl (tr (.nd .lf (.row [(.sl k6332 0 0 4 4),(.so k6338 8 0 2 0)] 2 31 false 0 0 0)
  .lf))))))))) (tn (tl (tl (tr (tr (tr (tr (tl (.nd .lf (.row [(.so k6026 4 0 2 0)] 1 28 true 0 0 0) .lf)))))))) (tr (tl (tr (tl (tl (tl (tr (.nd .lf (.row
  [(.nat .i64 1),(.nat .i64 1),(.nat .i64 2),(.nat .i64 2),(.nat .i64 2),(.nat .i64 3),(.nat .i64 1),(.nat .i64 0)] 8 34 false 0 0 0) .lf))))))))))) (tl (tn (tl
  (tl (tr (tr (tl (tl (tl (tr (.nd .lf (.row [(.nat .i64 3),(.nat .i64 2),(.nat .i64 3),(.sl k6336 0 0 1 1),(.nat .i64 1),(.nat .i64 2),(.nat .i64 2),(.sl k6329
  0 0 2 2)] 8 37 true 0 0 0) .lf))))))))) (tl (tl (tl (tr (tr (tr (tr (tl (.nd .lf (.row [(.nat .i64 1),(.nat .i64 1),(.nat .i64 2),(.nat .i64 3)] 4 34 true 0 0
  0) .lf)))))))))))) (tn (tn (tr (tr (tr (tl (tr (tl (tl (tl (tr (.nd .lf (.row [(.nat .i64 1),(.nat .i64 0),(.nat .i64 0),(.str []),(.nat .i64 0),(.nat .i64
  0),(.nil 1),(.nat .i64 2),(.nat .i64 2),(.nat .i64 2),(.str []),(.nat .i64 0),(.nat .i64 0),(.nil 1),(.nat .i64 2),(.nat .i64 2),(.nat .i64 2),(.str []),(.nat
  .i64 0),(.nat .i64 0),(.nil 1),(.nat .i64 1),(.nat .i64 0),(.nat .i64 0),(.str []),(.nat .i64 0),(.nat .i64 0),(.nil 1)] 28 27 false 0 0 0) .lf)))))))))) (tl
  (.nd .lf (.row [(.nat .i64 2),(.nat .i64 3)] 2 34 false 0 0 0) .lf))) (tl (tl (.nd .lf (.row [(.nat .i64 1),(.nat .i64 1)] 2 34 false 0 0 0) .lf))))), k8106⟩⟩
def hk2 : Hook := ⟨14, [(.ls 0 [(.sl k6332 0 0 4 4),(.so k6338 8 0 2 0)]),(.nat .i64 1),(.sl k8106 0 0 2 2)], ⟨(tn (tn (tn (tl (tl (tl (tr (tr (tl (tl (tl (tr
  (.nd .lf (.row [(.nat .i64 2),(.nat .i64 1),(.nat .i64 1),(.str []),(.nat .i64 0),(.nat .i64 0),(.nil 1),(.nat .i64 1),(.nat .i64 0),(.nat .i64 0),(.str
  []),(.nat .i64 0),(.nat .i64 0),(.nil 1)] 14 27 false 0 0 0) .lf)))))))))) (tr (tn (tl (tl (tr (tr (tr (tr (tl (.nd .lf (.row [(.so k6026 4 0 2 0)] 1 28 true
  0 0 0) .lf)))))))) (tr (tl (tr (tl (tl (tl (tr (.nd .lf (.row [(.nat .i64 1),(.nat .i64 1),(.nat .i64 2),(.nat .i64 2),(.nat .i64 2),(.nat .i64 3),(.nat .i64
  1),(.nat .i64 0)] 8 34 false 0 0 0) .lf))))))))))) (tl (tn (tl (tl (tr (tr (tl (tl (tl (tr (.nd .lf (.row [(.nat .i64 3),(.nat .i64 2),(.nat .i64 3),(.sl
  k6336 0 0 1 1),(.nat .i64 1),(.nat .i64 2),(.nat .i64 2),(.sl k6329 0 0 2 2)] 8 37 true 0 0 0) .lf))))))))) (tl (tn (tl (tr (tr (tr (tr (tl (.nd .lf (.row
  [(.nat .i64 1),(.nat .i64 1),(.nat .i64 2),(.nat .i64 3)] 4 34 true 0 0 0) .lf))))))) (tl (tr (tr (tr (tr (tr (.nd .lf (.row [(.nat .i64 1),(.nat .i64
  1),(.nat .i64 2),(.nat .i64 2)] 4 34 false 0 0 0) .lf)))))))))))) (tn (tn (tr (tr (tr (tl (tr (tl (tl (tl (tr (.nd .lf (.row [(.nat .i64 1),(.nat .i64
  0),(.nat .i64 0),(.str []),(.nat .i64 0),(.nat .i64 0),(.nil 1),(.nat .i64 2),(.nat .i64 2),(.nat .i64 2),(.str []),(.nat .i64 0),(.nat .i64 0),(.nil 1),(.nat
  .i64 2),(.nat .i64 2),(.nat .i64 2),(.str []),(.nat .i64 0),(.nat .i64 0),(.nil 1),(.nat .i64 1),(.nat .i64 0),(.nat .i64 0),(.str []),(.nat .i64 0),(.nat
  .i64 0),(.nil 1)] 28 27 false 0 0 0) .lf)))))))))) (tl (.nd .lf (.row [(.nat .i64 2),(.nat .i64 3)] 2 34 false 0 0 0) .lf))) (tl (tl (.nd .lf (.row [(.nat
  .i64 1),(.nat .i64 1)] 2 34 false 0 0 0) .lf))))), k8107⟩, (.ls 1 [(.bool false),(.nat .i64 1),(.nat .i64 0)]), ⟨(tn (tn (tr (tr (tl (tl (tl (tr (tr (tr (tr
  (tl (.nd .lf (.row [(.so k6026 4 0 2 0)] 1 28 true 0 0 0) .lf))))))))))) (tl (tr (tl (tl (tl (tr (tr (tr (tr (tl (.nd .lf (.row [(.nat .i64 1),(.nat .i64
  1),(.nat .i64 2),(.nat .i64 3)] 4 34 true 0 0 0) .lf)))))))))))) (tn (tr (tl (.nd .lf (.row [(.nat .i64 2),(.nat .i64 3)] 2 34 false 0 0 0) .lf))) (tl (tl
  (.nd .lf (.row [(.nat .i64 1),(.nat .i64 1)] 2 34 false 0 0 0) .lf))))), k9839⟩⟩
def hk3 : Hook := ⟨12, [(.ls 0 [(.sl k9840 0 0 4 4),(.so k9846 4 0 1 0)]),(.sl k9847 0 0 2 2),(.nat .i64 1)], ⟨(tn (tn (tn (tl (tr (tr (tr (tl (tl (tr (tr (tl
  (tl (.nd .lf (.row [(.nat .i64 1),(.nat .i64 1),(.nat .i64 2),(.nat .i64 2),(.nat .i64 2),(.nat .i64 3),(.nat .i64 1),(.nat .i64 0)] 8 34 false 0 0 0)
  .lf))))))))))) (tn (tr (tr (tr (tl (tl (tr (tr (tl (tl (.nd .lf (.row [(.nat .i64 2),(.nat .i64 1),(.nat .i64 1),(.str []),(.nat .i64 0),(.nat .i64 0),(.nil
  1),(.nat .i64 1),(.nat .i64 0),(.nat .i64 0),(.str []),(.nat .i64 0),(.nat .i64 0),(.nil 1)] 14 27 false 0 0 0) .lf)))))))))) (tl (tl (tl (tr (tr (tr (tr (tl
  (.nd .lf (.row [(.so k6026 4 0 2 0)] 1 28 true 0 0 0) .lf))))))))))) (tn (tr (tl (tl (tl (tr (tr (tr (tr (tl (.nd .lf (.row [(.nat .i64 1),(.nat .i64 1),(.nat
  .i64 2),(.nat .i64 3)] 4 34 true 0 0 0) .lf)))))))))) (tl (tr (tr (tr (tl (tl (tr (tr (tl (tl (.nd .lf (.row [(.nat .i64 3),(.nat .i64 2),(.nat .i64 3),(.sl
  k9844 0 0 1 1)] 4 37 true 0 0 0) .lf))))))))))))) (tn (tr (tl (.nd .lf (.row [(.nat .i64 2),(.nat .i64 3)] 2 34 false 0 0 0) .lf))) (tn (tl (.nd .lf (.row
  [(.nat .i64 1),(.nat .i64 1)] 2 34 false 0 0 0) .lf)) (tl (tr (tr (tr (tl (tl (tr (tr (tl (tl (.nd .lf (.row [(.nat .i64 1),(.nat .i64 2)] 2 3 false 0 0 0)
  .lf)))))))))))))), k9848⟩, (.ls 1 [(.nil 1),(.nat .i64 2)]), ⟨(tn (tn (tr (tr (tl (tl (tl (tr (tr (tr (tr (tl (.nd .lf (.row [(.so k6026 4 0 2 0)] 1 28 true 0
  0 0) .lf))))))))))) (tl (tr (tl (tl (tl (tr (tr (tr (tr (tl (.nd .lf (.row [(.nat .i64 1),(.nat .i64 1),(.nat .i64 2),(.nat .i64 3)] 4 34 true 0 0 0)
  .lf)))))))))))) (tn (tr (tl (.nd .lf (.row [(.nat .i64 2),(.nat .i64 3)] 2 34 false 0 0 0) .lf))) (tl (tl (.nd .lf (.row [(.nat .i64 1),(.nat .i64 1)] 2 34
  false 0 0 0) .lf))))), k14498⟩⟩
def hk4 : Hook := ⟨12, [(.ls 0 [(.sl k15460 0 0 4 4),(.so k15466 4 0 1 0)]),(.sl k17966 0 0 2 2),(.nat .i64 9)], ⟨(tn (tn (tn (tr (tl (tr (tr (tl (tl (tl (tr
  (tr (tr (.nd .lf (.row [(.nat .i64 2),(.nat .i64 1),(.nat .i64 1),(.str []),(.nat .i64 0),(.nat .i64 0),(.nil 1),(.nat .i64 1),(.nat .i64 0),(.nat .i64
  0),(.str []),(.nat .i64 0),(.nat .i64 0),(.nil 1)] 14 27 false 0 0 0) .lf))))))))))) (tn (tl (tr (tr (tl (tl (tl (tr (tr (tr (.nd .lf (.row [(.nat .i64
  1),(.nat .i64 1),(.nat .i64 2),(.nat .i64 2),(.nat .i64 2),(.nat .i64 3),(.nat .i64 1),(.nat .i64 0)] 8 34 false 0 0 0) .lf)))))))))) (tl (tr (tr (tl (tl (tl
  (tr (tr (tr (.nd .lf (.row [(.nat .i64 1),(.nat .i64 1)] 2 34 false 0 0 0) .lf)))))))))))) (tn (tr (tl (tr (tr (tl (tl (tl (tr (tr (tr (.nd .lf (.row [(.nat
  .i64 3),(.nat .i64 2),(.nat .i64 3),(.sl k15464 0 0 1 1)] 4 37 true 0 0 0) .lf))))))))))) (tr (tl (tr (tn (tl (tl (tr (tr (tl (tl (tl (.nd .lf (.row [(.nat
  .i64 1),(.nat .i64 2)] 2 3 false 0 0 0) .lf)))))))) (tl (tl (tl (tr (tr (tr (.nd .lf (.row [(.nat .i64 2),(.nat .i64 3)] 2 34 false 0 0 0) .lf)))))))))))))
  (tn (tr (tr (tl (tr (tr (tl (tl (tl (tr (tr (tr (.nd .lf (.row [(.nat .i64 2),(.nat .i64 2)] 2 34 false 0 0 0) .lf)))))))))))) (tn (tr (tl (tr (tr (tl (tl (tl
  (tr (tr (tr (.nd .lf (.row [(.sl k15460 0 0 4 4),(.so k15466 4 0 1 0)] 2 31 false 0 0 0) .lf))))))))))) (tr (tl (tr (tr (tl (tl (tl (tr (tr (tr (.nd .lf (.row
  [(.nat .i64 1),(.nat .i64 0)] 2 34 false 0 0 0) .lf)))))))))))))), k17967⟩, (.ls 1 [(.so k22564 2 0 2 0),(.nat .i64 0)]), ⟨(tn (tn (tn (tr (tl (tr (tr (tl (tl
  (tl (tr (tr (tr (.nd .lf (.row [(.nat .i64 2),(.nat .i64 1),(.nat .i64 1),(.str []),(.nat .i64 0),(.nat .i64 0),(.nil 1),(.nat .i64 1),(.nat .i64 0),(.nat
  .i64 0),(.str []),(.nat .i64 0),(.nat .i64 0),(.nil 1)] 14 27 false 0 0 0) .lf))))))))))) (tn (tl (tr (tn (tl (tl (tl (tl (tr (tr (tl (.nd .lf (.row [(.so
  k22562 4 0 2 0),(.so k22615 4 0 2 0)] 2 28 true 0 0 0) .lf)))))))) (tl (tl (tl (tr (tr (tr (.nd .lf (.row [(.nat .i64 1),(.nat .i64 1),(.nat .i64 2),(.nat
  .i64 2),(.nat .i64 2),(.nat .i64 3),(.nat .i64 1),(.nat .i64 0)] 8 34 false 0 0 0) .lf)))))))))) (tl (tr (tr (tl (tl (tl (tr (tr (tr (.nd .lf (.row [(.nat
  .i64 1),(.nat .i64 1)] 2 34 false 0 0 0) .lf)))))))))))) (tn (tn (tl (tr (tl (tl (tl (tl (tl (tr (tr (tl (.nd .lf (.row [(.nat .i64 1),(.nat .i64 1),(.nat
  .i64 2),(.nat .i64 3)] 4 34 true 0 0 0) .lf))))))))))) (tl (tr (tr (tl (tl (tl (tr (tr (tr (.nd .lf (.row [(.nat .i64 3),(.nat .i64 2),(.nat .i64 3),(.sl
  k15464 0 0 1 1)] 4 37 true 0 0 0) .lf))))))))))) (tr (tl (tr (tr (tl (tl (tl (tr (tr (tr (.nd .lf (.row [(.nat .i64 2),(.nat .i64 3)] 2 34 false 0 0 0)
  .lf))))))))))))) (tn (tr (tr (tl (tr (tr (tl (tl (tl (tr (tr (tr (.nd .lf (.row [(.nat .i64 2),(.nat .i64 2)] 2 34 false 0 0 0) .lf)))))))))))) (tn (tr (tl
  (tr (tr (tl (tl (tl (tr (tr (tr (.nd .lf (.row [(.sl k15460 0 0 4 4),(.so k15466 4 0 1 0)] 2 31 false 0 0 0) .lf))))))))))) (tn (tr (tl (tr (tl (tl (tl (tl
  (tr (tr (tl (.nd .lf (.row [(.nat .i64 1),(.nat .i64 0),(.nat .i64 2),(.nat .i64 2)] 4 34 true 0 0 0) .lf))))))))))) (tl (tr (tr (tl (tl (tl (tr (tr (tr (.nd
  .lf (.row [(.nat .i64 1),(.nat .i64 0)] 2 34 false 0 0 0) .lf)))))))))))))), k22889⟩⟩
def hk5 : Hook := ⟨26, [(.ls 0 [(.sl k15460 0 0 4 4),(.so k15466 4 0 1 0)])], ⟨(tn (tn (tn (tr (tl (tr (tr (tl (tl (tl (tr (tr (tr (.nd .lf (.row [(.nat .i64
  2),(.nat .i64 1),(.nat .i64 1),(.str []),(.nat .i64 0),(.nat .i64 0),(.nil 1),(.nat .i64 1),(.nat .i64 0),(.nat .i64 0),(.str []),(.nat .i64 0),(.nat .i64
  0),(.nil 1)] 14 27 false 0 0 0) .lf))))))))))) (tn (tl (tr (tn (tl (tl (tl (tl (tr (tr (tl (.nd .lf (.row [(.so k22562 4 0 2 0),(.so k22615 4 0 2 0)] 2 28
  true 0 0 0) .lf)))))))) (tl (tl (tl (tr (tr (tr (.nd .lf (.row [(.nat .i64 1),(.nat .i64 1),(.nat .i64 2),(.nat .i64 2),(.nat .i64 2),(.nat .i64 3),(.nat .i64
  1),(.nat .i64 0)] 8 34 false 0 0 0) .lf)))))))))) (tl (tr (tr (tl (tl (tl (tr (tr (tr (.nd .lf (.row [(.nat .i64 1),(.nat .i64 1)] 2 34 false 0 0 0)
  .lf)))))))))))) (tn (tn (tl (tr (tl (tl (tl (tl (tl (tr (tr (tl (.nd .lf (.row [(.nat .i64 1),(.nat .i64 1),(.nat .i64 2),(.nat .i64 3)] 4 34 true 0 0 0)
  .lf))))))))))) (tl (tr (tr (tl (tl (tl (tr (tr (tr (.nd .lf (.row [(.nat .i64 3),(.nat .i64 2),(.nat .i64 3),(.sl k15464 0 0 1 1)] 4 37 true 0 0 0)
  .lf))))))))))) (tr (tl (tr (tr (tl (tl (tl (tr (tr (tr (.nd .lf (.row [(.nat .i64 2),(.nat .i64 3)] 2 34 false 0 0 0) .lf))))))))))))) (tn (tr (tr (tl (tr (tr
  (tl (tl (tl (tr (tr (tr (.nd .lf (.row [(.nat .i64 2),(.nat .i64 2)] 2 34 false 0 0 0) .lf)))))))))))) (tn (tr (tl (tr (tr (tl (tl (tl (tr (tr (tr (.nd .lf
  (.row [(.sl k15460 0 0 4 4),(.so k15466 4 0 1 0)] 2 31 false 0 0 0) .lf))))))))))) (tn (tr (tl (tr (tl (tl (tl (tl (tr (tr (tl (.nd .lf (.row [(.nat .i64
  1),(.nat .i64 0),(.nat .i64 2),(.nat .i64 2)] 4 34 true 0 0 0) .lf))))))))))) (tl (tr (tr (tl (tl (tl (tr (tr (tr (.nd .lf (.row [(.nat .i64 1),(.nat .i64 0)]
  2 34 false 0 0 0) .lf)))))))))))))), k22889⟩, (.ls 1 [(.ls 0 [(.nat .i64 1),(.nat .i64 0),(.str [48]),(.so k27423 4 0 2 0)]),(.nat .i64 0)]), ⟨(tn (tn (tn (tr
  (tl (tr (tr (tl (tl (tl (tr (tr (tr (.nd .lf (.row [(.nat .i64 2),(.nat .i64 1),(.nat .i64 1),(.str []),(.nat .i64 0),(.nat .i64 0),(.nil 1),(.nat .i64
  1),(.nat .i64 0),(.nat .i64 0),(.str []),(.nat .i64 0),(.nat .i64 0),(.nil 1)] 14 27 false 0 0 0) .lf))))))))))) (tn (tl (tr (tn (tl (tn (tl (tl (tr (tr (tl
  (.nd .lf (.row [(.so k22562 4 0 2 0),(.so k22615 4 0 2 0)] 2 28 true 0 0 0) .lf)))))) (tr (tl (tr (tl (tr (.nd .lf (.row [(.nat .i64 1),(.nat .i64 1),(.str
  [48]),(.nat .i64 1),(.nat .i64 2),(.nat .i64 3),(.str [48]),(.nat .i64 0),(.nat .i64 1),(.nat .i64 0),(.str [48]),(.nat .i64 0)] 12 119 true 0 0 0)
  .lf)))))))) (tl (tl (tl (tr (tr (tr (.nd .lf (.row [(.nat .i64 1),(.nat .i64 1),(.nat .i64 2),(.nat .i64 2),(.nat .i64 2),(.nat .i64 3),(.nat .i64 1),(.nat
  .i64 0)] 8 34 false 0 0 0) .lf)))))))))) (tl (tr (tr (tl (tl (tl (tr (tr (tr (.nd .lf (.row [(.nat .i64 1),(.nat .i64 1)] 2 34 false 0 0 0) .lf))))))))))))
  (tn (tn (tl (tr (tl (tl (tl (tl (tl (tr (tr (tl (.nd .lf (.row [(.nat .i64 1),(.nat .i64 1),(.nat .i64 2),(.nat .i64 3)] 4 34 true 0 0 0) .lf))))))))))) (tl
  (tr (tr (tl (tl (tl (tr (tr (tr (.nd .lf (.row [(.nat .i64 3),(.nat .i64 2),(.nat .i64 3),(.sl k15464 0 0 1 1)] 4 37 true 0 0 0) .lf))))))))))) (tr (tl (tr
  (tr (tl (tl (tl (tr (tr (tr (.nd .lf (.row [(.nat .i64 2),(.nat .i64 3)] 2 34 false 0 0 0) .lf))))))))))))) (tn (tr (tr (tl (tr (tr (tl (tl (tl (tr (tr (tr
  (.nd .lf (.row [(.nat .i64 2),(.nat .i64 2)] 2 34 false 0 0 0) .lf)))))))))))) (tn (tr (tl (tr (tr (tl (tl (tl (tr (tr (tr (.nd .lf (.row [(.sl k15460 0 0 4
  4),(.so k15466 4 0 1 0)] 2 31 false 0 0 0) .lf))))))))))) (tn (tr (tl (tn (tl (tr (tr (tl (tr (tl (tr (.nd .lf (.row [(.nat .i64 1),(.nat .i64 1),(.str
  [48]),(.nat .i64 1),(.nat .i64 2),(.nat .i64 2),(.str [48]),(.nat .i64 0),(.nat .i64 1),(.nat .i64 0),(.str [48]),(.nat .i64 0)] 12 119 true 0 0 0)
  .lf)))))))) (tl (tl (tl (tl (tr (tr (tl (.nd .lf (.row [(.nat .i64 1),(.nat .i64 0),(.nat .i64 2),(.nat .i64 2)] 4 34 true 0 0 0) .lf))))))))))) (tn (tr (tr
  (tl (tl (tl (tr (tr (tr (.nd .lf (.row [(.nat .i64 1),(.nat .i64 0)] 2 34 false 0 0 0) .lf))))))))) (tl (tl (tl (tr (tr (tl (tr (tl (tr (.nd .lf (.row [(.str
  [48]),(.so k27415 12 0 3 0),(.str [48]),(.so k27428 12 0 3 0)] 4 117 true 0 0 0) .lf))))))))))))))), k27436⟩⟩
def hk6 : Hook := ⟨20, [(.ls 0 [(.sl k15460 0 0 4 4),(.so k15466 4 0 1 0)]),(.nat .i64 0)], ⟨(tn (tn (tn (tr (tl (tr (tr (tl (tl (tl (tr (tr (tr (.nd .lf (.row
  [(.nat .i64 2),(.nat .i64 1),(.nat .i64 1),(.str []),(.nat .i64 0),(.nat .i64 0),(.nil 1),(.nat .i64 1),(.nat .i64 0),(.nat .i64 0),(.str []),(.nat .i64
  0),(.nat .i64 0),(.nil 1)] 14 27 false 0 0 0) .lf))))))))))) (tn (tl (tr (tn (tl (tl (tl (tl (tr (tr (tl (.nd .lf (.row [(.so k22562 4 0 2 0),(.so k22615 4 0
  2 0)] 2 28 true 0 0 0) .lf)))))))) (tl (tl (tl (tr (tr (tr (.nd .lf (.row [(.nat .i64 1),(.nat .i64 1),(.nat .i64 2),(.nat .i64 2),(.nat .i64 2),(.nat .i64
  3),(.nat .i64 1),(.nat .i64 0)] 8 34 false 0 0 0) .lf)))))))))) (tl (tr (tr (tl (tl (tl (tr (tr (tr (.nd .lf (.row [(.nat .i64 1),(.nat .i64 1)] 2 34 false 0
  0 0) .lf)))))))))))) (tn (tn (tl (tr (tl (tl (tl (tl (tl (tr (tr (tl (.nd .lf (.row [(.nat .i64 1),(.nat .i64 1),(.nat .i64 2),(.nat .i64 3)] 4 34 true 0 0 0)
  .lf))))))))))) (tl (tr (tr (tl (tl (tl (tr (tr (tr (.nd .lf (.row [(.nat .i64 3),(.nat .i64 2),(.nat .i64 3),(.sl k15464 0 0 1 1)] 4 37 true 0 0 0)
  .lf))))))))))) (tr (tl (tr (tr (tl (tl (tl (tr (tr (tr (.nd .lf (.row [(.nat .i64 2),(.nat .i64 3)] 2 34 false 0 0 0) .lf))))))))))))) (tn (tr (tr (tl (tr (tr
  (tl (tl (tl (tr (tr (tr (.nd .lf (.row [(.nat .i64 2),(.nat .i64 2)] 2 34 false 0 0 0) .lf)))))))))))) (tr (tn (tr (tl (tr (tl (tl (tl (tl (tr (tr (tl (.nd
  .lf (.row [(.nat .i64 1),(.nat .i64 0),(.nat .i64 2),(.nat .i64 2)] 4 34 true 0 0 0) .lf))))))))))) (tl (tr (tr (tl (tl (tl (tr (tr (tr (.nd .lf (.row [(.nat
  .i64 1),(.nat .i64 0)] 2 34 false 0 0 0) .lf)))))))))))))), k28159⟩, (.ls 1 [(.ls 0 [(.nat .i64 1),(.nat .i64 0),(.str [48]),(.so k32514 4 0 2 0)]),(.nat .i64
  0)]), ⟨(tn (tn (tr (tn (tl (tr (tl (tl (tl (tl (tl (tr (tr (tl (.nd .lf (.row [(.so k22562 4 0 2 0),(.so k22615 4 0 2 0)] 2 28 true 0 0 0) .lf))))))))))) (tl
  (tr (tr (tl (tl (tl (tr (tr (tr (.nd .lf (.row [(.nat .i64 1),(.nat .i64 1)] 2 34 false 0 0 0) .lf)))))))))))) (tn (tn (tl (tn (tl (tl (tr (tr (tr (tr (tr (tr
  (.nd .lf (.row [(.str [48]),(.so k32506 12 0 3 0),(.str [48]),(.so k32519 12 0 3 0)] 4 117 true 0 0 0) .lf))))))))) (tl (tl (tl (tl (tl (tr (tr (tl (.nd .lf
  (.row [(.nat .i64 1),(.nat .i64 1),(.nat .i64 2),(.nat .i64 3)] 4 34 true 0 0 0) .lf))))))))))) (tr (tr (tr (tr (tl (tr (tr (tr (tr (tr (.nd .lf (.row [(.nat
  .i64 1),(.nat .i64 1),(.str [48]),(.nat .i64 1),(.nat .i64 2),(.nat .i64 2),(.str [48]),(.nat .i64 0),(.nat .i64 4),(.nat .i64 4),(.str [48]),(.nat .i64 0)]
  12 119 true 0 0 0) .lf)))))))))))) (tr (tl (tr (tr (tl (tl (tl (tr (tr (tr (.nd .lf (.row [(.nat .i64 2),(.nat .i64 3)] 2 34 false 0 0 0) .lf))))))))))))) (tn
  (tr (tr (tl (tr (tr (tl (tl (tl (tr (tr (tr (.nd .lf (.row [(.nat .i64 2),(.nat .i64 2)] 2 34 false 0 0 0) .lf)))))))))))) (tr (tn (tn (tl (tl (tl (tr (tr (tr
  (tr (tr (tr (.nd .lf (.row [(.nat .i64 1),(.nat .i64 1),(.str [48]),(.nat .i64 1),(.nat .i64 3),(.nat .i64 3),(.str [48]),(.nat .i64 0),(.nat .i64 4),(.nat
  .i64 4),(.str [48]),(.nat .i64 0)] 12 119 true 0 0 0) .lf)))))))))) (tl (tr (tl (tl (tl (tl (tr (tr (tl (.nd .lf (.row [(.nat .i64 1),(.nat .i64 0),(.nat .i64
  2),(.nat .i64 2)] 4 34 true 0 0 0) .lf))))))))))) (tl (tr (tr (tl (tl (tl (tr (tr (tr (.nd .lf (.row [(.nat .i64 1),(.nat .i64 0)] 2 34 false 0 0 0)
  .lf)))))))))))))), k32527⟩⟩
def hk7 : Hook := ⟨16, [], ⟨.lf, k15459⟩, (.bool true), ⟨.lf, k32936⟩⟩
end Go.Proofs.YtbkmajojolbncaaGreatDoor
