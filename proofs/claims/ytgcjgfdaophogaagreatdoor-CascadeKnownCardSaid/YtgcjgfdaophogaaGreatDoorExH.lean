/- The program as the evaluator takes it (three lists of hints, which the proofs need not trust), and some calls of the closed run of CascadeKnown, each with what it is given and what it answers. No statement of the seat stands here. No condition. By an AI agent. -/
import Derived.Test.YtgcjgfdaophogaaGreatDoorChecked
import Derived.KernelRfl
import Derived.Test.YtgcjgfdaophogaaGreatDoorEvG
namespace Go.Proofs.YtgcjgfdaophogaaGreatDoor.cascadeKnown
open Go.Ev Go.RowKit
set_option maxRecDepth 100000
noncomputable def pc (hooks : List Hook) : PC := PC.of Tryz.prog hooks [0, 0, 1, 316912650057057350374175774048, 130816, 56, 245184, 2417851639198471889600512,
  31391488, 2046, 2179223724748800, 4193792, 33552384, 302231454903657293676032, 2097120, 56, 504, 8384576, 1099511131136, 2040, 262080, 4080, 33554400,
  8589934528, 7904, 1056964592, 4543259750641845459761594177158656, 130544, 116, 268403712, 3204325248, 232, 4393719959552, 130944, 3458623252329365504, 16352,
  32736, 244736, 444288, 34090770432, 67091392, 181259760075348681615091334369413958076624519168, 480, 56, 3541774857960345829344, 122800, 267384832, 4194016,
  345726874407077440671559395241325504724992, 480, 56, 504, 15856, 4080, 504, 309182776060598402215280384, 523264, 163332877655759086281603379116418208301056,
  13194131142656, 72057559678156800, 32736, 73786413310256577280, 50301888, 356811880641193946689691826088336933575983104, 248, 56, 548681513920, 2040,
  166148428870393630325142971718959104, 2040, 524272, 1047488, 1016, 37778643632520375041024, 72057448544796672, 131040, 131040, 8388480, 70931556691147776,
  457792, 504, 2040, 281466919713792, 245608, 9006924368904064, 174203158810675334242229616264526442663936, 316912649778194457599103983616, 16376, 16911371136,
  72057576826568704, 2089952, 44601469087712677253335177658037062435004416, 131064, 2475880057962288638718898176, 36346077971019834540092616139997184, 457792,
  30, 132120064, 8935141660702932864, 89794636423602880087156592636474722530567799319756800, 24, 16777184, 16352, 68215103488, 112, 130816, 50329600, 32752,
  4032, 65408, 4194272, 126, 1054972812980224, 9223299606459154432, 9007182074854400, 1152921496014807040, 147573917370944446464, 7890306461253730304,
  17179835392, 2787571881499075797774052896007796375347200, 1237938821800130672580354048, 383123885193474569774374055887950278561850630313328640, 524008,
  33537768, 504, 281337470646784, 4080, 34359606784, 72633487440150048768, 2147474944, 1016, 24, 504, 16715712, 56, 496, 8357760, 32752, 4064, 68585257984,
  35181972946432, 224, 224, 224, 248, 1097112485760, 18444616518575357440, 680564731306575584541041368011082825728, 0, 0, 224, 16320, 24, 32, 232, 240,
  4293885824, 19804773892652162921009249280, 9007199254678528, 166153459859030865794750901055897600, 8160, 32, 8972014882635776, 65408,
  2787555926164070202653594394284831901941760, 469761536, 1984, 48, 504, 515848, 1984, 2064064, 1016, 1016, 48, 17996745120149504, 288230376143288320, 480, 56,
  24, 480, 240, 2032, 134152096, 129984, 248, 17873660895281152, 24, 16352, 1125835478138368, 65507200, 246284026954752, 128, 131040, 131040, 261952, 8, 262016,
  268434928, 130944, 1152885188510730240, 232, 562947805802496, 480, 4835702990227041035218944, 120, 8589934584, 261632, 2199023247360, 1073740800,
  137170516992, 131008, 2417851638736677139939072, 24, 6228864, 10384593407414639918073416691740640, 6228864, 1044424, 268434928, 70368744177632,
  10633823956375806599519922393146441728, 1073741568, 288226220769015808, 166153499473112122929719053475774464, 480, 480, 992, 24, 0,
  41497810046653206748914664780986368, 8128, 65216, 16352, 4397509111552, 480, 1073726400, 496, 2040, 1776,
  766247770410641131852506072760587465336250576880533504, 68215103488, 16352, 1048032, 2305825412699119296, 480, 496, 457792, 262112, 8160, 1688849356943232,
  4177344, 4160745472, 4398046510976, 17171475456, 928, 4835703260440209768046592, 1030792150528, 148754255977818640873472, 134217696, 1984, 128960,
  103582791362410496, 2097120, 457792, 18014381321090304, 457792, 14680032, 12574592, 549755813824, 140736414117888, 7936,
  356811880641193946689691826088336933575983104, 1125348137512960, 4277141376, 248, 48640, 4290768896, 130944, 2251799813668864, 261120,
  1393796574898005410307919570508697439297536, 262016, 1073602816, 4194302, 504, 8796088811008, 2032, 21778061098346189844478291628122334298112, 134152096,
  356811880641193946689691826088336933575983104, 2016, 240, 4186048, 258016, 260013824, 103048806384, 274877644160, 1504, 2080760, 34342829312, 261952, 1984,
  8064, 8796093022080, 134217696, 32744, 32752, 184149205606795480238948490449146349755637850570752, 5050176389969560855884357697536, 398655360, 31745151725696,
  8, 16328, 1952, 8, 456, 134156032, 36, 4064, 4064, 104, 484, 65008, 8386568, 144114672678729728, 70368744168960, 17591682693120, 17179868864, 484,
  34587645138138185600, 8164, 65504, 590293839423849099264, 4503591037304448, 532668352, 21778071482618506735861013308488957231104, 16328,
  79228162513074824341929064448, 1008, 1008, 1008, 34662321095378961161338743808, 16352, 2199023189888, 2194224446208, 9007182074854400, 1152921496014807040,
  147573917370944446464, 7890306461253730304, 17179835392, 2787571881499075797774052896007796375347200, 1237938821800130672580354048,
  383123885193474569774374055887950278561850630313328640, 32736, 262016, 266305408, 562948879675136, 72057592963659776, 36893479342736111616,
  123286018324422656, 4294958848, 10888952654262176519432384150372830132224, 131040, 19342794090620444689299456,
  374144419134252505651064520051920053992477580849152, 9007182074854400, 1152921496014807040, 147573917370944446464, 7890306461253730304, 17179835392,
  2787571881499075797774052896007796375347200, 1237938821800130672580354048, 383123885193474569774374055887950278561850630313328640, 500, 520048, 224,
  7696579557248, 17163084480, 224, 20282409471425404962397755244544, 2147155456, 32192, 8384256, 56, 0, 248, 248, 2, 56, 2305825412699119296, 496, 8, 1032128,
  132120064, 18887160055355137835008, 0, 32, 16128, 268428272, 24, 64, 19342813112848872164551680, 64, 12574592, 4294934272, 649037029945047576837886721114112,
  16352, 4501336175669248, 3568, 30, 79225895778352558100046659584, 158446644767534338890306928640, 4835702990227041035218944, 261632, 2199023247360, 133168896,
  75557859222245976505344, 32640, 68719474688, 4835702990227041035218944, 261632, 2199023247360, 9007190629408768, 261632, 444288, 224, 524224,
  42524890909723710779775849120990470144, 16376, 1048064, 224, 182686308445276092278898780960839177993124249600, 262112,
  10448029773009037967681152029858612457160704, 16360, 16360, 24, 48640, 524224, 16304, 16304, 3114368, 248, 16368, 192, 192, 192, 35764913150590976, 240, 240,
  281337470646784, 4290768896, 268172288, 4290768896, 56, 4294961792, 524220, 224, 31457136, 248, 523264, 224, 0, 56, 2266735911759287759665152, 7936, 240,
  65264, 0, 1073741792, 0, 548648513024, 0, 0, 0, 0, 0, 0, 0, 0, 0, 0, 0, 0, 0, 0, 0, 0, 0, 0, 0, 0, 0, 0, 0, 0, 7] [(468, 1), (470, 2)] [(7, [7, 7, 0, 7]), (8,
  [7, 7, 0, 7]), (62, [7, 7, 8, 7]), (63, [7, 7, 8, 7]), (84, [7]), (85, [7]), (161, [7, 7]), (162, [7, 7]), (184, [7, 7, 0]), (185, [7, 7, 0]), (194, [7, 7,
  7]), (195, [7, 7, 7]), (223, []), (224, []), (276, [7, 7]), (277, [7, 7]), (304, [0, 8, 8]), (305, [0, 8, 8]), (313, [8, 8, 8]), (340, [7, 7, 7]), (341, [7,
  7, 7]), (344, [7, 7]), (345, [7, 7]), (353, []), (366, [7]), (367, [7]), (430, [7, 7]), (431, [7, 7]), (463, [7]), (464, [7])] []
theorem pcOk (hooks : List Hook) : PcOk Tryz.prog (pc hooks) ∧ (pc hooks).hooks = hooks :=
  pcOk_of (by kernel_rfl) (by kernel_rfl) (by kernel_rfl) (by kernel_rfl) (by kernel_rfl)
theorem globals : Tryz.prog.globals.size = 4 := by kernel_rfl
/-- a hook out of its test, which looks at hooks that hold -/
theorem hook_of_test {hs : List Hook} (hh : ∀ h ∈ hs, HookOk Tryz.prog h) {h : Hook} (ht : hookB (pc hs) 1500 h = true) : HookOk Tryz.prog h :=
  hookB_ok (pcOk hs).1 (by rw [(pcOk hs).2]; exact hh) ht
def tl (t : Tr B) : Tr B := .nd t .none .lf
def tr (t : Tr B) : Tr B := .nd .lf .none t
def tn (t u : Tr B) : Tr B := .nd t .none u
def k1 : K := .h
def k2 : K := .o k1
def k3 : K := .i k1
def k4 : K := .o k2
def k5 : K := .i k2
def k6 : K := .o k3
def k7 : K := .i k3
def k8 : K := .o k4
def k10 : K := .o k5
def k11 : K := .i k5
def k12 : K := .o k6
def k13 : K := .i k6
def k14 : K := .o k7
def k15 : K := .i k7
def k16 : K := .o k8
def k17 : K := .i k8
def k21 : K := .i k10
def k22 : K := .o k11
def k26 : K := .o k13
def k27 : K := .i k13
def k28 : K := .o k14
def k29 : K := .i k14
def k31 : K := .i k15
def k32 : K := .o k16
def k34 : K := .o k17
def k35 : K := .i k17
def k43 : K := .i k21
def k44 : K := .o k22
def k54 : K := .o k27
def k55 : K := .i k27
def k59 : K := .i k29
def k63 : K := .i k31
def k64 : K := .o k32
def k68 : K := .o k34
def k70 : K := .o k35
def k71 : K := .i k35
def k86 : K := .o k43
def k87 : K := .i k43
def k88 : K := .o k44
def k89 : K := .i k44
def k108 : K := .o k54
def k111 : K := .i k55
def k119 : K := .i k59
def k127 : K := .i k63
def k128 : K := .o k64
def k136 : K := .o k68
def k141 : K := .i k70
def k142 : K := .o k71
def k143 : K := .i k71
def k172 : K := .o k86
def k174 : K := .o k87
def k175 : K := .i k87
def k177 : K := .i k88
def k178 : K := .o k89
def k216 : K := .o k108
def k223 : K := .i k111
def k238 : K := .o k119
def k239 : K := .i k119
def k254 : K := .o k127
def k255 : K := .i k127
def k256 : K := .o k128
def k273 : K := .i k136
def k283 : K := .i k141
def k284 : K := .o k142
def k285 : K := .i k142
def k286 : K := .o k143
def k344 : K := .o k172
def k348 : K := .o k174
def k351 : K := .i k175
def k355 : K := .i k177
def k356 : K := .o k178
def k432 : K := .o k216
def k446 : K := .o k223
def k476 : K := .o k238
def k477 : K := .i k238
def k478 : K := .o k239
def k509 : K := .i k254
def k510 : K := .o k255
def k511 : K := .i k255
def k512 : K := .o k256
def k513 : K := .i k256
def k547 : K := .i k273
def k567 : K := .i k283
def k568 : K := .o k284
def k569 : K := .i k284
def k571 : K := .i k285
def k572 : K := .o k286
def k573 : K := .i k286
def k688 : K := .o k344
def k689 : K := .i k344
def k696 : K := .o k348
def k702 : K := .o k351
def k710 : K := .o k355
def k711 : K := .i k355
def k712 : K := .o k356
def k864 : K := .o k432
def k865 : K := .i k432
def k892 : K := .o k446
def k953 : K := .i k476
def k954 : K := .o k477
def k955 : K := .i k477
def k956 : K := .o k478
def k1018 : K := .o k509
def k1020 : K := .o k510
def k1022 : K := .o k511
def k1023 : K := .i k511
def k1024 : K := .o k512
def k1026 : K := .o k513
def k1027 : K := .i k513
def k1094 : K := .o k547
def k1095 : K := .i k547
def k1135 : K := .i k567
def k1136 : K := .o k568
def k1137 : K := .i k568
def k1138 : K := .o k569
def k1139 : K := .i k569
def k1143 : K := .i k571
def k1144 : K := .o k572
def k1145 : K := .i k572
def k1146 : K := .o k573
def k1376 : K := .o k688
def k1378 : K := .o k689
def k1392 : K := .o k696
def k1405 : K := .i k702
def k1420 : K := .o k710
def k1422 : K := .o k711
def k1423 : K := .i k711
def k1424 : K := .o k712
def k1729 : K := .i k864
def k1730 : K := .o k865
def k1731 : K := .i k865
def k1784 : K := .o k892
def k1907 : K := .i k953
def k1908 : K := .o k954
def k1909 : K := .i k954
def k1911 : K := .i k955
def k1912 : K := .o k956
def k2037 : K := .i k1018
def k2040 : K := .o k1020
def k2044 : K := .o k1022
def k2047 : K := .i k1023
def k2048 : K := .o k1024
def k2052 : K := .o k1026
def k2053 : K := .i k1026
def k2054 : K := .o k1027
def k2055 : K := .i k1027
def k2188 : K := .o k1094
def k2189 : K := .i k1094
def k2190 : K := .o k1095
def k2191 : K := .i k1095
def k2271 : K := .i k1135
def k2273 : K := .i k1136
def k2274 : K := .o k1137
def k2277 : K := .i k1138
def k2279 : K := .i k1139
def k2286 : K := .o k1143
def k2287 : K := .i k1143
def k2288 : K := .o k1144
def k2289 : K := .i k1144
def k2290 : K := .o k1145
def k2292 : K := .o k1146
def k2753 : K := .i k1376
def k2757 : K := .i k1378
def k2784 : K := .o k1392
def k2811 : K := .i k1405
def k2840 : K := .o k1420
def k2844 : K := .o k1422
def k2845 : K := .i k1422
def k2846 : K := .o k1423
def k2847 : K := .i k1423
def k2848 : K := .o k1424
def k3459 : K := .i k1729
def k3460 : K := .o k1730
def k3461 : K := .i k1730
def k3462 : K := .o k1731
def k3463 : K := .i k1731
def k3568 : K := .o k1784
def k3815 : K := .i k1907
def k3816 : K := .o k1908
def k3817 : K := .i k1908
def k3819 : K := .i k1909
def k3823 : K := .i k1911
def k3824 : K := .o k1912
def k4075 : K := .i k2037
def k4376 : K := .o k2188
def k4377 : K := .i k2188
def k4378 : K := .o k2189
def k4379 : K := .i k2189
def k4380 : K := .o k2190
def k4381 : K := .i k2190
def k4382 : K := .o k2191
def k4383 : K := .i k2191
def k4543 : K := .i k2271
def k4546 : K := .o k2273
def k4549 : K := .i k2274
def k4554 : K := .o k2277
def k4558 : K := .o k2279
def k4572 : K := .o k2286
def k4574 : K := .o k2287
def k4576 : K := .o k2288
def k4578 : K := .o k2289
def k4580 : K := .o k2290
def k4584 : K := .o k2292
def k4585 : K := .i k2292
def k5507 : K := .i k2753
def k5515 : K := .i k2757
def k5568 : K := .o k2784
def k5623 : K := .i k2811
def k5681 : K := .i k2840
def k5688 : K := .o k2844
def k5690 : K := .o k2845
def k5692 : K := .o k2846
def k5694 : K := .o k2847
def k5695 : K := .i k2847
def k5696 : K := .o k2848
def k6918 : K := .o k3459
def k6920 : K := .o k3460
def k6922 : K := .o k3461
def k6924 : K := .o k3462
def k6925 : K := .i k3462
def k6926 : K := .o k3463
def k6927 : K := .i k3463
def k7137 : K := .i k3568
def k7631 : K := .i k3815
def k7632 : K := .o k3816
def k7634 : K := .o k3817
def k7638 : K := .o k3819
def k7646 : K := .o k3823
def k7647 : K := .i k3823
def k7648 : K := .o k3824
def k8151 : K := .i k4075
def k9087 : K := .i k4543
def k9093 : K := .i k4546
def k9098 : K := .o k4549
def k9109 : K := .i k4554
def k9117 : K := .i k4558
def k9144 : K := .o k4572
def k9148 : K := .o k4574
def k9152 : K := .o k4576
def k9157 : K := .i k4578
def k9161 : K := .i k4580
def k9169 : K := .i k4584
def k9170 : K := .o k4585
def k9171 : K := .i k4585
def k11014 : K := .o k5507
def k11031 : K := .i k5515
def k11137 : K := .i k5568
def k11246 : K := .o k5623
def k11363 : K := .i k5681
def k11376 : K := .o k5688
def k11377 : K := .i k5688
def k11381 : K := .i k5690
def k11384 : K := .o k5692
def k11385 : K := .i k5692
def k11389 : K := .i k5694
def k11390 : K := .o k5695
def k11391 : K := .i k5695
def k11392 : K := .o k5696
def k13836 : K := .o k6918
def k13837 : K := .i k6918
def k13841 : K := .i k6920
def k13844 : K := .o k6922
def k13845 : K := .i k6922
def k13849 : K := .i k6924
def k13850 : K := .o k6925
def k13851 : K := .i k6925
def k13852 : K := .o k6926
def k13853 : K := .i k6926
def k13854 : K := .o k6927
def k16303 : K := .i k8151
def hk0 : Hook := ⟨10, [(.sl k2053 0 0 2 2),(.nat .i64 3),(.sl k2054 0 0 1 1),(.nat .i64 0)], ⟨(tn (tn (tn (tn (.nd (tl (tl (tl (tl (tl (tl (.nd .lf (.row
  [(.nat .i64 3)] 1 3 false 0 0 0) .lf))))))) (.row [(.nat .i64 2),(.nat .i64 2),(.nat .i64 2),(.str []),(.nat .i64 0),(.nat .i64 0),(.nil 1),(.bool false),(.sl
  k12 0 0 1 1),(.nil 1)] 10 48 false 0 0 0) .lf) (tr (tr (tr (tr (tr (tr (.nd .lf (.row [(.nat .i64 2)] 1 3 false 0 0 0) .lf)))))))) (.nd (tl (tl (tl (tl (tl
  (tl (tl (.nd .lf (.row [(.nat .i64 5),(.nat .i64 0),(.nat .i64 0),(.str []),(.nat .i64 0),(.nat .i64 0),(.sl k2047 0 0 2 2),(.bool false),(.sl k2048 0 0 1
  1),(.nil 1)] 10 48 false 0 0 0) .lf)))))))) (.row [(.nat .i64 3)] 1 3 false 0 0 0) (.nd .lf (.row [(.str [48]),(.so k26 8 0 2 0)] 2 66 false 0 0 0) (tr (tr
  (tr (tr (tr (.nd .lf (.row [(.nat .i64 2),(.nat .i64 1),(.nat .i64 1),(.str []),(.nat .i64 0),(.nat .i64 0),(.nil 1),(.bool false),(.sl k2040 0 0 1 1),(.nil
  1)] 10 48 false 0 0 0) .lf))))))))) (.nd (.nd .lf (.row [(.nat .i64 2),(.nat .i64 1),(.nat .i64 1),(.str []),(.nat .i64 0),(.nat .i64 0),(.nil 1),(.bool
  false),(.sl k6 0 0 1 1),(.nil 1)] 10 48 false 0 0 0) (.nd .lf (.row [(.nat .i64 1),(.nat .i64 1),(.str [48]),(.nat .i64 0),(.nat .i64 2),(.nat .i64 2),(.str
  [48]),(.nat .i64 0)] 8 63 true 0 0 0) .lf)) (.row [(.nat .i64 2)] 1 3 false 0 0 0) (tl (tl (tl (tl (tl (tl (tl (tl (.nd .lf (.row [(.nat .i64 1)] 1 3 false 0
  0 0) .lf))))))))))) (tn (tn (tl (.nd .lf (.row [(.nat .i64 2),(.sl k10 0 0 1 1),(.nat .i64 1),(.nat .i64 0),(.nat .i64 0),(.str []),(.nat .i64 0),(.nat .i64
  0),(.nil 1),(.nat .i64 1),(.nat .i64 0),(.nat .i64 0),(.str []),(.nat .i64 0),(.nat .i64 0),(.nil 1),(.nat .i64 1),(.sl k16 0 0 1 1),(.nat .i64 1),(.nat .i64
  0),(.nat .i64 0),(.str []),(.nat .i64 0),(.nat .i64 0),(.nil 1),(.nat .i64 1),(.nat .i64 0),(.nat .i64 0),(.str []),(.nat .i64 0),(.nat .i64 0),(.nil 1)] 32
  27 false 0 0 0) .lf)) (tn (tl (tl (tl (tl (tl (tl (tl (.nd .lf (.row [(.nat .i64 1),(.sl k2044 0 0 1 1),(.nat .i64 1),(.nat .i64 0),(.nat .i64 0),(.str
  []),(.nat .i64 0),(.nat .i64 0),(.nil 1),(.nat .i64 1),(.nat .i64 0),(.nat .i64 0),(.str []),(.nat .i64 0),(.nat .i64 0),(.nil 1),(.nat .i64 1),(.sl k2052 0 0
  1 1),(.nat .i64 1),(.nat .i64 0),(.nat .i64 0),(.str []),(.nat .i64 0),(.nat .i64 0),(.nil 1),(.nat .i64 1),(.nat .i64 0),(.nat .i64 0),(.str []),(.nat .i64
  0),(.nat .i64 0),(.nil 1)] 32 27 false 0 0 0) .lf)))))))) (.nd .lf (.row [(.nat .i64 1),(.nat .i64 0),(.str [48]),(.sl k28 0 0 1 1)] 4 33 false 0 0 0) .lf)))
  (tr (tr (tr (tr (tr (tr (tr (tr (.nd .lf (.row [(.nat .i64 2),(.nat .i64 2),(.nat .i64 2),(.str []),(.nat .i64 0),(.nat .i64 0),(.nil 1),(.nat .i64 2),(.nat
  .i64 3),(.nat .i64 3),(.str []),(.nat .i64 0),(.nat .i64 0),(.nil 1)] 14 25 false 0 0 0) .lf))))))))))), k2055⟩, (.ls 1 [(.nil 1),(.nat .i64 2)]), ⟨(tn (tn
  (tn (tl (.nd .lf (.row [(.nat .i64 2),(.nat .i64 2),(.nat .i64 2),(.str []),(.nat .i64 0),(.nat .i64 0),(.nil 1),(.bool false),(.sl k12 0 0 1 1),(.nil 1)] 10
  48 false 0 0 0) .lf)) (.nd .lf (.row [(.nat .i64 3)] 1 3 false 0 0 0) (.nd .lf (.row [(.str [48]),(.so k26 8 0 2 0)] 2 66 false 0 0 0) .lf))) (.nd (.nd .lf
  (.row [(.nat .i64 2),(.nat .i64 1),(.nat .i64 1),(.str []),(.nat .i64 0),(.nat .i64 0),(.nil 1),(.bool false),(.sl k6 0 0 1 1),(.nil 1)] 10 48 false 0 0 0)
  (.nd .lf (.row [(.nat .i64 1),(.nat .i64 1),(.str [48]),(.nat .i64 0),(.nat .i64 2),(.nat .i64 2),(.str [48]),(.nat .i64 0)] 8 63 true 0 0 0) .lf)) (.row
  [(.nat .i64 2)] 1 3 false 0 0 0) .lf)) (tl (tn (tl (.nd .lf (.row [(.nat .i64 2),(.sl k10 0 0 1 1),(.nat .i64 1),(.nat .i64 0),(.nat .i64 0),(.str []),(.nat
  .i64 0),(.nat .i64 0),(.nil 1),(.nat .i64 1),(.nat .i64 0),(.nat .i64 0),(.str []),(.nat .i64 0),(.nat .i64 0),(.nil 1),(.nat .i64 1),(.sl k16 0 0 1 1),(.nat
  .i64 1),(.nat .i64 0),(.nat .i64 0),(.str []),(.nat .i64 0),(.nat .i64 0),(.nil 1),(.nat .i64 1),(.nat .i64 0),(.nat .i64 0),(.str []),(.nat .i64 0),(.nat
  .i64 0),(.nil 1)] 32 27 false 0 0 0) .lf)) (tr (.nd .lf (.row [(.nat .i64 1),(.nat .i64 0),(.str [48]),(.sl k28 0 0 1 1)] 4 33 false 0 0 0) .lf))))), k4376⟩⟩
def hk1 : Hook := ⟨11, [(.sl k17 0 0 2 2),(.sl k4377 0 0 2 2),(.sl k4382 0 0 4 4)], ⟨(tn (tn (tn (tn (.nd .lf (.row [(.nat .i64 2),(.nat .i64 2),(.nat .i64
  2),(.str []),(.nat .i64 0),(.nat .i64 0),(.nil 1),(.bool false),(.sl k12 0 0 1 1),(.nil 1)] 10 48 false 0 0 0) .lf) (tr (tl (tl (tl (tr (tl (tl (tl (.nd .lf
  (.row [(.nat .i64 1),(.nat .i64 2)] 2 3 false 0 0 0) .lf)))))))))) (.nd .lf (.row [(.nat .i64 3)] 1 3 false 0 0 0) (.nd .lf (.row [(.str [48]),(.so k26 8 0 2
  0)] 2 66 false 0 0 0) (tl (tl (tl (tr (tl (tl (tl (.nd .lf (.row [(.nat .i64 3),(.nat .i64 1)] 2 3 false 0 0 0) .lf))))))))))) (.nd (.nd .lf (.row [(.nat .i64
  2),(.nat .i64 1),(.nat .i64 1),(.str []),(.nat .i64 0),(.nat .i64 0),(.nil 1),(.bool false),(.sl k6 0 0 1 1),(.nil 1)] 10 48 false 0 0 0) (.nd .lf (.row
  [(.nat .i64 1),(.nat .i64 1),(.str [48]),(.nat .i64 0),(.nat .i64 2),(.nat .i64 2),(.str [48]),(.nat .i64 0)] 8 63 true 0 0 0) (tl (tl (tl (tr (tl (tl (tl
  (.nd .lf (.row [(.nat .i64 1),(.nat .i64 1)] 2 3 false 0 0 0) .lf)))))))))) (.row [(.nat .i64 2)] 1 3 false 0 0 0) (tr (tr (tl (tl (tl (tr (tl (tl (tl (.nd
  .lf (.row [(.sl k4378 0 0 2 2),(.sl k4379 0 0 2 2),(.sl k4380 0 0 2 2),(.sl k4381 0 0 2 2)] 4 43 false 0 0 0) .lf)))))))))))) (tn (tn (tn (.nd .lf (.row
  [(.nat .i64 2),(.sl k10 0 0 1 1),(.nat .i64 1),(.nat .i64 0),(.nat .i64 0),(.str []),(.nat .i64 0),(.nat .i64 0),(.nil 1),(.nat .i64 1),(.nat .i64 0),(.nat
  .i64 0),(.str []),(.nat .i64 0),(.nat .i64 0),(.nil 1),(.nat .i64 1),(.sl k16 0 0 1 1),(.nat .i64 1),(.nat .i64 0),(.nat .i64 0),(.str []),(.nat .i64 0),(.nat
  .i64 0),(.nil 1),(.nat .i64 1),(.nat .i64 0),(.nat .i64 0),(.str []),(.nat .i64 0),(.nat .i64 0),(.nil 1)] 32 27 false 0 0 0) .lf) (tr (tl (tl (tl (tr (tl (tl
  (tl (.nd .lf (.row [(.nat .i64 1),(.nat .i64 1)] 2 3 false 0 0 0) .lf)))))))))) (tr (.nd .lf (.row [(.nat .i64 1),(.nat .i64 0),(.str [48]),(.sl k28 0 0 1 1)]
  4 33 false 0 0 0) (tl (tl (tl (tr (tl (tl (tl (.nd .lf (.row [(.nat .i64 3),(.nat .i64 3)] 2 3 false 0 0 0) .lf))))))))))) (tl (tr (tr (tl (tl (tl (tr (tl (tl
  (tl (.nd .lf (.row [(.nat .i64 1),(.nat .i64 3)] 2 3 false 0 0 0) .lf))))))))))))), k4383⟩, (.bool true), ⟨(tn (tn (tn (tr (tr (tl (tl (tl (tr (tl (tl (tl
  (.nd .lf (.row [(.nat .i64 1),(.nat .i64 2)] 2 3 false 0 0 0) .lf)))))))))) (tr (.nd .lf (.row [(.str [48]),(.so k26 8 0 2 0)] 2 66 false 0 0 0) .lf))) (tl
  (tr (.nd .lf (.row [(.nat .i64 1),(.nat .i64 1),(.str [48]),(.nat .i64 0),(.nat .i64 2),(.nat .i64 2),(.str [48]),(.nat .i64 0)] 8 63 true 0 0 0) .lf)))) (tl
  (tr (tr (.nd .lf (.row [(.nat .i64 1),(.nat .i64 0),(.str [48]),(.sl k28 0 0 1 1)] 4 33 false 0 0 0) .lf))))), k7137⟩⟩
def hk2 : Hook := ⟨8, [(.ls 0 [(.nat .i64 1),(.nat .i64 0),(.str [53]),(.so k9144 6 0 3 0)]),(.sl k9170 0 0 1 2),(.nat .i64 3)], ⟨(tn (tn (tn (tn (tn (tl (tr
  (tr (tr (tr (tl (tl (tl (.nd .lf (.row [(.nat .i64 1),(.nat .i64 3),(.str [48]),(.nat .i64 2)] 4 63 true 0 0 0) .lf))))))))) (tl (tr (tr (tr (tl (tr (tr (.nd
  .lf (.row [(.nat .i64 3)] 1 3 false 0 0 0) .lf))))))))) (tr (tr (tl (tr (tr (tr (tl (tl (tl (.nd .lf (.row [(.str []),(.so k9148 4 0 1 0),(.str []),(.so k9152
  4 0 1 0),(.str [48]),(.nil 1)] 6 66 true 6 0 0) .lf))))))))))) (tr (tr (tr (tl (tr (tr (tr (tl (tl (tl (.nd .lf (.row [(.nat .i64 2),(.nat .i64 1),(.str
  [48]),(.nat .i64 1)] 4 63 true 0 0 0) .lf)))))))))))) (tl (tn (tr (tl (tr (tr (tr (tr (tl (tl (tl (.nd .lf (.row [(.nat .i64 1),(.sl k9161 0 0 1 1),(.nat .i64
  1),(.nat .i64 0),(.nat .i64 0),(.str []),(.nat .i64 0),(.nat .i64 0),(.nil 1),(.nat .i64 1),(.nat .i64 0),(.nat .i64 0),(.str []),(.nat .i64 0),(.nat .i64
  0),(.nil 1),(.nat .i64 1),(.sl k9169 0 0 1 1),(.nat .i64 1),(.nat .i64 0),(.nat .i64 0),(.str []),(.nat .i64 0),(.nat .i64 0),(.nil 1),(.nat .i64 1),(.nat
  .i64 0),(.nat .i64 0),(.str []),(.nat .i64 0),(.nat .i64 0),(.nil 1)] 32 27 false 0 0 0) .lf)))))))))) (tl (tl (tl (tr (tr (tr (tl (tl (tl (.nd .lf (.row
  [(.nat .i64 2),(.nat .i64 2),(.str [48]),(.nat .i64 1),(.nat .i64 3),(.nat .i64 3),(.str [48]),(.nat .i64 1),(.nat .i64 0),(.nat .i64 2),(.str [48]),(.nat
  .i64 2)] 12 63 true 0 0 0) .lf))))))))))))) (tn (tn (tr (tl (tl (tr (tr (tr (tr (tl (tl (tl (.nd .lf (.row [(.nat .i64 2),(.nat .i64 1),(.nat .i64 1),(.str
  []),(.nat .i64 0),(.nat .i64 0),(.nil 1),(.bool false),(.sl k9157 0 0 1 1),(.nil 1)] 10 48 false 0 0 0) .lf))))))))))) (tn (tn (tl (tn (tr (tr (tr (tl (tl (tl
  (.nd .lf (.row [(.str [48]),(.so k9087 12 0 3 0),(.str [48]),(.so k9098 12 0 3 0),(.str []),(.so k9109 4 0 1 0)] 6 66 true 0 0 0) .lf))))))) (tr (tr (tr (tl
  (tl (tl (.nd .lf (.row [(.nat .i64 2)] 1 3 false 0 0 0) .lf))))))))) (tl (tl (tr (tr (tr (tl (tl (tl (.nd .lf (.row [(.nat .i64 1),(.nat .i64 0),(.str
  [48]),(.nat .i64 1)] 4 63 true 0 0 0) .lf)))))))))) (tr (tl (tl (tr (tr (tr (tl (tl (tl (.nd .lf (.row [(.nat .i64 1),(.nat .i64 0),(.str [48]),(.so k9093 6 0
  3 0)] 4 33 false 0 0 0) .lf)))))))))))) (tn (tl (tl (tl (tr (tr (tr (tr (tl (tl (tl (.nd .lf (.row [(.nat .i64 0),(.nat .i64 0),(.str []),(.nil 1)] 4 33 false
  0 0 0) .lf))))))))))) (tr (tn (tl (tr (tr (tr (tl (tr (tr (.nd .lf (.row [(.nat .i64 1),(.nat .i64 3)] 2 3 false 0 0 0) .lf)))))))) (tr (tr (tl (tr (tr (tl
  (tl (tl (.nd .lf (.row [(.nat .i64 2),(.nat .i64 2),(.str [48]),(.nat .i64 1),(.nat .i64 3),(.nat .i64 3),(.str [48]),(.nat .i64 1),(.nat .i64 0),(.nat .i64
  2),(.str [48]),(.nat .i64 2)] 12 63 true 0 0 0) .lf)))))))))))))), k9171⟩, (.ls 1 [(.ls 0 [(.nat .i64 1),(.nat .i64 0),(.str [53]),(.so k11014 12 0 6
  0)]),(.nat .i64 0)]), ⟨(tn (tn (tl (tl (tr (tl (tr (tr (tr (tl (tr (tr (.nd .lf (.row [(.nat .i64 3)] 1 3 false 0 0 0) .lf))))))))))) (tn (tr (tl (tl (tl (tr
  (tr (tr (tl (tl (tl (.nd .lf (.row [(.nat .i64 2),(.nat .i64 2),(.str [48]),(.nat .i64 1),(.nat .i64 3),(.nat .i64 3),(.str [48]),(.nat .i64 1),(.nat .i64
  0),(.nat .i64 2),(.str [48]),(.nat .i64 2)] 12 63 true 0 0 0) .lf))))))))))) (tn (tl (tl (tl (tl (tr (tr (tl (tr (tl (.nd .lf (.row [(.str []),(.so k11031 4 0
  1 0),(.str []),(.so k11137 4 0 1 0),(.str []),(.so k11246 8 0 2 0),(.str [48]),(.so k11363 4 0 1 0),(.str []),(.nil 1),(.str []),(.nil 1)] 12 66 true 12 0 0)
  .lf)))))))))) (tl (tr (tr (tr (tr (tr (tl (tr (tl (.nd .lf (.row [(.nat .i64 1),(.nat .i64 3),(.str [48]),(.nat .i64 3),(.nat .i64 0),(.nat .i64 2),(.str
  [48]),(.nat .i64 4)] 8 63 true 0 0 0) .lf))))))))))))) (tn (tn (tl (tl (tl (tl (tr (tr (tr (tl (tr (tl (.nd .lf (.row [(.nat .i64 2),(.nat .i64 0),(.str
  [48]),(.nat .i64 2)] 4 63 true 0 0 0) .lf))))))))))) (tn (tn (tl (tl (tr (tr (tr (tl (tl (tl (.nd .lf (.row [(.str [48]),(.so k9087 12 0 3 0),(.str [48]),(.so
  k9098 12 0 3 0),(.str []),(.so k9109 4 0 1 0)] 6 66 true 0 0 0) .lf))))))))) (tl (tl (tr (tr (tr (tl (tl (tl (.nd .lf (.row [(.nat .i64 1),(.nat .i64 0),(.str
  [48]),(.nat .i64 1)] 4 63 true 0 0 0) .lf)))))))))) (tr (tl (tl (tr (tr (tr (tl (tl (tl (.nd .lf (.row [(.nat .i64 1),(.nat .i64 0),(.str [48]),(.so k9093 6 0
  3 0)] 4 33 false 0 0 0) .lf)))))))))))) (tn (tl (tl (tn (tr (tr (tr (tr (tl (tl (tl (.nd .lf (.row [(.nat .i64 0),(.nat .i64 0),(.str []),(.nil 1)] 4 33 false
  0 0 0) .lf)))))))) (tr (tl (tl (tl (tr (tr (tl (.nd .lf (.row [(.nat .i64 0),(.nat .i64 2),(.str [48]),(.nat .i64 5)] 4 63 true 0 0 0) .lf))))))))))) (tn (tr
  (tl (tl (tl (tr (tr (tl (tr (tl (.nd .lf (.row [(.nat .i64 0),(.nat .i64 2),(.str [48]),(.nat .i64 1)] 4 63 true 0 0 0) .lf)))))))))) (tn (tl (tr (tr (tr (tl
  (tr (tr (.nd .lf (.row [(.nat .i64 1),(.nat .i64 3)] 2 3 false 0 0 0) .lf)))))))) (tr (tr (tl (tr (tr (tl (tl (tl (.nd .lf (.row [(.nat .i64 2),(.nat .i64
  2),(.str [48]),(.nat .i64 1),(.nat .i64 3),(.nat .i64 3),(.str [48]),(.nat .i64 1),(.nat .i64 0),(.nat .i64 2),(.str [48]),(.nat .i64 2)] 12 63 true 0 0 0)
  .lf)))))))))))))), k11376⟩⟩
def hk3 : Hook := ⟨11, [(.sl k11390 0 0 2 2),(.sl k7631 0 0 2 2),(.sl k11391 0 0 1 1)], ⟨(tn (tn (tl (tn (tr (tl (tr (tr (tr (tl (tr (tr (.nd .lf (.row [(.nat
  .i64 3)] 1 3 false 0 0 0) .lf))))))))) (tr (tr (tr (tl (tl (tl (tr (tr (tl (.nd .lf (.row [(.nat .i64 2),(.nat .i64 2),(.nat .i64 2),(.str []),(.nat .i64
  0),(.nat .i64 0),(.nil 1),(.nat .i64 2),(.nat .i64 3),(.nat .i64 3),(.str []),(.nat .i64 0),(.nat .i64 0),(.nil 1)] 14 25 false 0 0 0) .lf)))))))))))) (tn (tr
  (tl (tl (tl (tr (tr (tr (tl (tl (tl (.nd .lf (.row [(.nat .i64 2),(.nat .i64 2),(.str [48]),(.nat .i64 1),(.nat .i64 3),(.nat .i64 3),(.str [48]),(.nat .i64
  1),(.nat .i64 0),(.nat .i64 2),(.str [48]),(.nat .i64 2)] 12 63 true 0 0 0) .lf))))))))))) (tn (tl (tl (tl (tl (tr (tr (tl (tr (tl (.nd .lf (.row [(.str
  []),(.so k11031 4 0 1 0),(.str []),(.so k11137 4 0 1 0),(.str []),(.so k11246 8 0 2 0),(.str [48]),(.so k11363 4 0 1 0),(.str []),(.nil 1),(.str []),(.nil 1)]
  12 66 true 12 0 0) .lf)))))))))) (tn (tr (tr (tr (tr (tr (tl (tr (tl (.nd .lf (.row [(.nat .i64 1),(.nat .i64 3),(.str [48]),(.nat .i64 3),(.nat .i64 0),(.nat
  .i64 2),(.str [48]),(.nat .i64 4)] 8 63 true 0 0 0) .lf))))))))) (tr (tr (tl (tl (tl (tr (tr (tl (.nd .lf (.row [(.nat .i64 1),(.sl k11381 0 0 1 1),(.nat .i64
  1),(.nat .i64 0),(.nat .i64 0),(.str []),(.nat .i64 0),(.nat .i64 0),(.nil 1),(.nat .i64 1),(.nat .i64 0),(.nat .i64 0),(.str []),(.nat .i64 0),(.nat .i64
  0),(.nil 1),(.nat .i64 1),(.sl k11389 0 0 1 1),(.nat .i64 1),(.nat .i64 0),(.nat .i64 0),(.str []),(.nat .i64 0),(.nat .i64 0),(.nil 1),(.nat .i64 1),(.nat
  .i64 0),(.nat .i64 0),(.str []),(.nat .i64 0),(.nat .i64 0),(.nil 1)] 32 27 false 0 0 0) .lf))))))))))))) (tn (tn (tn (tn (tl (tl (tr (tr (tr (tl (tr (tl (.nd
  .lf (.row [(.nat .i64 2),(.nat .i64 0),(.str [48]),(.nat .i64 2)] 4 63 true 0 0 0) .lf))))))))) (tr (tr (tl (tl (tl (tr (tr (tl (.nd .lf (.row [(.nat .i64 2)]
  1 3 false 0 0 0) .lf)))))))))) (tr (tr (tr (tl (tl (tl (tr (tr (tl (.nd .lf (.row [(.nat .i64 3)] 1 3 false 0 0 0) .lf))))))))))) (tn (tn (tl (tl (tr (tr (tr
  (tl (tl (tl (.nd .lf (.row [(.str [48]),(.so k9087 12 0 3 0),(.str [48]),(.so k9098 12 0 3 0),(.str []),(.so k9109 4 0 1 0)] 6 66 true 0 0 0) .lf))))))))) (tn
  (tl (tr (tr (tr (tl (tl (tl (.nd .lf (.row [(.nat .i64 1),(.nat .i64 0),(.str [48]),(.nat .i64 1)] 4 63 true 0 0 0) .lf)))))))) (tr (tl (tl (tl (tr (tr (tl
  (.nd .lf (.row [(.nat .i64 2),(.nat .i64 1),(.nat .i64 1),(.str []),(.nat .i64 0),(.nat .i64 0),(.nil 1),(.bool false),(.sl k11377 0 0 1 1),(.nil 1)] 10 48
  false 0 0 0) .lf)))))))))) (tr (tn (tl (tr (tr (tr (tl (tl (tl (.nd .lf (.row [(.nat .i64 1),(.nat .i64 0),(.str [48]),(.so k9093 6 0 3 0)] 4 33 false 0 0 0)
  .lf)))))))) (tr (tl (tl (tl (tr (tr (tl (.nd .lf (.row [(.nat .i64 5),(.nat .i64 0),(.nat .i64 0),(.str []),(.nat .i64 0),(.nat .i64 0),(.sl k11384 0 0 2
  2),(.bool false),(.sl k11385 0 0 1 1),(.nil 1)] 10 48 false 0 0 0) .lf)))))))))))) (tn (tl (tl (tn (tr (tr (tr (tr (tl (tl (tl (.nd .lf (.row [(.nat .i64
  1),(.nat .i64 0),(.str [53]),(.so k11014 12 0 6 0)] 4 33 false 0 0 0) .lf)))))))) (tr (tl (tl (tl (tr (tr (tl (.nd .lf (.row [(.nat .i64 0),(.nat .i64
  2),(.str [48]),(.nat .i64 5)] 4 63 true 0 0 0) .lf))))))))))) (tn (tr (tl (tl (tl (tr (tr (tl (tr (tl (.nd .lf (.row [(.nat .i64 0),(.nat .i64 2),(.str
  [48]),(.nat .i64 1)] 4 63 true 0 0 0) .lf)))))))))) (tn (tl (tr (tr (tr (tl (tr (tr (.nd .lf (.row [(.nat .i64 1),(.nat .i64 3)] 2 3 false 0 0 0) .lf))))))))
  (tr (tr (tl (tn (tl (tr (tr (tl (.nd .lf (.row [(.sl k7632 0 0 1 1)] 1 43 false 0 0 0) .lf))))) (tr (tl (tl (tl (.nd .lf (.row [(.nat .i64 2),(.nat .i64
  2),(.str [48]),(.nat .i64 1),(.nat .i64 3),(.nat .i64 3),(.str [48]),(.nat .i64 1),(.nat .i64 0),(.nat .i64 2),(.str [48]),(.nat .i64 2)] 12 63 true 0 0 0)
  .lf)))))))))))))), k11392⟩, (.bool true), ⟨(tn (tr (tn (tr (tl (tl (tl (tr (tr (tr (tl (tl (tl (.nd .lf (.row [(.nat .i64 2),(.nat .i64 2),(.str [48]),(.nat
  .i64 1),(.nat .i64 3),(.nat .i64 3),(.str [48]),(.nat .i64 1),(.nat .i64 0),(.nat .i64 2),(.str [48]),(.nat .i64 2)] 12 63 true 0 0 0) .lf))))))))))) (tn (tl
  (tl (tl (tl (tr (tr (tl (tr (tl (.nd .lf (.row [(.str []),(.so k11031 4 0 1 0),(.str []),(.so k11137 4 0 1 0),(.str []),(.so k11246 8 0 2 0),(.str [48]),(.so
  k11363 4 0 1 0),(.str []),(.nil 1),(.str []),(.nil 1)] 12 66 true 12 0 0) .lf)))))))))) (tl (tr (tr (tr (tr (tr (tl (tr (tl (.nd .lf (.row [(.nat .i64
  1),(.nat .i64 3),(.str [48]),(.nat .i64 3),(.nat .i64 0),(.nat .i64 2),(.str [48]),(.nat .i64 4)] 8 63 true 0 0 0) .lf))))))))))))) (tn (tn (tl (tl (tl (tl
  (tr (tr (tr (tl (tr (tl (.nd .lf (.row [(.nat .i64 2),(.nat .i64 0),(.str [48]),(.nat .i64 2)] 4 63 true 0 0 0) .lf))))))))))) (tn (tn (tl (tl (tr (tr (tr (tl
  (tl (tl (.nd .lf (.row [(.str [48]),(.so k9087 12 0 3 0),(.str [48]),(.so k9098 12 0 3 0),(.str []),(.so k9109 4 0 1 0)] 6 66 true 0 0 0) .lf))))))))) (tl (tl
  (tr (tr (tr (tl (tl (tl (.nd .lf (.row [(.nat .i64 1),(.nat .i64 0),(.str [48]),(.nat .i64 1)] 4 63 true 0 0 0) .lf)))))))))) (tr (tl (tl (tr (tr (tr (tl (tl
  (tl (.nd .lf (.row [(.nat .i64 1),(.nat .i64 0),(.str [48]),(.so k9093 6 0 3 0)] 4 33 false 0 0 0) .lf)))))))))))) (tn (tl (tl (tn (tr (tr (tr (tr (tl (tl (tl
  (.nd .lf (.row [(.nat .i64 1),(.nat .i64 0),(.str [53]),(.so k11014 12 0 6 0)] 4 33 false 0 0 0) .lf)))))))) (tr (tl (tl (tl (tr (tr (tl (.nd .lf (.row [(.nat
  .i64 0),(.nat .i64 2),(.str [48]),(.nat .i64 5)] 4 63 true 0 0 0) .lf))))))))))) (tn (tr (tl (tl (tl (tr (tr (tl (tr (tl (.nd .lf (.row [(.nat .i64 0),(.nat
  .i64 2),(.str [48]),(.nat .i64 1)] 4 63 true 0 0 0) .lf)))))))))) (tn (tl (tr (tr (tr (tl (tr (tr (.nd .lf (.row [(.nat .i64 1),(.nat .i64 3)] 2 3 false 0 0
  0) .lf)))))))) (tr (tr (tl (tr (tr (tl (tl (tl (.nd .lf (.row [(.nat .i64 2),(.nat .i64 2),(.str [48]),(.nat .i64 1),(.nat .i64 3),(.nat .i64 3),(.str
  [48]),(.nat .i64 1),(.nat .i64 0),(.nat .i64 2),(.str [48]),(.nat .i64 2)] 12 63 true 0 0 0) .lf)))))))))))))), k13836⟩⟩
def hk4 : Hook := ⟨11, [(.sl k13850 0 0 2 2),(.sl k13851 0 0 2 2),(.sl k13853 0 0 1 1)], ⟨(tn (tn (tr (tn (tr (tl (tl (tl (tl (tr (tr (tl (tr (.nd .lf (.row
  [(.nat .i64 2),(.nat .i64 2),(.nat .i64 2),(.str []),(.nat .i64 0),(.nat .i64 0),(.nil 1),(.nat .i64 2),(.nat .i64 3),(.nat .i64 3),(.str []),(.nat .i64
  0),(.nat .i64 0),(.nil 1)] 14 25 false 0 0 0) .lf)))))))))) (tr (tl (tl (tl (tl (tr (tr (tl (tr (.nd .lf (.row [(.nat .i64 2),(.nat .i64 2)] 2 3 false 0 0 0)
  .lf)))))))))))) (tn (tr (tn (tl (tl (tr (tr (tr (tl (tl (tl (.nd .lf (.row [(.nat .i64 2),(.nat .i64 2),(.str [48]),(.nat .i64 1),(.nat .i64 3),(.nat .i64
  3),(.str [48]),(.nat .i64 1),(.nat .i64 0),(.nat .i64 2),(.str [48]),(.nat .i64 2)] 12 63 true 0 0 0) .lf))))))))) (tl (tl (tl (tl (tr (tr (tl (tr (.nd .lf
  (.row [(.nat .i64 1),(.sl k13841 0 0 1 1),(.nat .i64 1),(.nat .i64 0),(.nat .i64 0),(.str []),(.nat .i64 0),(.nat .i64 0),(.nil 1),(.nat .i64 1),(.nat .i64
  0),(.nat .i64 0),(.str []),(.nat .i64 0),(.nat .i64 0),(.nil 1),(.nat .i64 1),(.sl k13849 0 0 1 1),(.nat .i64 1),(.nat .i64 0),(.nat .i64 0),(.str []),(.nat
  .i64 0),(.nat .i64 0),(.nil 1),(.nat .i64 1),(.nat .i64 0),(.nat .i64 0),(.str []),(.nat .i64 0),(.nat .i64 0),(.nil 1)] 32 27 false 0 0 0) .lf))))))))))) (tn
  (tl (tl (tl (tl (tr (tr (tl (tr (tl (.nd .lf (.row [(.str []),(.so k11031 4 0 1 0),(.str []),(.so k11137 4 0 1 0),(.str []),(.so k11246 8 0 2 0),(.str
  [48]),(.so k11363 4 0 1 0),(.str []),(.nil 1),(.str []),(.nil 1)] 12 66 true 12 0 0) .lf)))))))))) (tl (tr (tr (tr (tr (tr (tl (tr (tl (.nd .lf (.row [(.nat
  .i64 1),(.nat .i64 3),(.str [48]),(.nat .i64 3),(.nat .i64 0),(.nat .i64 2),(.str [48]),(.nat .i64 4)] 8 63 true 0 0 0) .lf))))))))))))) (tn (tn (tn (tn (tl
  (tl (tr (tr (tr (tl (tr (tl (.nd .lf (.row [(.nat .i64 2),(.nat .i64 0),(.str [48]),(.nat .i64 2)] 4 63 true 0 0 0) .lf))))))))) (tl (tl (tl (tl (tr (tr (tl
  (tr (.nd .lf (.row [(.nat .i64 2),(.nat .i64 1),(.nat .i64 1),(.str []),(.nat .i64 0),(.nat .i64 0),(.nil 1),(.bool false),(.sl k13837 0 0 1 1),(.nil 1)] 10
  48 false 0 0 0) .lf)))))))))) (tr (tl (tl (tl (tl (tr (tr (tl (tr (.nd .lf (.row [(.nat .i64 5),(.nat .i64 0),(.nat .i64 0),(.str []),(.nat .i64 0),(.nat .i64
  0),(.sl k13844 0 0 2 2),(.bool false),(.sl k13845 0 0 1 1),(.nil 1)] 10 48 false 0 0 0) .lf))))))))))) (tn (tn (tl (tl (tr (tr (tr (tl (tl (tl (.nd .lf (.row
  [(.str [48]),(.so k9087 12 0 3 0),(.str [48]),(.so k9098 12 0 3 0),(.str []),(.so k9109 4 0 1 0)] 6 66 true 0 0 0) .lf))))))))) (tl (tl (tn (tl (tr (tr (tl
  (tr (.nd .lf (.row [(.nat .i64 3)] 1 3 false 0 0 0) .lf)))))) (tr (tr (tl (tl (tl (.nd .lf (.row [(.nat .i64 1),(.nat .i64 0),(.str [48]),(.nat .i64 1)] 4 63
  true 0 0 0) .lf)))))))))) (tn (tl (tl (tl (tl (tr (tr (tl (tr (.nd .lf (.row [(.nat .i64 2)] 1 3 false 0 0 0) .lf))))))))) (tl (tl (tn (tl (tr (tr (tl (tr
  (.nd .lf (.row [(.sl k13852 0 0 2 2)] 1 43 false 0 0 0) .lf)))))) (tr (tr (tl (tl (tl (.nd .lf (.row [(.nat .i64 1),(.nat .i64 0),(.str [48]),(.so k9093 6 0 3
  0)] 4 33 false 0 0 0) .lf)))))))))))) (tn (tn (tl (tn (tr (tr (tr (tr (tl (tl (tl (.nd .lf (.row [(.nat .i64 1),(.nat .i64 0),(.str [53]),(.so k11014 12 0 6
  0)] 4 33 false 0 0 0) .lf)))))))) (tr (tl (tl (tl (tr (tr (tl (.nd .lf (.row [(.nat .i64 0),(.nat .i64 2),(.str [48]),(.nat .i64 5)] 4 63 true 0 0 0)
  .lf)))))))))) (tr (tl (tl (tl (tl (tr (tr (tl (tr (.nd .lf (.row [(.nat .i64 1),(.nat .i64 1)] 2 3 false 0 0 0) .lf))))))))))) (tn (tr (tl (tl (tl (tr (tr (tl
  (tr (tl (.nd .lf (.row [(.nat .i64 0),(.nat .i64 2),(.str [48]),(.nat .i64 1)] 4 63 true 0 0 0) .lf)))))))))) (tn (tl (tr (tr (tr (tl (tr (tr (.nd .lf (.row
  [(.nat .i64 1),(.nat .i64 3)] 2 3 false 0 0 0) .lf)))))))) (tr (tr (tl (tr (tr (tl (tl (tl (.nd .lf (.row [(.nat .i64 2),(.nat .i64 2),(.str [48]),(.nat .i64
  1),(.nat .i64 3),(.nat .i64 3),(.str [48]),(.nat .i64 1),(.nat .i64 0),(.nat .i64 2),(.str [48]),(.nat .i64 2)] 12 63 true 0 0 0) .lf)))))))))))))), k13854⟩,
  (.bool true), ⟨(tn (tr (tn (tr (tl (tl (tl (tr (tr (tr (tl (tl (tl (.nd .lf (.row [(.nat .i64 2),(.nat .i64 2),(.str [48]),(.nat .i64 1),(.nat .i64 3),(.nat
  .i64 3),(.str [48]),(.nat .i64 1),(.nat .i64 0),(.nat .i64 2),(.str [48]),(.nat .i64 2)] 12 63 true 0 0 0) .lf))))))))))) (tn (tl (tl (tl (tl (tr (tr (tl (tr
  (tl (.nd .lf (.row [(.str []),(.so k11031 4 0 1 0),(.str []),(.so k11137 4 0 1 0),(.str []),(.so k11246 8 0 2 0),(.str [48]),(.so k11363 4 0 1 0),(.str
  []),(.nil 1),(.str []),(.nil 1)] 12 66 true 12 0 0) .lf)))))))))) (tl (tr (tr (tr (tr (tr (tl (tr (tl (.nd .lf (.row [(.nat .i64 1),(.nat .i64 3),(.str
  [48]),(.nat .i64 3),(.nat .i64 0),(.nat .i64 2),(.str [48]),(.nat .i64 4)] 8 63 true 0 0 0) .lf))))))))))))) (tn (tn (tl (tl (tl (tl (tr (tr (tr (tl (tr (tl
  (.nd .lf (.row [(.nat .i64 2),(.nat .i64 0),(.str [48]),(.nat .i64 2)] 4 63 true 0 0 0) .lf))))))))))) (tn (tn (tl (tl (tr (tr (tr (tl (tl (tl (.nd .lf (.row
  [(.str [48]),(.so k9087 12 0 3 0),(.str [48]),(.so k9098 12 0 3 0),(.str []),(.so k9109 4 0 1 0)] 6 66 true 0 0 0) .lf))))))))) (tl (tl (tr (tr (tr (tl (tl
  (tl (.nd .lf (.row [(.nat .i64 1),(.nat .i64 0),(.str [48]),(.nat .i64 1)] 4 63 true 0 0 0) .lf)))))))))) (tr (tl (tl (tr (tr (tr (tl (tl (tl (.nd .lf (.row
  [(.nat .i64 1),(.nat .i64 0),(.str [48]),(.so k9093 6 0 3 0)] 4 33 false 0 0 0) .lf)))))))))))) (tn (tl (tl (tn (tr (tr (tr (tr (tl (tl (tl (.nd .lf (.row
  [(.nat .i64 1),(.nat .i64 0),(.str [53]),(.so k11014 12 0 6 0)] 4 33 false 0 0 0) .lf)))))))) (tr (tl (tl (tl (tr (tr (tl (.nd .lf (.row [(.nat .i64 0),(.nat
  .i64 2),(.str [48]),(.nat .i64 5)] 4 63 true 0 0 0) .lf))))))))))) (tn (tr (tl (tl (tl (tr (tr (tl (tr (tl (.nd .lf (.row [(.nat .i64 0),(.nat .i64 2),(.str
  [48]),(.nat .i64 1)] 4 63 true 0 0 0) .lf)))))))))) (tn (tl (tr (tr (tr (tl (tr (tr (.nd .lf (.row [(.nat .i64 1),(.nat .i64 3)] 2 3 false 0 0 0) .lf))))))))
  (tr (tr (tl (tr (tr (tl (tl (tl (.nd .lf (.row [(.nat .i64 2),(.nat .i64 2),(.str [48]),(.nat .i64 1),(.nat .i64 3),(.nat .i64 3),(.str [48]),(.nat .i64
  1),(.nat .i64 0),(.nat .i64 2),(.str [48]),(.nat .i64 2)] 12 63 true 0 0 0) .lf)))))))))))))), k16303⟩⟩
def hk5 : Hook := ⟨6, [(.sl k7647 0 0 1 2),(.nat .i64 3)], ⟨(tn (tn (tl (tl (tr (tl (tr (tr (tr (tl (tr (tr (.nd .lf (.row [(.nat .i64 3)] 1 3 false 0 0 0)
  .lf))))))))))) (tn (tl (tr (tl (tr (tr (tr (tl (tr (tr (.nd .lf (.row [(.nat .i64 2)] 1 3 false 0 0 0) .lf)))))))))) (tl (tr (tl (tr (tr (tr (tl (tr (tr (.nd
  .lf (.row [(.nat .i64 2),(.nat .i64 1),(.nat .i64 1),(.str []),(.nat .i64 0),(.nat .i64 0),(.nil 1),(.bool false),(.sl k7634 0 0 1 1),(.nil 1)] 10 48 false 0
  0 0) .lf)))))))))))) (tr (tr (tr (tn (tl (tr (tr (tr (tl (tr (tr (.nd .lf (.row [(.nat .i64 1),(.nat .i64 3)] 2 3 false 0 0 0) .lf)))))))) (tl (tr (tr (tr (tl
  (tr (tr (.nd .lf (.row [(.nat .i64 1),(.sl k7638 0 0 1 1),(.nat .i64 1),(.nat .i64 0),(.nat .i64 0),(.str []),(.nat .i64 0),(.nat .i64 0),(.nil 1),(.nat .i64
  1),(.nat .i64 0),(.nat .i64 0),(.str []),(.nat .i64 0),(.nat .i64 0),(.nil 1),(.nat .i64 1),(.sl k7646 0 0 1 1),(.nat .i64 1),(.nat .i64 0),(.nat .i64
  0),(.str []),(.nat .i64 0),(.nat .i64 0),(.nil 1),(.nat .i64 1),(.nat .i64 0),(.nat .i64 0),(.str []),(.nat .i64 0),(.nat .i64 0),(.nil 1)] 32 27 false 0 0 0)
  .lf))))))))))))), k7648⟩, (.ls 1 [(.ls 0 [(.nat .i64 1),(.nat .i64 0),(.str [48]),(.so k9093 6 0 3 0)]),(.nat .i64 0)]), ⟨(tn (tn (tl (tl (tr (tl (tr (tr (tr
  (tl (tr (tr (.nd .lf (.row [(.nat .i64 3)] 1 3 false 0 0 0) .lf))))))))))) (tl (tr (tl (tl (tl (tr (tr (tr (tl (tl (tl (.nd .lf (.row [(.nat .i64 2),(.nat
  .i64 2),(.str [48]),(.nat .i64 1),(.nat .i64 3),(.nat .i64 3),(.str [48]),(.nat .i64 1),(.nat .i64 0),(.nat .i64 2),(.str [48]),(.nat .i64 2)] 12 63 true 0 0
  0) .lf))))))))))))) (tn (tr (tl (tn (tl (tl (tr (tr (tr (tl (tl (tl (.nd .lf (.row [(.str [48]),(.so k9087 12 0 3 0),(.str [48]),(.so k9098 12 0 3 0),(.str
  []),(.so k9109 4 0 1 0)] 6 66 true 0 0 0) .lf))))))))) (tl (tl (tr (tr (tr (tl (tl (tl (.nd .lf (.row [(.nat .i64 1),(.nat .i64 0),(.str [48]),(.nat .i64 1)]
  4 63 true 0 0 0) .lf)))))))))))) (tr (tr (tn (tl (tr (tr (tr (tl (tr (tr (.nd .lf (.row [(.nat .i64 1),(.nat .i64 3)] 2 3 false 0 0 0) .lf)))))))) (tr (tr (tl
  (tr (tr (tl (tl (tl (.nd .lf (.row [(.nat .i64 2),(.nat .i64 2),(.str [48]),(.nat .i64 1),(.nat .i64 3),(.nat .i64 3),(.str [48]),(.nat .i64 1),(.nat .i64
  0),(.nat .i64 2),(.str [48]),(.nat .i64 2)] 12 63 true 0 0 0) .lf)))))))))))))), k9117⟩⟩
end Go.Proofs.YtgcjgfdaophogaaGreatDoor.cascadeKnown
