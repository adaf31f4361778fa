/- The program as the evaluator takes it (three lists of hints, which the proofs need not trust), and some calls of the closed run of ReplaceExamples, each with what it is given and what it answers. No statement of the seat stands here. No condition. By an AI agent. -/
import Derived.Test.YtblpelldffaodaaGreatDoorChecked
import Derived.KernelRfl
import Derived.Test.YtblpelldffaodaaGreatDoorEvG
namespace Go.Proofs.YtblpelldffaodaaGreatDoor.replaceExamples
open Go.Ev Go.RowKit
set_option maxRecDepth 100000
noncomputable def pc (hooks : List Hook) : PC := PC.of Tryz.prog hooks [0, 0, 1, 100433627766186892221372630771322662657637687111424548055040,
  649037104889557081362243430318080, 9903369050981356288713129984, 83076115911219346704081226540253184, 2658455991560160339232401213675798528,
  81129638339044206266195348799488, 4722366478471464468480, 5192296856116971377333735985643520, 345726874407077440671559395241325504724992, 32640, 56, 56,
  1125882726969344, 2, 4294965248, 2251799813685216, 18446744055992811456, 16776112, 2097120, 1152921465952108288, 1044160, 140702052769792, 843256564531200,
  1069514496, 1645454340507299563227537572269046104477628336054785784338710528, 548681513920, 576425567914557184, 1048032, 8388480, 1180429491096466225152,
  133954432, 19304960393868906030039040, 3541774857960345829344, 281466919713792, 245608, 9006924368904064, 174203158810675334242229616264526442663936,
  316912649778194457599103983616, 16376, 16911371136, 72057576826568704, 2089952, 44601469087712677253335177658037062435004416, 131064,
  2475880057962288638718898176, 36346077971019834540092616139997184, 524272, 8160, 8160, 68484593152, 32, 8176, 24, 24, 37778931860689418977248,
  2304717040586850048, 562949945028448, 268418496, 134217152, 4292869056, 1099511627264, 69805789929205760, 1180591618518388029440, 33549824,
  170141183460466738322183768001071808256, 314127133852361332105981976576, 285978026578016256, 4190176, 1033017105177713299456, 16924813900647812124508160,
  4363686506496, 68169687301632, 56, 32736, 70368735784800, 536862464, 87111610932532326191870328324693962981376, 504, 2040, 16715712, 68215103488, 56, 496,
  8357760, 32752, 4064, 68585257984, 35181972946432, 224, 224, 224, 248, 1097112485760, 18444616518575357440, 680564731306575584541041368011082825728, 0, 0,
  224, 16320, 24, 32, 232, 480, 240, 4293885824, 19804773892652162921009249280, 9007199254678528, 166153459859030865794750901055897600, 8972014882635776, 65408,
  2787555926164070202653594394284831901941760, 1688849356943232, 2147417984, 504, 503314416, 67092448, 4722364231069814742528, 126944, 33554368,
  42452218798465682763143301720761171968, 43556141302722535823874969358092048728064, 1298073905148697081283938550218624, 2251791223488448, 504, 16777184,
  270565506816, 50312960, 88, 2164659306496, 2016, 67092448, 130944, 24, 523744, 36893487597654834688, 281474972483328, 8555330560, 1047520,
  713275394550715778319802418023468735560876032, 1016, 24, 504, 134152096, 232, 268434928, 70368744177632, 10633823956375806599519922393146441728, 1073741568,
  288226220769015808, 166153499473112122929719053475774464, 480, 480, 992, 24, 0, 41497810046653206748914664780986368, 8128, 65216, 16352, 4397509111552, 480,
  1073726400, 496, 2040, 1776, 766247770410641131852506072760587465336250576880533504, 68215103488, 16352, 1048032, 2305825412699119296, 457792, 480, 496,
  457792, 262112, 1016, 140454020513776, 4024434432, 19806963883193208739010043904, 104, 61408, 137436855808, 536868608, 2147475296, 33226624,
  72057559678124032, 549613198720, 374144396855965948448390537225033987085080318689280, 288194914751872512, 2032, 1048032, 24, 6228864,
  10384593407414639918073416691740640, 6228864, 1044424, 8796088811008, 2032, 21778061098346189844478291628122334298112, 248, 134152096,
  356811880641193946689691826088336933575983104, 1046448, 34225249792, 332306998926885859675981592947179520,
  411374570054680591658929423644949621728584870917390821183922176, 32696, 6473907284443136, 67042752, 2266699018289282147153920, 140736414328832, 16320,
  1160955926341941713408, 4294831872, 1073741696, 8589934080, 8589934080, 88, 70360154226688, 1073602816, 4194302, 504, 504, 103582791362410496,
  562948879675136, 72057592963659776, 36893479342736111616, 123286018324422656, 4294958848, 10888952654262176519432384150372830132224, 131040,
  19342794090620444689299456, 374144419134252505651064520051920053992477580849152, 524008, 33537768, 9007182074854400, 1152921496014807040,
  147573917370944446464, 7890306461253730304, 17179835392, 2787571881499075797774052896007796375347200, 1237938821800130672580354048,
  383123885193474569774374055887950278561850630313328640, 2721885089993692897886287760060074426112, 14680032, 126705728486336, 469753344,
  4834731866575980440252348806718015143018496, 216, 72053187400956672, 16376, 8112, 12259870789395030440228488004109284777391066748083437568,
  580208817104550915239573504, 20768870521484528784410547372679168, 196032, 1016, 536543040, 144115179485392896, 61408, 16637888, 37778931860723777658880,
  137403301872, 150525431606284996046848, 8657507872256, 32480, 148754255977818640873472, 17171475456, 928, 4835703260440209768046592, 75557859222245976505344,
  120, 8589934584, 32640, 68719474688, 56, 4835702990227041035218944, 261632, 2199023247360, 33519488, 365375060883540459063844667536955577142257577984,
  2269814203604724736, 1031904, 1150669636073152512, 288195190705610688, 1073733568, 151115583319048317820928, 81050409949858656593936698564608, 34909426544640,
  70329821036288, 9903520314280772257437384704, 1125899772624320, 2096608, 7904, 176, 962064154560, 34090744768, 8556375552, 33029888, 281432027021312, 1984,
  8064, 103048806384, 34342829312, 4186048, 258016, 260013824, 274877644160, 1504, 2080760, 268172288, 4290768896, 68702666624,
  10141204801751904050119819911168, 104, 4722347903322024832000, 17591917082624, 51422017410301355274872155165413194309067811145192765495443456, 503316224,
  309480268935778987367332992, 2301339375224487680, 647769379326483302334111015759872, 151114573967371938021376, 8795958738880, 16711424, 32192, 8384256,
  20282409471425404962397755244544, 17163084480, 224, 7696579557248, 224, 248, 4835698666772496123814912, 9903510869541069260647755776,
  152324644048071239156072192, 4193760, 1099511627456, 154742504334071009942429696, 240, 240, 240, 5316911983062292239087693642380342784, 4611681620380614144,
  262112, 10448029773009037967681152029858612457160704, 224, 182686308445276092278898780960839177993124249600, 224, 524224,
  42524890909723710779775849120990470144, 16376, 9007190629408768, 261632, 444288, 444288, 1048064, 126944, 1152921504069711872, 34355535360, 28656, 16776960,
  132120064, 9007199246348224, 5708293191971570450937418700964802667997028352, 75484075619319383321600, 224, 0, 56, 2266735911759287759665152, 523264,
  4294961792, 524220, 1073740800, 224, 31457136, 248, 56, 9223372036821213184, 549755748320, 0, 548648513024, 32744, 32752,
  184149205606795480238948490449146349755637850570752, 5050176389969560855884357697536, 0, 130944, 2251799813668864, 1073741792, 56, 0, 248, 248, 0, 16360,
  16360, 0, 0, 0, 0, 0, 0, 0, 0, 0, 0, 0, 0, 0, 0, 0, 0, 0, 0, 0, 0, 0, 0, 0, 0, 7] [(383, 2), (389, 1)] [(7, [7, 7, 0, 7]), (8, [7, 7, 0, 7]), (91, [7, 7]),
  (92, [7, 7]), (136, [7, 7, 7, 7, 7, 7, 7]), (141, []), (142, []), (157, [7, 7, 8, 7]), (158, [7, 7, 8, 7]), (175, [7, 7, 7]), (176, [7, 7, 7]), (215, [7, 7,
  7, 0]), (216, [7, 7, 7, 0]), (226, [7, 0]), (227, [7, 0]), (230, [7, 7]), (231, [7, 7]), (252, [7, 7, 7]), (253, [7, 7, 7]), (284, [0, 8, 8]), (285, [0, 8,
  8]), (300, [7, 7]), (301, [7, 7]), (325, []), (379, [7, 7, 0]), (380, [7, 7, 0])]
theorem pcOk (hooks : List Hook) : PcOk Tryz.prog (pc hooks) ∧ (pc hooks).hooks = hooks :=
  pcOk_of (by kernel_rfl) (by kernel_rfl) (by kernel_rfl) (by kernel_rfl) (by kernel_rfl)
theorem globals : Tryz.prog.globals.size = 4 := by kernel_rfl
/-- a hook out of its test, which looks at hooks that hold -/
theorem hook_of_test {hs : List Hook} (hh : ∀ h ∈ hs, HookOk Tryz.prog h) {h : Hook} (ht : hookB (pc hs) 300 h = true) : HookOk Tryz.prog h :=
  hookB_ok (pcOk hs).1 (by rw [(pcOk hs).2]; exact hh) ht
def tl (t : Tr B) : Tr B := .nd t .none .lf
def tr (t : Tr B) : Tr B := .nd .lf .none t
def tn (t u : Tr B) : Tr B := .nd t .none u
def k1 : K := .h
def k2 : K := .o k1
def k3 : K := .i k1
def k4 : K := .o k2
def k5 : K := .i k2
def k6 : K := .o k3
def k7 : K := .i k3
def k8 : K := .o k4
def k9 : K := .i k4
def k10 : K := .o k5
def k11 : K := .i k5
def k12 : K := .o k6
def k13 : K := .i k6
def k14 : K := .o k7
def k16 : K := .o k8
def k17 : K := .i k8
def k18 : K := .o k9
def k19 : K := .i k9
def k20 : K := .o k10
def k21 : K := .i k10
def k22 : K := .o k11
def k23 : K := .i k11
def k24 : K := .o k12
def k25 : K := .i k12
def k26 : K := .o k13
def k27 : K := .i k13
def k28 : K := .o k14
def k32 : K := .o k16
def k33 : K := .i k16
def k34 : K := .o k17
def k35 : K := .i k17
def k36 : K := .o k18
def k37 : K := .i k18
def k38 : K := .o k19
def k39 : K := .i k19
def k40 : K := .o k20
def k41 : K := .i k20
def k42 : K := .o k21
def k45 : K := .i k22
def k46 : K := .o k23
def k48 : K := .o k24
def k51 : K := .i k25
def k53 : K := .i k26
def k55 : K := .i k27
def k56 : K := .o k28
def k57 : K := .i k28
def k65 : K := .i k32
def k66 : K := .o k33
def k68 : K := .o k34
def k71 : K := .i k35
def k72 : K := .o k36
def k75 : K := .i k37
def k76 : K := .o k38
def k78 : K := .o k39
def k79 : K := .i k39
def k80 : K := .o k40
def k81 : K := .i k40
def k82 : K := .o k41
def k84 : K := .o k42
def k90 : K := .o k45
def k91 : K := .i k45
def k92 : K := .o k46
def k96 : K := .o k48
def k103 : K := .i k51
def k106 : K := .o k53
def k107 : K := .i k53
def k110 : K := .o k55
def k112 : K := .o k56
def k113 : K := .i k56
def k114 : K := .o k57
def k131 : K := .i k65
def k132 : K := .o k66
def k136 : K := .o k68
def k137 : K := .i k68
def k143 : K := .i k71
def k144 : K := .o k72
def k150 : K := .o k75
def k153 : K := .i k76
def k156 : K := .o k78
def k157 : K := .i k78
def k158 : K := .o k79
def k159 : K := .i k79
def k160 : K := .o k80
def k161 : K := .i k80
def k162 : K := .o k81
def k164 : K := .o k82
def k169 : K := .i k84
def k181 : K := .i k90
def k182 : K := .o k91
def k183 : K := .i k91
def k184 : K := .o k92
def k185 : K := .i k92
def k193 : K := .i k96
def k207 : K := .i k103
def k213 : K := .i k106
def k214 : K := .o k107
def k220 : K := .o k110
def k224 : K := .o k112
def k225 : K := .i k112
def k226 : K := .o k113
def k227 : K := .i k113
def k228 : K := .o k114
def k229 : K := .i k114
def k263 : K := .i k131
def k264 : K := .o k132
def k273 : K := .i k136
def k274 : K := .o k137
def k286 : K := .o k143
def k288 : K := .o k144
def k289 : K := .i k144
def k300 : K := .o k150
def k301 : K := .i k150
def k306 : K := .o k153
def k312 : K := .o k156
def k313 : K := .i k156
def k314 : K := .o k157
def k315 : K := .i k157
def k316 : K := .o k158
def k318 : K := .o k159
def k320 : K := .o k160
def k321 : K := .i k160
def k322 : K := .o k161
def k323 : K := .i k161
def k324 : K := .o k162
def k329 : K := .i k164
def k338 : K := .o k169
def k362 : K := .o k181
def k363 : K := .i k181
def k364 : K := .o k182
def k365 : K := .i k182
def k366 : K := .o k183
def k367 : K := .i k183
def k368 : K := .o k184
def k370 : K := .o k185
def k387 : K := .i k193
def k414 : K := .o k207
def k427 : K := .i k213
def k428 : K := .o k214
def k440 : K := .o k220
def k448 : K := .o k224
def k449 : K := .i k224
def k450 : K := .o k225
def k451 : K := .i k225
def k452 : K := .o k226
def k454 : K := .o k227
def k455 : K := .i k227
def k456 : K := .o k228
def k457 : K := .i k228
def k458 : K := .o k229
def k527 : K := .i k263
def k528 : K := .o k264
def k529 : K := .i k264
def k546 : K := .o k273
def k547 : K := .i k273
def k548 : K := .o k274
def k572 : K := .o k286
def k577 : K := .i k288
def k578 : K := .o k289
def k579 : K := .i k289
def k600 : K := .o k300
def k603 : K := .i k301
def k612 : K := .o k306
def k625 : K := .i k312
def k627 : K := .i k313
def k628 : K := .o k314
def k630 : K := .o k315
def k633 : K := .i k316
def k636 : K := .o k318
def k637 : K := .i k318
def k640 : K := .o k320
def k641 : K := .i k320
def k643 : K := .i k321
def k644 : K := .o k322
def k645 : K := .i k322
def k647 : K := .i k323
def k649 : K := .i k324
def k659 : K := .i k329
def k676 : K := .o k338
def k725 : K := .i k362
def k727 : K := .i k363
def k729 : K := .i k364
def k730 : K := .o k365
def k732 : K := .o k366
def k734 : K := .o k367
def k736 : K := .o k368
def k737 : K := .i k368
def k740 : K := .o k370
def k774 : K := .o k387
def k829 : K := .i k414
def k855 : K := .i k427
def k856 : K := .o k428
def k881 : K := .i k440
def k896 : K := .o k448
def k897 : K := .i k448
def k898 : K := .o k449
def k899 : K := .i k449
def k900 : K := .o k450
def k902 : K := .o k451
def k904 : K := .o k452
def k905 : K := .i k452
def k908 : K := .o k454
def k910 : K := .o k455
def k912 : K := .o k456
def k913 : K := .i k456
def k914 : K := .o k457
def k915 : K := .i k457
def k917 : K := .i k458
def k1055 : K := .i k527
def k1056 : K := .o k528
def k1057 : K := .i k528
def k1058 : K := .o k529
def k1093 : K := .i k546
def k1094 : K := .o k547
def k1096 : K := .o k548
def k1144 : K := .o k572
def k1145 : K := .i k572
def k1154 : K := .o k577
def k1155 : K := .i k577
def k1156 : K := .o k578
def k1157 : K := .i k578
def k1158 : K := .o k579
def k1159 : K := .i k579
def k1200 : K := .o k600
def k1207 : K := .i k603
def k1225 : K := .i k612
def k1251 : K := .i k625
def k1255 : K := .i k627
def k1256 : K := .o k628
def k1261 : K := .i k630
def k1266 : K := .o k633
def k1273 : K := .i k636
def k1274 : K := .o k637
def k1281 : K := .i k640
def k1283 : K := .i k641
def k1287 : K := .i k643
def k1288 : K := .o k644
def k1291 : K := .i k645
def k1294 : K := .o k647
def k1299 : K := .i k649
def k1318 : K := .o k659
def k1352 : K := .o k676
def k1353 : K := .i k676
def k1450 : K := .o k725
def k1454 : K := .o k727
def k1455 : K := .i k727
def k1459 : K := .i k729
def k1461 : K := .i k730
def k1465 : K := .i k732
def k1468 : K := .o k734
def k1472 : K := .o k736
def k1473 : K := .i k736
def k1474 : K := .o k737
def k1475 : K := .i k737
def k1480 : K := .o k740
def k1481 : K := .i k740
def k1549 : K := .i k774
def k1658 : K := .o k829
def k1711 : K := .i k855
def k1712 : K := .o k856
def k1762 : K := .o k881
def k1763 : K := .i k881
def k1792 : K := .o k896
def k1794 : K := .o k897
def k1796 : K := .o k898
def k1799 : K := .i k899
def k1800 : K := .o k900
def k1801 : K := .i k900
def k1804 : K := .o k902
def k1808 : K := .o k904
def k1811 : K := .i k905
def k1817 : K := .i k908
def k1821 : K := .i k910
def k1825 : K := .i k912
def k1826 : K := .o k913
def k1827 : K := .i k913
def k1828 : K := .o k914
def k1829 : K := .i k914
def k1831 : K := .i k915
def k1834 : K := .o k917
def k2111 : K := .i k1055
def k2112 : K := .o k1056
def k2114 : K := .o k1057
def k2116 : K := .o k1058
def k2117 : K := .i k1058
def k2187 : K := .i k1093
def k2188 : K := .o k1094
def k2189 : K := .i k1094
def k2192 : K := .o k1096
def k2193 : K := .i k1096
def k2289 : K := .i k1144
def k2290 : K := .o k1145
def k2309 : K := .i k1154
def k2311 : K := .i k1155
def k2312 : K := .o k1156
def k2314 : K := .o k1157
def k2315 : K := .i k1157
def k2317 : K := .i k1158
def k2318 : K := .o k1159
def k2400 : K := .o k1200
def k2414 : K := .o k1207
def k2450 : K := .o k1225
def k2451 : K := .i k1225
def k2511 : K := .i k1255
def k2512 : K := .o k1256
def k2547 : K := .i k1273
def k2548 : K := .o k1274
def k2599 : K := .i k1299
def k2637 : K := .i k1318
def k2705 : K := .i k1352
def k2706 : K := .o k1353
def k2901 : K := .i k1450
def k2909 : K := .i k1454
def k2911 : K := .i k1455
def k2919 : K := .i k1459
def k2923 : K := .i k1461
def k2931 : K := .i k1465
def k2936 : K := .o k1468
def k2945 : K := .i k1472
def k2946 : K := .o k1473
def k2947 : K := .i k1473
def k2948 : K := .o k1474
def k2950 : K := .o k1475
def k2951 : K := .i k1475
def k2961 : K := .i k1480
def k2962 : K := .o k1481
def k3098 : K := .o k1549
def k3316 : K := .o k1658
def k3423 : K := .i k1711
def k3424 : K := .o k1712
def k3525 : K := .i k1762
def k3526 : K := .o k1763
def k3585 : K := .i k1792
def k3589 : K := .i k1794
def k3592 : K := .o k1796
def k3598 : K := .o k1799
def k3601 : K := .i k1800
def k3602 : K := .o k1801
def k3609 : K := .i k1804
def k3617 : K := .i k1808
def k3622 : K := .o k1811
def k3634 : K := .o k1817
def k3642 : K := .o k1821
def k3650 : K := .o k1825
def k3652 : K := .o k1826
def k3653 : K := .i k1826
def k3654 : K := .o k1827
def k3655 : K := .i k1827
def k3657 : K := .i k1828
def k3659 : K := .i k1829
def k3662 : K := .o k1831
def k3668 : K := .o k1834
def k4222 : K := .o k2111
def k4224 : K := .o k2112
def k4225 : K := .i k2112
def k4228 : K := .o k2114
def k4232 : K := .o k2116
def k4234 : K := .o k2117
def k4235 : K := .i k2117
def k4375 : K := .i k2187
def k4376 : K := .o k2188
def k4379 : K := .i k2189
def k4385 : K := .i k2192
def k4386 : K := .o k2193
def k4387 : K := .i k2193
def k4579 : K := .i k2289
def k4580 : K := .o k2290
def k4619 : K := .i k2309
def k4623 : K := .i k2311
def k4624 : K := .o k2312
def k4628 : K := .o k2314
def k4630 : K := .o k2315
def k4634 : K := .o k2317
def k4636 : K := .o k2318
def k4637 : K := .i k2318
def k4801 : K := .i k2400
def k4828 : K := .o k2414
def k4829 : K := .i k2414
def k4901 : K := .i k2450
def k4902 : K := .o k2451
def k5023 : K := .i k2511
def k5024 : K := .o k2512
def k5095 : K := .i k2547
def k5096 : K := .o k2548
def k5199 : K := .i k2599
def k5274 : K := .o k2637
def k5411 : K := .i k2705
def k5412 : K := .o k2706
def k5802 : K := .o k2901
def k5818 : K := .o k2909
def k5823 : K := .i k2911
def k5839 : K := .i k2919
def k5847 : K := .i k2923
def k5863 : K := .i k2931
def k5872 : K := .o k2936
def k5890 : K := .o k2945
def k5892 : K := .o k2946
def k5894 : K := .o k2947
def k5897 : K := .i k2948
def k5901 : K := .i k2950
def k5902 : K := .o k2951
def k5923 : K := .i k2961
def k5924 : K := .o k2962
def k6196 : K := .o k3098
def k6197 : K := .i k3098
def k6632 : K := .o k3316
def k6633 : K := .i k3316
def k6847 : K := .i k3423
def k6848 : K := .o k3424
def k7051 : K := .i k3525
def k7052 : K := .o k3526
def k7171 : K := .i k3585
def k7179 : K := .i k3589
def k7184 : K := .o k3592
def k7197 : K := .i k3598
def k7203 : K := .i k3601
def k7205 : K := .i k3602
def k7305 : K := .i k3652
def k7306 : K := .o k3653
def k7307 : K := .i k3653
def k7309 : K := .i k3654
def k7310 : K := .o k3655
def k8444 : K := .o k4222
def k8449 : K := .i k4224
def k8451 : K := .i k4225
def k8457 : K := .i k4228
def k8464 : K := .o k4232
def k8468 : K := .o k4234
def k8469 : K := .i k4234
def k8470 : K := .o k4235
def k8751 : K := .i k4375
def k8753 : K := .i k4376
def k8758 : K := .o k4379
def k8770 : K := .o k4385
def k8773 : K := .i k4386
def k8774 : K := .o k4387
def k9159 : K := .i k4579
def k9160 : K := .o k4580
def k9238 : K := .o k4619
def k9246 : K := .o k4623
def k9249 : K := .i k4624
def k9257 : K := .i k4628
def k9261 : K := .i k4630
def k9269 : K := .i k4634
def k9272 : K := .o k4636
def k9274 : K := .o k4637
def k9275 : K := .i k4637
def k9602 : K := .o k4801
def k9603 : K := .i k4801
def k9657 : K := .i k4828
def k9658 : K := .o k4829
def k9803 : K := .i k4901
def k9804 : K := .o k4902
def k10047 : K := .i k5023
def k10048 : K := .o k5024
def k10191 : K := .i k5095
def k10192 : K := .o k5096
def k10399 : K := .i k5199
def k10549 : K := .i k5274
def k10823 : K := .i k5411
def k10824 : K := .o k5412
def k10825 : K := .i k5412
def k11847 : K := .i k5923
def k11848 : K := .o k5924
def k12393 : K := .i k6196
def k12394 : K := .o k6197
def k12395 : K := .i k6197
def k13265 : K := .i k6632
def k13266 : K := .o k6633
def k13267 : K := .i k6633
def k13694 : K := .o k6847
def k13695 : K := .i k6847
def k13696 : K := .o k6848
def k14102 : K := .o k7051
def k14103 : K := .i k7051
def k14104 : K := .o k7052
def k14611 : K := .i k7305
def k14613 : K := .i k7306
def k14615 : K := .i k7307
def k14618 : K := .o k7309
def k14621 : K := .i k7310
def k16888 : K := .o k8444
def k16898 : K := .o k8449
def k16903 : K := .i k8451
def k16915 : K := .i k8457
def k16929 : K := .i k8464
def k16936 : K := .o k8468
def k16938 : K := .o k8469
def k16941 : K := .i k8470
def k18477 : K := .i k9238
def k18493 : K := .i k9246
def k18498 : K := .o k9249
def k18514 : K := .o k9257
def k18522 : K := .o k9261
def k18538 : K := .o k9269
def k18544 : K := .o k9272
def k18548 : K := .o k9274
def k18549 : K := .i k9274
def k18550 : K := .o k9275
def k18551 : K := .i k9275
def k19315 : K := .i k9657
def k19316 : K := .o k9658
def k19317 : K := .i k9658
def k19607 : K := .i k9803
def k19608 : K := .o k9804
def k19609 : K := .i k9804
def k20382 : K := .o k10191
def k20383 : K := .i k10191
def k20384 : K := .o k10192
def k20799 : K := .i k10399
def hk0 : Hook := ⟨11, [(.ls 0 [(.nat .i64 2),(.sl k9 0 0 1 1),(.nat .i64 1),(.nat .i64 0),(.nat .i64 0),(.str []),(.nat .i64 0),(.nat .i64 0),(.nil 1),(.nat
  .i64 1),(.nat .i64 0),(.nat .i64 0),(.str []),(.nat .i64 0),(.nat .i64 0),(.nil 1)]),(.nat .i64 4)], ⟨(tn (tr (.nd .lf (.row [(.nat .i64 2)] 1 3 false 0 0 0)
  .lf)) (tl (tl (.nd .lf (.row [(.nat .i64 2),(.nat .i64 1),(.nat .i64 1),(.str []),(.nat .i64 0),(.nat .i64 0),(.nil 1),(.bool false),(.sl k6 0 0 1 1),(.nil
  1)] 10 39 false 0 0 0) .lf)))), k12⟩, (.ls 1 [(.ls 0 [(.nat .i64 1),(.nat .i64 0),(.str [48]),(.so k1261 6 0 3 0)]),(.nat .i64 0)]), ⟨(tn (tr (tl (tl (tr (tr
  (tr (tr (tl (tl (.nd .lf (.row [(.nat .i64 1),(.nat .i64 1),(.str [48]),(.nat .i64 1),(.nat .i64 2),(.nat .i64 2),(.str [48]),(.nat .i64 1),(.nat .i64
  3),(.nat .i64 3),(.str [48]),(.nat .i64 1),(.nat .i64 4),(.nat .i64 4),(.str [48]),(.nat .i64 1),(.nat .i64 0),(.nat .i64 2),(.str [48]),(.nat .i64 2)] 20 158
  true 0 0 0) .lf)))))))))) (tn (tn (tl (tl (tl (tl (tl (tr (tl (.nd .lf (.row [(.nat .i64 1),(.nat .i64 0),(.str [48]),(.nat .i64 1)] 4 158 true 0 0 0)
  .lf)))))))) (tr (tl (tr (tr (tr (tl (tl (.nd .lf (.row [(.str [48]),(.so k1251 20 0 5 0),(.str [48]),(.so k1266 20 0 5 0),(.str []),(.so k1281 4 0 1 0)] 6 163
  true 0 0 0) .lf))))))))) (tl (tl (tl (tr (tr (tr (tl (tl (.nd .lf (.row [(.nat .i64 1),(.nat .i64 1),(.str [48]),(.nat .i64 1),(.nat .i64 2),(.nat .i64
  2),(.str [48]),(.nat .i64 1),(.nat .i64 3),(.nat .i64 3),(.str [48]),(.nat .i64 1),(.nat .i64 4),(.nat .i64 4),(.str [48]),(.nat .i64 1),(.nat .i64 0),(.nat
  .i64 2),(.str [48]),(.nat .i64 2)] 20 158 true 0 0 0) .lf))))))))))), k1283⟩⟩
def hk1 : Hook := ⟨11, [(.ls 0 [(.nat .i64 3),(.sl k1291 0 0 1 1),(.nat .i64 1),(.nat .i64 0),(.nat .i64 0),(.str []),(.nat .i64 0),(.nat .i64 0),(.nil 1),(.nat
  .i64 1),(.nat .i64 0),(.nat .i64 0),(.str []),(.nat .i64 0),(.nat .i64 0),(.nil 1)]),(.nat .i64 4)], ⟨(tn (tn (tl (tr (tl (tl (tl (tl (tr (tl (.nd .lf (.row
  [(.nat .i64 4)] 1 3 false 0 0 0) .lf))))))))) (tl (tl (tr (tr (tr (tr (tl (tl (.nd .lf (.row [(.nat .i64 1),(.nat .i64 1),(.str [48]),(.nat .i64 1),(.nat .i64
  2),(.nat .i64 2),(.str [48]),(.nat .i64 1),(.nat .i64 3),(.nat .i64 3),(.str [48]),(.nat .i64 1),(.nat .i64 4),(.nat .i64 4),(.str [48]),(.nat .i64 1),(.nat
  .i64 0),(.nat .i64 2),(.str [48]),(.nat .i64 2)] 20 158 true 0 0 0) .lf)))))))))) (tn (tn (tl (tl (tl (tl (tl (tr (tl (.nd .lf (.row [(.nat .i64 1),(.nat .i64
  0),(.str [48]),(.nat .i64 1)] 4 158 true 0 0 0) .lf)))))))) (tr (tl (tr (tr (tr (tl (tl (.nd .lf (.row [(.str [48]),(.so k1251 20 0 5 0),(.str [48]),(.so
  k1266 20 0 5 0),(.str []),(.so k1281 4 0 1 0)] 6 163 true 0 0 0) .lf))))))))) (tn (tn (tl (tn (tl (tl (tr (tl (.nd .lf (.row [(.nat .i64 1),(.nat .i64
  0),(.str [48]),(.so k1261 6 0 3 0)] 4 24 false 0 0 0) .lf))))) (tr (tr (tl (tl (.nd .lf (.row [(.nat .i64 1),(.nat .i64 1),(.str [48]),(.nat .i64 1),(.nat
  .i64 2),(.nat .i64 2),(.str [48]),(.nat .i64 1),(.nat .i64 3),(.nat .i64 3),(.str [48]),(.nat .i64 1),(.nat .i64 4),(.nat .i64 4),(.str [48]),(.nat .i64
  1),(.nat .i64 0),(.nat .i64 2),(.str [48]),(.nat .i64 2)] 20 158 true 0 0 0) .lf))))))) (tl (tl (tl (tl (tr (tl (.nd .lf (.row [(.nat .i64 8),(.nat .i64
  0),(.nat .i64 0),(.str []),(.nat .i64 0),(.nat .i64 0),(.sl k1287 0 0 1 1),(.bool false),(.sl k1288 0 0 1 1),(.nil 1)] 10 39 false 0 0 0) .lf)))))))) (tl (tl
  (tl (tl (tl (tr (tl (.nd .lf (.row [(.nat .i64 2),(.nat .i64 1),(.nat .i64 1),(.str []),(.nat .i64 0),(.nat .i64 0),(.nil 1)] 7 31 false 0 0 0)
  .lf))))))))))), k1294⟩, (.ls 1 [(.ls 0 [(.nat .i64 1),(.nat .i64 0),(.str [48]),(.so k3617 10 0 5 0)]),(.nat .i64 0)]), ⟨(tn (tr (tn (tn (tn (tl (tr (tl (tl
  (tr (tr (.nd .lf (.row [(.nat .i64 2),(.nat .i64 2),(.str [48]),(.nat .i64 1),(.nat .i64 3),(.nat .i64 3),(.str [48]),(.nat .i64 1),(.nat .i64 4),(.nat .i64
  4),(.str [48]),(.nat .i64 1)] 12 158 true 0 0 0) .lf))))))) (tr (tn (tl (tl (tr (tr (.nd .lf (.row [(.nat .i64 1),(.nat .i64 0),(.str [48]),(.nat .i64
  3),(.nat .i64 1),(.nat .i64 0),(.str [48]),(.nat .i64 4)] 8 158 true 0 0 0) .lf))))) (tr (tl (tl (.nd .lf (.row [(.nat .i64 1),(.nat .i64 1),(.str [48]),(.nat
  .i64 1),(.nat .i64 2),(.nat .i64 2),(.str [48]),(.nat .i64 1),(.nat .i64 3),(.nat .i64 3),(.str [48]),(.nat .i64 1),(.nat .i64 4),(.nat .i64 4),(.str
  [48]),(.nat .i64 1),(.nat .i64 0),(.nat .i64 2),(.str [48]),(.nat .i64 2)] 20 158 true 0 0 0) .lf))))))) (tr (tr (tl (tl (tl (tr (tr (.nd .lf (.row [(.nat
  .i64 1),(.nat .i64 0),(.str [48]),(.nat .i64 3),(.nat .i64 1),(.nat .i64 0),(.str [48]),(.nat .i64 4)] 8 158 true 0 0 0) .lf))))))))) (tl (tl (tr (tl (tl (tl
  (tr (tr (.nd .lf (.row [(.nat .i64 2),(.nat .i64 2),(.str [48]),(.nat .i64 1),(.nat .i64 3),(.nat .i64 3),(.str [48]),(.nat .i64 1),(.nat .i64 4),(.nat .i64
  4),(.str [48]),(.nat .i64 1),(.nat .i64 0),(.nat .i64 4),(.str [48]),(.nat .i64 2)] 16 158 true 0 0 0) .lf))))))))))) (tn (tn (tn (tl (tn (tl (tl (tr (tl (.nd
  .lf (.row [(.nat .i64 1),(.nat .i64 0),(.str [48]),(.nat .i64 1)] 4 158 true 0 0 0) .lf))))) (tl (tl (tl (tr (tr (.nd .lf (.row [(.str [48]),(.so k3609 16 0 4
  0),(.str [48]),(.so k3622 16 0 4 0),(.str []),(.so k3634 8 0 2 0),(.str []),(.so k3642 8 0 2 0),(.str [48]),(.so k3650 12 0 3 0)] 10 163 true 0 0 0)
  .lf)))))))) (tr (tl (tl (tl (tl (tr (tr (.nd .lf (.row [(.nat .i64 2),(.nat .i64 2),(.str [48]),(.nat .i64 1),(.nat .i64 3),(.nat .i64 3),(.str [48]),(.nat
  .i64 1),(.nat .i64 4),(.nat .i64 4),(.str [48]),(.nat .i64 1),(.nat .i64 0),(.nat .i64 4),(.str [48]),(.nat .i64 2)] 16 158 true 0 0 0) .lf))))))))) (tr (tl
  (tr (tr (tr (tl (tl (.nd .lf (.row [(.str [48]),(.so k1251 20 0 5 0),(.str [48]),(.so k1266 20 0 5 0),(.str []),(.so k1281 4 0 1 0)] 6 163 true 0 0 0)
  .lf))))))))) (tl (tl (tl (tn (tl (tl (tr (tl (.nd .lf (.row [(.nat .i64 1),(.nat .i64 0),(.str [48]),(.so k1261 6 0 3 0)] 4 24 false 0 0 0) .lf))))) (tr (tr
  (tl (tl (.nd .lf (.row [(.nat .i64 1),(.nat .i64 1),(.str [48]),(.nat .i64 1),(.nat .i64 2),(.nat .i64 2),(.str [48]),(.nat .i64 1),(.nat .i64 3),(.nat .i64
  3),(.str [48]),(.nat .i64 1),(.nat .i64 4),(.nat .i64 4),(.str [48]),(.nat .i64 1),(.nat .i64 0),(.nat .i64 2),(.str [48]),(.nat .i64 2)] 20 158 true 0 0 0)
  .lf))))))))))), k3657⟩⟩
def hk2 : Hook := ⟨11, [(.ls 0 [(.nat .i64 1),(.sl k3662 0 0 1 1),(.nat .i64 2),(.nat .i64 2),(.nat .i64 2),(.str []),(.nat .i64 0),(.nat .i64 0),(.nil 1),(.nat
  .i64 2),(.nat .i64 3),(.nat .i64 3),(.str []),(.nat .i64 0),(.nat .i64 0),(.nil 1)]),(.nat .i64 4)], ⟨(tn (tr (tn (tn (tn (tl (tr (tl (tl (tr (tr (.nd .lf
  (.row [(.nat .i64 2),(.nat .i64 2),(.str [48]),(.nat .i64 1),(.nat .i64 3),(.nat .i64 3),(.str [48]),(.nat .i64 1),(.nat .i64 4),(.nat .i64 4),(.str
  [48]),(.nat .i64 1)] 12 158 true 0 0 0) .lf))))))) (tr (tn (tl (tl (tr (tr (.nd .lf (.row [(.nat .i64 1),(.nat .i64 0),(.str [48]),(.nat .i64 3),(.nat .i64
  1),(.nat .i64 0),(.str [48]),(.nat .i64 4)] 8 158 true 0 0 0) .lf))))) (tr (tl (tl (.nd .lf (.row [(.nat .i64 1),(.nat .i64 1),(.str [48]),(.nat .i64 1),(.nat
  .i64 2),(.nat .i64 2),(.str [48]),(.nat .i64 1),(.nat .i64 3),(.nat .i64 3),(.str [48]),(.nat .i64 1),(.nat .i64 4),(.nat .i64 4),(.str [48]),(.nat .i64
  1),(.nat .i64 0),(.nat .i64 2),(.str [48]),(.nat .i64 2)] 20 158 true 0 0 0) .lf))))))) (tr (tr (tl (tl (tl (tr (tr (.nd .lf (.row [(.nat .i64 1),(.nat .i64
  0),(.str [48]),(.nat .i64 3),(.nat .i64 1),(.nat .i64 0),(.str [48]),(.nat .i64 4)] 8 158 true 0 0 0) .lf))))))))) (tn (tl (tr (tl (tl (tl (tr (tr (.nd .lf
  (.row [(.nat .i64 2),(.nat .i64 2),(.str [48]),(.nat .i64 1),(.nat .i64 3),(.nat .i64 3),(.str [48]),(.nat .i64 1),(.nat .i64 4),(.nat .i64 4),(.str
  [48]),(.nat .i64 1),(.nat .i64 0),(.nat .i64 4),(.str [48]),(.nat .i64 2)] 16 158 true 0 0 0) .lf)))))))) (tl (tl (tr (tl (tl (tr (tr (.nd .lf (.row [(.nat
  .i64 2),(.nat .i64 1),(.nat .i64 1),(.str []),(.nat .i64 0),(.nat .i64 0),(.nil 1),(.bool false),(.sl k3659 0 0 1 1),(.nil 1)] 10 39 false 0 0 0)
  .lf))))))))))) (tn (tn (tn (tl (tn (tl (tl (tr (tl (.nd .lf (.row [(.nat .i64 1),(.nat .i64 0),(.str [48]),(.nat .i64 1)] 4 158 true 0 0 0) .lf))))) (tl (tl
  (tl (tr (tr (.nd .lf (.row [(.str [48]),(.so k3609 16 0 4 0),(.str [48]),(.so k3622 16 0 4 0),(.str []),(.so k3634 8 0 2 0),(.str []),(.so k3642 8 0 2
  0),(.str [48]),(.so k3650 12 0 3 0)] 10 163 true 0 0 0) .lf)))))))) (tn (tl (tr (tl (tl (tr (tr (.nd .lf (.row [(.nat .i64 1),(.nat .i64 0),(.str [48]),(.so
  k3617 10 0 5 0)] 4 24 false 0 0 0) .lf))))))) (tl (tl (tl (tl (tr (tr (.nd .lf (.row [(.nat .i64 2),(.nat .i64 2),(.str [48]),(.nat .i64 1),(.nat .i64
  3),(.nat .i64 3),(.str [48]),(.nat .i64 1),(.nat .i64 4),(.nat .i64 4),(.str [48]),(.nat .i64 1),(.nat .i64 0),(.nat .i64 4),(.str [48]),(.nat .i64 2)] 16 158
  true 0 0 0) .lf))))))))) (tr (tl (tr (tr (tr (tl (tl (.nd .lf (.row [(.str [48]),(.so k1251 20 0 5 0),(.str [48]),(.so k1266 20 0 5 0),(.str []),(.so k1281 4
  0 1 0)] 6 163 true 0 0 0) .lf))))))))) (tl (tn (tl (tn (tl (tl (tr (tl (.nd .lf (.row [(.nat .i64 1),(.nat .i64 0),(.str [48]),(.so k1261 6 0 3 0)] 4 24 false
  0 0 0) .lf))))) (tr (tr (tl (tl (.nd .lf (.row [(.nat .i64 1),(.nat .i64 1),(.str [48]),(.nat .i64 1),(.nat .i64 2),(.nat .i64 2),(.str [48]),(.nat .i64
  1),(.nat .i64 3),(.nat .i64 3),(.str [48]),(.nat .i64 1),(.nat .i64 4),(.nat .i64 4),(.str [48]),(.nat .i64 1),(.nat .i64 0),(.nat .i64 2),(.str [48]),(.nat
  .i64 2)] 20 158 true 0 0 0) .lf))))))) (tl (tl (tr (tl (tl (tr (tr (.nd .lf (.row [(.nat .i64 4)] 1 3 false 0 0 0) .lf)))))))))))), k3668⟩, (.ls 1 [(.ls 0
  [(.nat .i64 1),(.nat .i64 0),(.str [48]),(.so k5818 14 0 7 0)]),(.nat .i64 0)]), ⟨(tn (tn (tl (tl (tr (tr (tr (tr (tl (tr (tr (tl (.nd .lf (.row [(.nat .i64
  1),(.nat .i64 1),(.str [48]),(.nat .i64 1),(.nat .i64 1),(.nat .i64 1),(.str [48]),(.nat .i64 2),(.nat .i64 2),(.nat .i64 2),(.str [48]),(.nat .i64 3),(.nat
  .i64 2),(.nat .i64 2),(.str [48]),(.nat .i64 4),(.nat .i64 4),(.nat .i64 4),(.str [48]),(.nat .i64 1),(.nat .i64 4),(.nat .i64 4),(.str [48]),(.nat .i64 2)]
  24 158 true 0 0 0) .lf))))))))))) (tn (tn (tn (tl (tn (tl (tr (tr (tr (tl (.nd .lf (.row [(.nat .i64 1),(.nat .i64 0),(.str [48]),(.nat .i64 2)] 4 158 true 0
  0 0) .lf)))))) (tl (tl (tr (tr (.nd .lf (.row [(.nat .i64 2),(.nat .i64 2),(.str [48]),(.nat .i64 1),(.nat .i64 3),(.nat .i64 3),(.str [48]),(.nat .i64
  1),(.nat .i64 4),(.nat .i64 4),(.str [48]),(.nat .i64 1)] 12 158 true 0 0 0) .lf))))))) (tr (tn (tl (tl (tr (tr (.nd .lf (.row [(.nat .i64 1),(.nat .i64
  0),(.str [48]),(.nat .i64 3),(.nat .i64 1),(.nat .i64 0),(.str [48]),(.nat .i64 4)] 8 158 true 0 0 0) .lf))))) (tr (tl (tl (.nd .lf (.row [(.nat .i64 1),(.nat
  .i64 1),(.str [48]),(.nat .i64 1),(.nat .i64 2),(.nat .i64 2),(.str [48]),(.nat .i64 1),(.nat .i64 3),(.nat .i64 3),(.str [48]),(.nat .i64 1),(.nat .i64
  4),(.nat .i64 4),(.str [48]),(.nat .i64 1),(.nat .i64 0),(.nat .i64 2),(.str [48]),(.nat .i64 2)] 20 158 true 0 0 0) .lf))))))) (tn (tr (tl (tr (tl (tr (tr
  (tl (.nd .lf (.row [(.nat .i64 1),(.nat .i64 1),(.str [48]),(.nat .i64 1),(.nat .i64 1),(.nat .i64 1),(.str [48]),(.nat .i64 2),(.nat .i64 2),(.nat .i64
  2),(.str [48]),(.nat .i64 3),(.nat .i64 2),(.nat .i64 2),(.str [48]),(.nat .i64 4),(.nat .i64 4),(.nat .i64 4),(.str [48]),(.nat .i64 1),(.nat .i64 4),(.nat
  .i64 4),(.str [48]),(.nat .i64 2),(.nat .i64 3),(.nat .i64 3),(.str [48]),(.nat .i64 1),(.nat .i64 3),(.nat .i64 3),(.str [48]),(.nat .i64 2)] 32 158 true 0 0
  0) .lf)))))))) (tr (tl (tn (tl (tr (tr (.nd .lf (.row [(.nat .i64 1),(.nat .i64 0),(.str [48]),(.nat .i64 3),(.nat .i64 1),(.nat .i64 0),(.str [48]),(.nat
  .i64 4)] 8 158 true 0 0 0) .lf)))) (tl (tr (tr (tl (.nd .lf (.row [(.str [48]),(.so k5802 32 0 8 0),(.str [48]),(.so k5823 24 0 6 0),(.str []),(.so k5839 8 0
  2 0),(.str [48]),(.so k5847 24 0 6 0),(.str []),(.so k5863 8 0 2 0),(.str [48]),(.so k5872 24 0 6 0),(.str []),(.so k5890 4 0 1 0)] 14 163 true 0 0 0)
  .lf)))))))))) (tl (tl (tr (tl (tl (tl (tr (tr (.nd .lf (.row [(.nat .i64 2),(.nat .i64 2),(.str [48]),(.nat .i64 1),(.nat .i64 3),(.nat .i64 3),(.str
  [48]),(.nat .i64 1),(.nat .i64 4),(.nat .i64 4),(.str [48]),(.nat .i64 1),(.nat .i64 0),(.nat .i64 4),(.str [48]),(.nat .i64 2)] 16 158 true 0 0 0)
  .lf))))))))))) (tn (tn (tn (tl (tn (tl (tl (tr (tl (.nd .lf (.row [(.nat .i64 1),(.nat .i64 0),(.str [48]),(.nat .i64 1)] 4 158 true 0 0 0) .lf))))) (tl (tl
  (tl (tr (tr (.nd .lf (.row [(.str [48]),(.so k3609 16 0 4 0),(.str [48]),(.so k3622 16 0 4 0),(.str []),(.so k3634 8 0 2 0),(.str []),(.so k3642 8 0 2
  0),(.str [48]),(.so k3650 12 0 3 0)] 10 163 true 0 0 0) .lf)))))))) (tn (tl (tr (tl (tl (tr (tr (.nd .lf (.row [(.nat .i64 1),(.nat .i64 0),(.str [48]),(.so
  k3617 10 0 5 0)] 4 24 false 0 0 0) .lf))))))) (tl (tl (tl (tl (tr (tr (.nd .lf (.row [(.nat .i64 2),(.nat .i64 2),(.str [48]),(.nat .i64 1),(.nat .i64
  3),(.nat .i64 3),(.str [48]),(.nat .i64 1),(.nat .i64 4),(.nat .i64 4),(.str [48]),(.nat .i64 1),(.nat .i64 0),(.nat .i64 4),(.str [48]),(.nat .i64 2)] 16 158
  true 0 0 0) .lf))))))))) (tr (tl (tr (tr (tr (tl (tl (.nd .lf (.row [(.str [48]),(.so k1251 20 0 5 0),(.str [48]),(.so k1266 20 0 5 0),(.str []),(.so k1281 4
  0 1 0)] 6 163 true 0 0 0) .lf))))))))) (tn (tl (tl (tn (tl (tl (tr (tl (.nd .lf (.row [(.nat .i64 1),(.nat .i64 0),(.str [48]),(.so k1261 6 0 3 0)] 4 24 false
  0 0 0) .lf))))) (tr (tr (tl (tl (.nd .lf (.row [(.nat .i64 1),(.nat .i64 1),(.str [48]),(.nat .i64 1),(.nat .i64 2),(.nat .i64 2),(.str [48]),(.nat .i64
  1),(.nat .i64 3),(.nat .i64 3),(.str [48]),(.nat .i64 1),(.nat .i64 4),(.nat .i64 4),(.str [48]),(.nat .i64 1),(.nat .i64 0),(.nat .i64 2),(.str [48]),(.nat
  .i64 2)] 20 158 true 0 0 0) .lf)))))))) (tn (tn (tr (tr (tr (tl (tr (tr (tl (.nd .lf (.row [(.nat .i64 3),(.nat .i64 3),(.str [48]),(.nat .i64 1),(.nat .i64
  3),(.nat .i64 3),(.str [48]),(.nat .i64 2)] 8 158 true 0 0 0) .lf)))))))) (tl (tr (tr (tl (tr (tr (tl (.nd .lf (.row [(.nat .i64 1),(.nat .i64 1),(.str
  [48]),(.nat .i64 5),(.nat .i64 2),(.nat .i64 2),(.str [48]),(.nat .i64 3),(.nat .i64 2),(.nat .i64 2),(.str [48]),(.nat .i64 4),(.nat .i64 4),(.nat .i64
  4),(.str [48]),(.nat .i64 1),(.nat .i64 4),(.nat .i64 4),(.str [48]),(.nat .i64 2),(.nat .i64 0),(.nat .i64 4),(.str [48]),(.nat .i64 6)] 24 158 true 0 0 0)
  .lf))))))))) (tn (tl (tr (tr (tl (tr (tr (tl (.nd .lf (.row [(.nat .i64 3),(.nat .i64 3),(.str [48]),(.nat .i64 1),(.nat .i64 3),(.nat .i64 3),(.str
  [48]),(.nat .i64 2)] 8 158 true 0 0 0) .lf)))))))) (tr (tl (tr (tl (tr (tr (tl (.nd .lf (.row [(.nat .i64 1),(.nat .i64 1),(.str [48]),(.nat .i64 1),(.nat
  .i64 1),(.nat .i64 1),(.str [48]),(.nat .i64 2),(.nat .i64 2),(.nat .i64 2),(.str [48]),(.nat .i64 3),(.nat .i64 2),(.nat .i64 2),(.str [48]),(.nat .i64
  4),(.nat .i64 4),(.nat .i64 4),(.str [48]),(.nat .i64 1),(.nat .i64 4),(.nat .i64 4),(.str [48]),(.nat .i64 2)] 24 158 true 0 0 0) .lf))))))))))))), k5892⟩⟩
def hk3 : Hook := ⟨11, [(.ls 0 [(.nat .i64 1),(.sl k5897 0 0 1 1),(.nat .i64 1),(.nat .i64 0),(.nat .i64 0),(.str []),(.nat .i64 0),(.nat .i64 0),(.nil 1),(.nat
  .i64 1),(.nat .i64 0),(.nat .i64 0),(.str []),(.nat .i64 0),(.nat .i64 0),(.nil 1)]),(.nat .i64 4)], ⟨(tn (tn (tn (tl (tr (tr (tr (tr (tl (tr (tr (tl (.nd .lf
  (.row [(.nat .i64 1),(.nat .i64 1),(.str [48]),(.nat .i64 1),(.nat .i64 1),(.nat .i64 1),(.str [48]),(.nat .i64 2),(.nat .i64 2),(.nat .i64 2),(.str
  [48]),(.nat .i64 3),(.nat .i64 2),(.nat .i64 2),(.str [48]),(.nat .i64 4),(.nat .i64 4),(.nat .i64 4),(.str [48]),(.nat .i64 1),(.nat .i64 4),(.nat .i64
  4),(.str [48]),(.nat .i64 2)] 24 158 true 0 0 0) .lf)))))))))) (tl (tl (tl (tl (tl (tr (tr (tr (tl (.nd .lf (.row [(.nat .i64 1),(.nat .i64 0),(.str
  [48]),(.so k5818 14 0 7 0)] 4 24 false 0 0 0) .lf))))))))))) (tn (tn (tn (tl (tn (tl (tr (tr (tr (tl (.nd .lf (.row [(.nat .i64 1),(.nat .i64 0),(.str
  [48]),(.nat .i64 2)] 4 158 true 0 0 0) .lf)))))) (tl (tl (tr (tr (.nd .lf (.row [(.nat .i64 2),(.nat .i64 2),(.str [48]),(.nat .i64 1),(.nat .i64 3),(.nat
  .i64 3),(.str [48]),(.nat .i64 1),(.nat .i64 4),(.nat .i64 4),(.str [48]),(.nat .i64 1)] 12 158 true 0 0 0) .lf))))))) (tr (tn (tl (tl (tr (tr (.nd .lf (.row
  [(.nat .i64 1),(.nat .i64 0),(.str [48]),(.nat .i64 3),(.nat .i64 1),(.nat .i64 0),(.str [48]),(.nat .i64 4)] 8 158 true 0 0 0) .lf))))) (tr (tl (tl (.nd .lf
  (.row [(.nat .i64 1),(.nat .i64 1),(.str [48]),(.nat .i64 1),(.nat .i64 2),(.nat .i64 2),(.str [48]),(.nat .i64 1),(.nat .i64 3),(.nat .i64 3),(.str
  [48]),(.nat .i64 1),(.nat .i64 4),(.nat .i64 4),(.str [48]),(.nat .i64 1),(.nat .i64 0),(.nat .i64 2),(.str [48]),(.nat .i64 2)] 20 158 true 0 0 0) .lf)))))))
  (tn (tr (tl (tr (tl (tr (tr (tl (.nd .lf (.row [(.nat .i64 1),(.nat .i64 1),(.str [48]),(.nat .i64 1),(.nat .i64 1),(.nat .i64 1),(.str [48]),(.nat .i64
  2),(.nat .i64 2),(.nat .i64 2),(.str [48]),(.nat .i64 3),(.nat .i64 2),(.nat .i64 2),(.str [48]),(.nat .i64 4),(.nat .i64 4),(.nat .i64 4),(.str [48]),(.nat
  .i64 1),(.nat .i64 4),(.nat .i64 4),(.str [48]),(.nat .i64 2),(.nat .i64 3),(.nat .i64 3),(.str [48]),(.nat .i64 1),(.nat .i64 3),(.nat .i64 3),(.str
  [48]),(.nat .i64 2)] 32 158 true 0 0 0) .lf)))))))) (tr (tl (tn (tl (tr (tr (.nd .lf (.row [(.nat .i64 1),(.nat .i64 0),(.str [48]),(.nat .i64 3),(.nat .i64
  1),(.nat .i64 0),(.str [48]),(.nat .i64 4)] 8 158 true 0 0 0) .lf)))) (tl (tr (tr (tl (.nd .lf (.row [(.str [48]),(.so k5802 32 0 8 0),(.str [48]),(.so k5823
  24 0 6 0),(.str []),(.so k5839 8 0 2 0),(.str [48]),(.so k5847 24 0 6 0),(.str []),(.so k5863 8 0 2 0),(.str [48]),(.so k5872 24 0 6 0),(.str []),(.so k5890 4
  0 1 0)] 14 163 true 0 0 0) .lf)))))))))) (tl (tl (tn (tl (tl (tr (tr (tr (tl (.nd .lf (.row [(.nat .i64 2)] 1 3 false 0 0 0) .lf))))))) (tl (tl (tl (tr (tr
  (.nd .lf (.row [(.nat .i64 2),(.nat .i64 2),(.str [48]),(.nat .i64 1),(.nat .i64 3),(.nat .i64 3),(.str [48]),(.nat .i64 1),(.nat .i64 4),(.nat .i64 4),(.str
  [48]),(.nat .i64 1),(.nat .i64 0),(.nat .i64 4),(.str [48]),(.nat .i64 2)] 16 158 true 0 0 0) .lf))))))))))) (tn (tn (tn (tl (tn (tl (tl (tr (tl (.nd .lf
  (.row [(.nat .i64 1),(.nat .i64 0),(.str [48]),(.nat .i64 1)] 4 158 true 0 0 0) .lf))))) (tl (tl (tl (tr (tr (.nd .lf (.row [(.str [48]),(.so k3609 16 0 4
  0),(.str [48]),(.so k3622 16 0 4 0),(.str []),(.so k3634 8 0 2 0),(.str []),(.so k3642 8 0 2 0),(.str [48]),(.so k3650 12 0 3 0)] 10 163 true 0 0 0)
  .lf)))))))) (tn (tl (tn (tl (tr (tr (tr (tl (.nd .lf (.row [(.nat .i64 2),(.nat .i64 1),(.nat .i64 1),(.str []),(.nat .i64 0),(.nat .i64 0),(.nil 1),(.bool
  true),(.sl k5894 0 0 1 1),(.sl k5901 0 0 1 1)] 10 39 false 0 0 0) .lf)))))) (tl (tl (tr (tr (.nd .lf (.row [(.nat .i64 1),(.nat .i64 0),(.str [48]),(.so k3617
  10 0 5 0)] 4 24 false 0 0 0) .lf))))))) (tl (tl (tl (tl (tr (tr (.nd .lf (.row [(.nat .i64 2),(.nat .i64 2),(.str [48]),(.nat .i64 1),(.nat .i64 3),(.nat .i64
  3),(.str [48]),(.nat .i64 1),(.nat .i64 4),(.nat .i64 4),(.str [48]),(.nat .i64 1),(.nat .i64 0),(.nat .i64 4),(.str [48]),(.nat .i64 2)] 16 158 true 0 0 0)
  .lf))))))))) (tr (tl (tn (tl (tl (tr (tr (tr (tl (.nd .lf (.row [(.nat .i64 3)] 1 3 false 0 0 0) .lf))))))) (tr (tr (tl (tl (.nd .lf (.row [(.str [48]),(.so
  k1251 20 0 5 0),(.str [48]),(.so k1266 20 0 5 0),(.str []),(.so k1281 4 0 1 0)] 6 163 true 0 0 0) .lf))))))))) (tn (tl (tl (tn (tl (tl (tr (tl (.nd .lf (.row
  [(.nat .i64 1),(.nat .i64 0),(.str [48]),(.so k1261 6 0 3 0)] 4 24 false 0 0 0) .lf))))) (tr (tr (tl (tl (.nd .lf (.row [(.nat .i64 1),(.nat .i64 1),(.str
  [48]),(.nat .i64 1),(.nat .i64 2),(.nat .i64 2),(.str [48]),(.nat .i64 1),(.nat .i64 3),(.nat .i64 3),(.str [48]),(.nat .i64 1),(.nat .i64 4),(.nat .i64
  4),(.str [48]),(.nat .i64 1),(.nat .i64 0),(.nat .i64 2),(.str [48]),(.nat .i64 2)] 20 158 true 0 0 0) .lf)))))))) (tn (tn (tr (tr (tr (tl (tr (tr (tl (.nd
  .lf (.row [(.nat .i64 3),(.nat .i64 3),(.str [48]),(.nat .i64 1),(.nat .i64 3),(.nat .i64 3),(.str [48]),(.nat .i64 2)] 8 158 true 0 0 0) .lf)))))))) (tl (tr
  (tr (tl (tr (tr (tl (.nd .lf (.row [(.nat .i64 1),(.nat .i64 1),(.str [48]),(.nat .i64 5),(.nat .i64 2),(.nat .i64 2),(.str [48]),(.nat .i64 3),(.nat .i64
  2),(.nat .i64 2),(.str [48]),(.nat .i64 4),(.nat .i64 4),(.nat .i64 4),(.str [48]),(.nat .i64 1),(.nat .i64 4),(.nat .i64 4),(.str [48]),(.nat .i64 2),(.nat
  .i64 0),(.nat .i64 4),(.str [48]),(.nat .i64 6)] 24 158 true 0 0 0) .lf))))))))) (tn (tl (tr (tr (tl (tr (tr (tl (.nd .lf (.row [(.nat .i64 3),(.nat .i64
  3),(.str [48]),(.nat .i64 1),(.nat .i64 3),(.nat .i64 3),(.str [48]),(.nat .i64 2)] 8 158 true 0 0 0) .lf)))))))) (tr (tl (tr (tl (tr (tr (tl (.nd .lf (.row
  [(.nat .i64 1),(.nat .i64 1),(.str [48]),(.nat .i64 1),(.nat .i64 1),(.nat .i64 1),(.str [48]),(.nat .i64 2),(.nat .i64 2),(.nat .i64 2),(.str [48]),(.nat
  .i64 3),(.nat .i64 2),(.nat .i64 2),(.str [48]),(.nat .i64 4),(.nat .i64 4),(.nat .i64 4),(.str [48]),(.nat .i64 1),(.nat .i64 4),(.nat .i64 4),(.str
  [48]),(.nat .i64 2)] 24 158 true 0 0 0) .lf))))))))))))), k5902⟩, (.ls 1 [(.ls 0 [(.nat .i64 1),(.nat .i64 0),(.str [48]),(.so k7179 8 0 4 0)]),(.nat .i64
  0)]), ⟨(tn (tn (tn (tl (tr (tn (tl (tl (tl (tl (tr (tr (.nd .lf (.row [(.nat .i64 2),(.nat .i64 2),(.str [48]),(.nat .i64 1),(.nat .i64 3),(.nat .i64 3),(.str
  [48]),(.nat .i64 1),(.nat .i64 4),(.nat .i64 4),(.str [48]),(.nat .i64 1),(.nat .i64 0),(.nat .i64 2),(.str [48]),(.nat .i64 2)] 16 158 true 0 0 0) .lf)))))))
  (tr (tr (tl (tr (tr (tl (.nd .lf (.row [(.nat .i64 1),(.nat .i64 1),(.str [48]),(.nat .i64 1),(.nat .i64 1),(.nat .i64 1),(.str [48]),(.nat .i64 2),(.nat .i64
  2),(.nat .i64 2),(.str [48]),(.nat .i64 3),(.nat .i64 2),(.nat .i64 2),(.str [48]),(.nat .i64 4),(.nat .i64 4),(.nat .i64 4),(.str [48]),(.nat .i64 1),(.nat
  .i64 4),(.nat .i64 4),(.str [48]),(.nat .i64 2)] 24 158 true 0 0 0) .lf)))))))))) (tl (tl (tl (tl (tl (tr (tr (tr (tl (.nd .lf (.row [(.nat .i64 1),(.nat .i64
  0),(.str [48]),(.so k5818 14 0 7 0)] 4 24 false 0 0 0) .lf))))))))))) (tn (tn (tn (tl (tn (tl (tr (tr (tr (tl (.nd .lf (.row [(.nat .i64 1),(.nat .i64
  0),(.str [48]),(.nat .i64 2)] 4 158 true 0 0 0) .lf)))))) (tl (tl (tr (tr (.nd .lf (.row [(.nat .i64 2),(.nat .i64 2),(.str [48]),(.nat .i64 1),(.nat .i64
  3),(.nat .i64 3),(.str [48]),(.nat .i64 1),(.nat .i64 4),(.nat .i64 4),(.str [48]),(.nat .i64 1)] 12 158 true 0 0 0) .lf))))))) (tr (tn (tl (tl (tr (tr (.nd
  .lf (.row [(.nat .i64 1),(.nat .i64 0),(.str [48]),(.nat .i64 3),(.nat .i64 1),(.nat .i64 0),(.str [48]),(.nat .i64 4)] 8 158 true 0 0 0) .lf))))) (tr (tl (tl
  (.nd .lf (.row [(.nat .i64 1),(.nat .i64 1),(.str [48]),(.nat .i64 1),(.nat .i64 2),(.nat .i64 2),(.str [48]),(.nat .i64 1),(.nat .i64 3),(.nat .i64 3),(.str
  [48]),(.nat .i64 1),(.nat .i64 4),(.nat .i64 4),(.str [48]),(.nat .i64 1),(.nat .i64 0),(.nat .i64 2),(.str [48]),(.nat .i64 2)] 20 158 true 0 0 0) .lf)))))))
  (tn (tr (tl (tr (tl (tr (tr (tl (.nd .lf (.row [(.nat .i64 1),(.nat .i64 1),(.str [48]),(.nat .i64 1),(.nat .i64 1),(.nat .i64 1),(.str [48]),(.nat .i64
  2),(.nat .i64 2),(.nat .i64 2),(.str [48]),(.nat .i64 3),(.nat .i64 2),(.nat .i64 2),(.str [48]),(.nat .i64 4),(.nat .i64 4),(.nat .i64 4),(.str [48]),(.nat
  .i64 1),(.nat .i64 4),(.nat .i64 4),(.str [48]),(.nat .i64 2),(.nat .i64 3),(.nat .i64 3),(.str [48]),(.nat .i64 1),(.nat .i64 3),(.nat .i64 3),(.str
  [48]),(.nat .i64 2)] 32 158 true 0 0 0) .lf)))))))) (tr (tl (tn (tl (tr (tr (.nd .lf (.row [(.nat .i64 1),(.nat .i64 0),(.str [48]),(.nat .i64 3),(.nat .i64
  1),(.nat .i64 0),(.str [48]),(.nat .i64 4)] 8 158 true 0 0 0) .lf)))) (tl (tr (tr (tl (.nd .lf (.row [(.str [48]),(.so k5802 32 0 8 0),(.str [48]),(.so k5823
  24 0 6 0),(.str []),(.so k5839 8 0 2 0),(.str [48]),(.so k5847 24 0 6 0),(.str []),(.so k5863 8 0 2 0),(.str [48]),(.so k5872 24 0 6 0),(.str []),(.so k5890 4
  0 1 0)] 14 163 true 0 0 0) .lf)))))))))) (tl (tl (tr (tl (tl (tl (tr (tr (.nd .lf (.row [(.nat .i64 2),(.nat .i64 2),(.str [48]),(.nat .i64 1),(.nat .i64
  3),(.nat .i64 3),(.str [48]),(.nat .i64 1),(.nat .i64 4),(.nat .i64 4),(.str [48]),(.nat .i64 1),(.nat .i64 0),(.nat .i64 4),(.str [48]),(.nat .i64 2)] 16 158
  true 0 0 0) .lf))))))))))) (tn (tn (tn (tl (tn (tl (tl (tr (tl (.nd .lf (.row [(.nat .i64 1),(.nat .i64 0),(.str [48]),(.nat .i64 1)] 4 158 true 0 0 0)
  .lf))))) (tl (tl (tl (tr (tr (.nd .lf (.row [(.str [48]),(.so k3609 16 0 4 0),(.str [48]),(.so k3622 16 0 4 0),(.str []),(.so k3634 8 0 2 0),(.str []),(.so
  k3642 8 0 2 0),(.str [48]),(.so k3650 12 0 3 0)] 10 163 true 0 0 0) .lf)))))))) (tn (tl (tr (tl (tl (tr (tr (.nd .lf (.row [(.nat .i64 1),(.nat .i64 0),(.str
  [48]),(.so k3617 10 0 5 0)] 4 24 false 0 0 0) .lf))))))) (tl (tl (tl (tl (tr (tr (.nd .lf (.row [(.nat .i64 2),(.nat .i64 2),(.str [48]),(.nat .i64 1),(.nat
  .i64 3),(.nat .i64 3),(.str [48]),(.nat .i64 1),(.nat .i64 4),(.nat .i64 4),(.str [48]),(.nat .i64 1),(.nat .i64 0),(.nat .i64 4),(.str [48]),(.nat .i64 2)]
  16 158 true 0 0 0) .lf))))))))) (tr (tn (tr (tr (tr (tl (tl (.nd .lf (.row [(.str [48]),(.so k1251 20 0 5 0),(.str [48]),(.so k1266 20 0 5 0),(.str []),(.so
  k1281 4 0 1 0)] 6 163 true 0 0 0) .lf)))))) (tl (tl (tl (tl (tl (tr (tr (.nd .lf (.row [(.nat .i64 1),(.nat .i64 1),(.str [48]),(.nat .i64 3)] 4 158 true 0 0
  0) .lf))))))))))) (tn (tn (tl (tn (tl (tl (tn (tl (tr (tr (.nd .lf (.row [(.nat .i64 2),(.nat .i64 2),(.str [48]),(.nat .i64 1),(.nat .i64 3),(.nat .i64
  3),(.str [48]),(.nat .i64 1),(.nat .i64 4),(.nat .i64 4),(.str [48]),(.nat .i64 1),(.nat .i64 0),(.nat .i64 2),(.str [48]),(.nat .i64 2)] 16 158 true 0 0 0)
  .lf)))) (tl (.nd .lf (.row [(.nat .i64 1),(.nat .i64 0),(.str [48]),(.so k1261 6 0 3 0)] 4 24 false 0 0 0) .lf))))) (tn (tl (tl (tl (tr (tr (.nd .lf (.row
  [(.nat .i64 0),(.nat .i64 3),(.str [48]),(.nat .i64 1)] 4 158 true 0 0 0) .lf)))))) (tr (tl (tl (.nd .lf (.row [(.nat .i64 1),(.nat .i64 1),(.str [48]),(.nat
  .i64 1),(.nat .i64 2),(.nat .i64 2),(.str [48]),(.nat .i64 1),(.nat .i64 3),(.nat .i64 3),(.str [48]),(.nat .i64 1),(.nat .i64 4),(.nat .i64 4),(.str
  [48]),(.nat .i64 1),(.nat .i64 0),(.nat .i64 2),(.str [48]),(.nat .i64 2)] 20 158 true 0 0 0) .lf))))))) (tl (tl (tl (tl (tl (tl (tr (tr (.nd .lf (.row [(.str
  [48]),(.so k7171 16 0 4 0),(.str [48]),(.so k7184 16 0 4 0),(.str []),(.so k7197 4 0 1 0),(.str []),(.so k7203 4 0 1 0)] 8 163 true 0 0 0) .lf)))))))))) (tn
  (tn (tr (tr (tr (tl (tr (tr (tl (.nd .lf (.row [(.nat .i64 3),(.nat .i64 3),(.str [48]),(.nat .i64 1),(.nat .i64 3),(.nat .i64 3),(.str [48]),(.nat .i64 2)] 8
  158 true 0 0 0) .lf)))))))) (tl (tr (tr (tl (tr (tr (tl (.nd .lf (.row [(.nat .i64 1),(.nat .i64 1),(.str [48]),(.nat .i64 5),(.nat .i64 2),(.nat .i64
  2),(.str [48]),(.nat .i64 3),(.nat .i64 2),(.nat .i64 2),(.str [48]),(.nat .i64 4),(.nat .i64 4),(.nat .i64 4),(.str [48]),(.nat .i64 1),(.nat .i64 4),(.nat
  .i64 4),(.str [48]),(.nat .i64 2),(.nat .i64 0),(.nat .i64 4),(.str [48]),(.nat .i64 6)] 24 158 true 0 0 0) .lf))))))))) (tn (tl (tr (tr (tl (tr (tr (tl (.nd
  .lf (.row [(.nat .i64 3),(.nat .i64 3),(.str [48]),(.nat .i64 1),(.nat .i64 3),(.nat .i64 3),(.str [48]),(.nat .i64 2)] 8 158 true 0 0 0) .lf)))))))) (tr (tl
  (tr (tl (tr (tr (tl (.nd .lf (.row [(.nat .i64 1),(.nat .i64 1),(.str [48]),(.nat .i64 1),(.nat .i64 1),(.nat .i64 1),(.str [48]),(.nat .i64 2),(.nat .i64
  2),(.nat .i64 2),(.str [48]),(.nat .i64 3),(.nat .i64 2),(.nat .i64 2),(.str [48]),(.nat .i64 4),(.nat .i64 4),(.nat .i64 4),(.str [48]),(.nat .i64 1),(.nat
  .i64 4),(.nat .i64 4),(.str [48]),(.nat .i64 2)] 24 158 true 0 0 0) .lf))))))))))))), k7205⟩⟩
def hk4 : Hook := ⟨17, [(.ls 0 [(.nat .i64 1),(.nat .i64 0),(.str [48]),(.so k1261 6 0 3 0)]),(.sl k8773 0 0 2 2),(.sl k8773 0 0 2 2),(.bool true)], ⟨(tn (tn
  (tn (tl (tr (tn (tl (tl (tl (tl (tr (tr (.nd .lf (.row [(.nat .i64 2),(.nat .i64 2),(.str [48]),(.nat .i64 1),(.nat .i64 3),(.nat .i64 3),(.str [48]),(.nat
  .i64 1),(.nat .i64 4),(.nat .i64 4),(.str [48]),(.nat .i64 1),(.nat .i64 0),(.nat .i64 2),(.str [48]),(.nat .i64 2)] 16 158 true 0 0 0) .lf))))))) (tr (tr (tl
  (tr (tr (tl (.nd .lf (.row [(.nat .i64 1),(.nat .i64 1),(.str [48]),(.nat .i64 1),(.nat .i64 1),(.nat .i64 1),(.str [48]),(.nat .i64 2),(.nat .i64 2),(.nat
  .i64 2),(.str [48]),(.nat .i64 3),(.nat .i64 2),(.nat .i64 2),(.str [48]),(.nat .i64 4),(.nat .i64 4),(.nat .i64 4),(.str [48]),(.nat .i64 1),(.nat .i64
  4),(.nat .i64 4),(.str [48]),(.nat .i64 2)] 24 158 true 0 0 0) .lf)))))))))) (tl (tl (tl (tn (tl (tr (tr (tr (tl (.nd .lf (.row [(.nat .i64 1),(.nat .i64
  0),(.str [48]),(.so k5818 14 0 7 0)] 4 24 false 0 0 0) .lf)))))) (tl (tl (tr (tl (tl (tl (.nd .lf (.row [(.nat .i64 1),(.nat .i64 0),(.str [48]),(.so k8753 6
  0 3 0)] 4 24 false 0 0 0) .lf)))))))))))) (tn (tn (tn (tl (tn (tl (tr (tr (tr (tl (.nd .lf (.row [(.nat .i64 1),(.nat .i64 0),(.str [48]),(.nat .i64 2)] 4 158
  true 0 0 0) .lf)))))) (tl (tl (tr (tn (tl (tl (.nd .lf (.row [(.nat .i64 5),(.nat .i64 5),(.str [48]),(.nat .i64 1)] 4 158 true 0 0 0) .lf))) (.nd .lf (.row
  [(.nat .i64 2),(.nat .i64 2),(.str [48]),(.nat .i64 1),(.nat .i64 3),(.nat .i64 3),(.str [48]),(.nat .i64 1),(.nat .i64 4),(.nat .i64 4),(.str [48]),(.nat
  .i64 1)] 12 158 true 0 0 0) .lf))))))) (tr (tn (tl (tl (tr (tr (.nd .lf (.row [(.nat .i64 1),(.nat .i64 0),(.str [48]),(.nat .i64 3),(.nat .i64 1),(.nat .i64
  0),(.str [48]),(.nat .i64 4)] 8 158 true 0 0 0) .lf))))) (tr (tl (tl (.nd .lf (.row [(.nat .i64 1),(.nat .i64 1),(.str [48]),(.nat .i64 1),(.nat .i64 2),(.nat
  .i64 2),(.str [48]),(.nat .i64 1),(.nat .i64 3),(.nat .i64 3),(.str [48]),(.nat .i64 1),(.nat .i64 4),(.nat .i64 4),(.str [48]),(.nat .i64 1),(.nat .i64
  0),(.nat .i64 2),(.str [48]),(.nat .i64 2)] 20 158 true 0 0 0) .lf))))))) (tn (tr (tl (tr (tl (tr (tr (tl (.nd .lf (.row [(.nat .i64 1),(.nat .i64 1),(.str
  [48]),(.nat .i64 1),(.nat .i64 1),(.nat .i64 1),(.str [48]),(.nat .i64 2),(.nat .i64 2),(.nat .i64 2),(.str [48]),(.nat .i64 3),(.nat .i64 2),(.nat .i64
  2),(.str [48]),(.nat .i64 4),(.nat .i64 4),(.nat .i64 4),(.str [48]),(.nat .i64 1),(.nat .i64 4),(.nat .i64 4),(.str [48]),(.nat .i64 2),(.nat .i64 3),(.nat
  .i64 3),(.str [48]),(.nat .i64 1),(.nat .i64 3),(.nat .i64 3),(.str [48]),(.nat .i64 2)] 32 158 true 0 0 0) .lf)))))))) (tr (tl (tn (tl (tr (tr (.nd .lf (.row
  [(.nat .i64 1),(.nat .i64 0),(.str [48]),(.nat .i64 3),(.nat .i64 1),(.nat .i64 0),(.str [48]),(.nat .i64 4)] 8 158 true 0 0 0) .lf)))) (tl (tr (tr (tl (.nd
  .lf (.row [(.str [48]),(.so k5802 32 0 8 0),(.str [48]),(.so k5823 24 0 6 0),(.str []),(.so k5839 8 0 2 0),(.str [48]),(.so k5847 24 0 6 0),(.str []),(.so
  k5863 8 0 2 0),(.str [48]),(.so k5872 24 0 6 0),(.str []),(.so k5890 4 0 1 0)] 14 163 true 0 0 0) .lf)))))))))) (tl (tn (tr (tl (tl (tl (tr (tr (.nd .lf (.row
  [(.nat .i64 2),(.nat .i64 2),(.str [48]),(.nat .i64 1),(.nat .i64 3),(.nat .i64 3),(.str [48]),(.nat .i64 1),(.nat .i64 4),(.nat .i64 4),(.str [48]),(.nat
  .i64 1),(.nat .i64 0),(.nat .i64 4),(.str [48]),(.nat .i64 2)] 16 158 true 0 0 0) .lf))))))) (tr (tl (tl (tl (tr (tl (tl (tl (.nd .lf (.row [(.nat .i64
  1),(.nat .i64 1),(.str [48]),(.nat .i64 2),(.nat .i64 2),(.nat .i64 2),(.str [48]),(.nat .i64 2),(.nat .i64 3),(.nat .i64 3),(.str [48]),(.nat .i64 2),(.nat
  .i64 4),(.nat .i64 4),(.str [48]),(.nat .i64 2)] 16 158 true 0 0 0) .lf))))))))))))) (tn (tn (tn (tn (tn (tl (tl (tr (tl (.nd .lf (.row [(.nat .i64 1),(.nat
  .i64 0),(.str [48]),(.nat .i64 1)] 4 158 true 0 0 0) .lf))))) (tl (tl (tl (tr (tr (.nd .lf (.row [(.str [48]),(.so k3609 16 0 4 0),(.str [48]),(.so k3622 16 0
  4 0),(.str []),(.so k3634 8 0 2 0),(.str []),(.so k3642 8 0 2 0),(.str [48]),(.so k3650 12 0 3 0)] 10 163 true 0 0 0) .lf))))))) (tr (tl (tl (tl (tr (tl (tl
  (tl (.nd .lf (.row [(.str []),(.so k8751 4 0 1 0),(.str [48]),(.so k8758 16 0 4 0),(.str []),(.so k8770 4 0 1 0)] 6 163 true 0 0 0) .lf)))))))))) (tn (tl (tr
  (tl (tl (tr (tr (.nd .lf (.row [(.nat .i64 1),(.nat .i64 0),(.str [48]),(.so k3617 10 0 5 0)] 4 24 false 0 0 0) .lf))))))) (tl (tl (tl (tl (tr (tr (.nd .lf
  (.row [(.nat .i64 2),(.nat .i64 2),(.str [48]),(.nat .i64 1),(.nat .i64 3),(.nat .i64 3),(.str [48]),(.nat .i64 1),(.nat .i64 4),(.nat .i64 4),(.str
  [48]),(.nat .i64 1),(.nat .i64 0),(.nat .i64 4),(.str [48]),(.nat .i64 2)] 16 158 true 0 0 0) .lf))))))))) (tn (tl (tn (tr (tl (tl (tr (tl (tl (tl (.nd .lf
  (.row [(.nat .i64 1),(.nat .i64 1)] 2 3 false 0 0 0) .lf)))))))) (tl (tl (tl (tl (tr (tr (.nd .lf (.row [(.nat .i64 1),(.nat .i64 0),(.str [48]),(.so k7179 8
  0 4 0)] 4 24 false 0 0 0) .lf))))))))) (tn (tr (tr (tr (tl (tl (.nd .lf (.row [(.str [48]),(.so k1251 20 0 5 0),(.str [48]),(.so k1266 20 0 5 0),(.str
  []),(.so k1281 4 0 1 0)] 6 163 true 0 0 0) .lf)))))) (tl (tl (tl (tl (tl (tr (tr (.nd .lf (.row [(.nat .i64 1),(.nat .i64 1),(.str [48]),(.nat .i64 3)] 4 158
  true 0 0 0) .lf))))))))))) (tn (tn (tl (tn (tl (tl (tn (tl (tr (tr (.nd .lf (.row [(.nat .i64 2),(.nat .i64 2),(.str [48]),(.nat .i64 1),(.nat .i64 3),(.nat
  .i64 3),(.str [48]),(.nat .i64 1),(.nat .i64 4),(.nat .i64 4),(.str [48]),(.nat .i64 1),(.nat .i64 0),(.nat .i64 2),(.str [48]),(.nat .i64 2)] 16 158 true 0 0
  0) .lf)))) (tl (.nd .lf (.row [(.nat .i64 1),(.nat .i64 0),(.str [48]),(.so k1261 6 0 3 0)] 4 24 false 0 0 0) .lf))))) (tn (tl (tl (tl (tr (tr (.nd .lf (.row
  [(.nat .i64 0),(.nat .i64 3),(.str [48]),(.nat .i64 1)] 4 158 true 0 0 0) .lf)))))) (tr (tl (tl (.nd .lf (.row [(.nat .i64 1),(.nat .i64 1),(.str [48]),(.nat
  .i64 1),(.nat .i64 2),(.nat .i64 2),(.str [48]),(.nat .i64 1),(.nat .i64 3),(.nat .i64 3),(.str [48]),(.nat .i64 1),(.nat .i64 4),(.nat .i64 4),(.str
  [48]),(.nat .i64 1),(.nat .i64 0),(.nat .i64 2),(.str [48]),(.nat .i64 2)] 20 158 true 0 0 0) .lf))))))) (tl (tl (tl (tl (tl (tl (tr (tr (.nd .lf (.row [(.str
  [48]),(.so k7171 16 0 4 0),(.str [48]),(.so k7184 16 0 4 0),(.str []),(.so k7197 4 0 1 0),(.str []),(.so k7203 4 0 1 0)] 8 163 true 0 0 0) .lf)))))))))) (tn
  (tn (tr (tr (tr (tl (tr (tr (tl (.nd .lf (.row [(.nat .i64 3),(.nat .i64 3),(.str [48]),(.nat .i64 1),(.nat .i64 3),(.nat .i64 3),(.str [48]),(.nat .i64 2)] 8
  158 true 0 0 0) .lf)))))))) (tl (tr (tr (tl (tr (tr (tl (.nd .lf (.row [(.nat .i64 1),(.nat .i64 1),(.str [48]),(.nat .i64 5),(.nat .i64 2),(.nat .i64
  2),(.str [48]),(.nat .i64 3),(.nat .i64 2),(.nat .i64 2),(.str [48]),(.nat .i64 4),(.nat .i64 4),(.nat .i64 4),(.str [48]),(.nat .i64 1),(.nat .i64 4),(.nat
  .i64 4),(.str [48]),(.nat .i64 2),(.nat .i64 0),(.nat .i64 4),(.str [48]),(.nat .i64 6)] 24 158 true 0 0 0) .lf))))))))) (tn (tn (tr (tr (tl (tr (tr (tl (.nd
  .lf (.row [(.nat .i64 3),(.nat .i64 3),(.str [48]),(.nat .i64 1),(.nat .i64 3),(.nat .i64 3),(.str [48]),(.nat .i64 2)] 8 158 true 0 0 0) .lf))))))) (tl (tl
  (tl (tr (tl (tl (tl (.nd .lf (.row [(.nat .i64 5),(.nat .i64 5),(.str [48]),(.nat .i64 1)] 4 158 true 0 0 0) .lf))))))))) (tr (tl (tr (tl (tr (tr (tl (.nd .lf
  (.row [(.nat .i64 1),(.nat .i64 1),(.str [48]),(.nat .i64 1),(.nat .i64 1),(.nat .i64 1),(.str [48]),(.nat .i64 2),(.nat .i64 2),(.nat .i64 2),(.str
  [48]),(.nat .i64 3),(.nat .i64 2),(.nat .i64 2),(.str [48]),(.nat .i64 4),(.nat .i64 4),(.nat .i64 4),(.str [48]),(.nat .i64 1),(.nat .i64 4),(.nat .i64
  4),(.str [48]),(.nat .i64 2)] 24 158 true 0 0 0) .lf))))))))))))), k8774⟩, (.bool true), ⟨(tn (tn (tn (tl (tr (tn (tl (tl (tl (tl (tr (tr (.nd .lf (.row
  [(.nat .i64 2),(.nat .i64 2),(.str [48]),(.nat .i64 1),(.nat .i64 3),(.nat .i64 3),(.str [48]),(.nat .i64 1),(.nat .i64 4),(.nat .i64 4),(.str [48]),(.nat
  .i64 1),(.nat .i64 0),(.nat .i64 2),(.str [48]),(.nat .i64 2)] 16 158 true 0 0 0) .lf))))))) (tr (tr (tl (tr (tr (tl (.nd .lf (.row [(.nat .i64 1),(.nat .i64
  1),(.str [48]),(.nat .i64 1),(.nat .i64 1),(.nat .i64 1),(.str [48]),(.nat .i64 2),(.nat .i64 2),(.nat .i64 2),(.str [48]),(.nat .i64 3),(.nat .i64 2),(.nat
  .i64 2),(.str [48]),(.nat .i64 4),(.nat .i64 4),(.nat .i64 4),(.str [48]),(.nat .i64 1),(.nat .i64 4),(.nat .i64 4),(.str [48]),(.nat .i64 2)] 24 158 true 0 0
  0) .lf)))))))))) (tl (tl (tl (tn (tl (tr (tr (tr (tl (.nd .lf (.row [(.nat .i64 1),(.nat .i64 0),(.str [48]),(.so k5818 14 0 7 0)] 4 24 false 0 0 0) .lf))))))
  (tl (tl (tr (tl (tl (tl (.nd .lf (.row [(.nat .i64 1),(.nat .i64 0),(.str [48]),(.so k8753 6 0 3 0)] 4 24 false 0 0 0) .lf)))))))))))) (tn (tn (tn (tl (tn (tl
  (tr (tr (tr (tl (.nd .lf (.row [(.nat .i64 1),(.nat .i64 0),(.str [48]),(.nat .i64 2)] 4 158 true 0 0 0) .lf)))))) (tl (tl (tr (tn (tl (tl (.nd .lf (.row
  [(.nat .i64 5),(.nat .i64 5),(.str [48]),(.nat .i64 1)] 4 158 true 0 0 0) .lf))) (.nd .lf (.row [(.nat .i64 2),(.nat .i64 2),(.str [48]),(.nat .i64 1),(.nat
  .i64 3),(.nat .i64 3),(.str [48]),(.nat .i64 1),(.nat .i64 4),(.nat .i64 4),(.str [48]),(.nat .i64 1)] 12 158 true 0 0 0) .lf))))))) (tr (tn (tl (tl (tr (tr
  (.nd .lf (.row [(.nat .i64 1),(.nat .i64 0),(.str [48]),(.nat .i64 3),(.nat .i64 1),(.nat .i64 0),(.str [48]),(.nat .i64 4)] 8 158 true 0 0 0) .lf))))) (tr
  (tl (tl (.nd .lf (.row [(.nat .i64 1),(.nat .i64 1),(.str [48]),(.nat .i64 1),(.nat .i64 2),(.nat .i64 2),(.str [48]),(.nat .i64 1),(.nat .i64 3),(.nat .i64
  3),(.str [48]),(.nat .i64 1),(.nat .i64 4),(.nat .i64 4),(.str [48]),(.nat .i64 1),(.nat .i64 0),(.nat .i64 2),(.str [48]),(.nat .i64 2)] 20 158 true 0 0 0)
  .lf))))))) (tn (tr (tl (tr (tl (tr (tr (tl (.nd .lf (.row [(.nat .i64 1),(.nat .i64 1),(.str [48]),(.nat .i64 1),(.nat .i64 1),(.nat .i64 1),(.str [48]),(.nat
  .i64 2),(.nat .i64 2),(.nat .i64 2),(.str [48]),(.nat .i64 3),(.nat .i64 2),(.nat .i64 2),(.str [48]),(.nat .i64 4),(.nat .i64 4),(.nat .i64 4),(.str
  [48]),(.nat .i64 1),(.nat .i64 4),(.nat .i64 4),(.str [48]),(.nat .i64 2),(.nat .i64 3),(.nat .i64 3),(.str [48]),(.nat .i64 1),(.nat .i64 3),(.nat .i64
  3),(.str [48]),(.nat .i64 2)] 32 158 true 0 0 0) .lf)))))))) (tr (tl (tn (tl (tr (tr (.nd .lf (.row [(.nat .i64 1),(.nat .i64 0),(.str [48]),(.nat .i64
  3),(.nat .i64 1),(.nat .i64 0),(.str [48]),(.nat .i64 4)] 8 158 true 0 0 0) .lf)))) (tl (tr (tr (tl (.nd .lf (.row [(.str [48]),(.so k5802 32 0 8 0),(.str
  [48]),(.so k5823 24 0 6 0),(.str []),(.so k5839 8 0 2 0),(.str [48]),(.so k5847 24 0 6 0),(.str []),(.so k5863 8 0 2 0),(.str [48]),(.so k5872 24 0 6 0),(.str
  []),(.so k5890 4 0 1 0)] 14 163 true 0 0 0) .lf)))))))))) (tl (tn (tr (tl (tl (tl (tr (tr (.nd .lf (.row [(.nat .i64 2),(.nat .i64 2),(.str [48]),(.nat .i64
  1),(.nat .i64 3),(.nat .i64 3),(.str [48]),(.nat .i64 1),(.nat .i64 4),(.nat .i64 4),(.str [48]),(.nat .i64 1),(.nat .i64 0),(.nat .i64 4),(.str [48]),(.nat
  .i64 2)] 16 158 true 0 0 0) .lf))))))) (tr (tl (tl (tl (tr (tl (tl (tl (.nd .lf (.row [(.nat .i64 1),(.nat .i64 1),(.str [48]),(.nat .i64 2),(.nat .i64
  2),(.nat .i64 2),(.str [48]),(.nat .i64 2),(.nat .i64 3),(.nat .i64 3),(.str [48]),(.nat .i64 2),(.nat .i64 4),(.nat .i64 4),(.str [48]),(.nat .i64 2)] 16 158
  true 0 0 0) .lf))))))))))))) (tn (tn (tn (tn (tn (tl (tl (tr (tl (.nd .lf (.row [(.nat .i64 1),(.nat .i64 0),(.str [48]),(.nat .i64 1)] 4 158 true 0 0 0)
  .lf))))) (tl (tl (tl (tr (tr (.nd .lf (.row [(.str [48]),(.so k3609 16 0 4 0),(.str [48]),(.so k3622 16 0 4 0),(.str []),(.so k3634 8 0 2 0),(.str []),(.so
  k3642 8 0 2 0),(.str [48]),(.so k3650 12 0 3 0)] 10 163 true 0 0 0) .lf))))))) (tr (tl (tl (tl (tr (tl (tl (tl (.nd .lf (.row [(.str []),(.so k8751 4 0 1
  0),(.str [48]),(.so k8758 16 0 4 0),(.str []),(.so k8770 4 0 1 0)] 6 163 true 0 0 0) .lf)))))))))) (tn (tl (tr (tl (tl (tr (tr (.nd .lf (.row [(.nat .i64
  1),(.nat .i64 0),(.str [48]),(.so k3617 10 0 5 0)] 4 24 false 0 0 0) .lf))))))) (tl (tl (tl (tl (tr (tr (.nd .lf (.row [(.nat .i64 2),(.nat .i64 2),(.str
  [48]),(.nat .i64 1),(.nat .i64 3),(.nat .i64 3),(.str [48]),(.nat .i64 1),(.nat .i64 4),(.nat .i64 4),(.str [48]),(.nat .i64 1),(.nat .i64 0),(.nat .i64
  4),(.str [48]),(.nat .i64 2)] 16 158 true 0 0 0) .lf))))))))) (tn (tl (tn (tr (tl (tl (tr (tl (tl (tl (.nd .lf (.row [(.nat .i64 1),(.nat .i64 1)] 2 3 false 0
  0 0) .lf)))))))) (tl (tl (tl (tl (tr (tr (.nd .lf (.row [(.nat .i64 1),(.nat .i64 0),(.str [48]),(.so k7179 8 0 4 0)] 4 24 false 0 0 0) .lf))))))))) (tn (tr
  (tr (tr (tl (tl (.nd .lf (.row [(.str [48]),(.so k1251 20 0 5 0),(.str [48]),(.so k1266 20 0 5 0),(.str []),(.so k1281 4 0 1 0)] 6 163 true 0 0 0) .lf))))))
  (tl (tl (tl (tl (tl (tr (tr (.nd .lf (.row [(.nat .i64 1),(.nat .i64 1),(.str [48]),(.nat .i64 3)] 4 158 true 0 0 0) .lf))))))))))) (tn (tn (tl (tn (tl (tl
  (tn (tl (tr (tr (.nd .lf (.row [(.nat .i64 2),(.nat .i64 2),(.str [48]),(.nat .i64 1),(.nat .i64 3),(.nat .i64 3),(.str [48]),(.nat .i64 1),(.nat .i64
  4),(.nat .i64 4),(.str [48]),(.nat .i64 1),(.nat .i64 0),(.nat .i64 2),(.str [48]),(.nat .i64 2)] 16 158 true 0 0 0) .lf)))) (tl (.nd .lf (.row [(.nat .i64
  1),(.nat .i64 0),(.str [48]),(.so k1261 6 0 3 0)] 4 24 false 0 0 0) .lf))))) (tn (tl (tl (tl (tr (tr (.nd .lf (.row [(.nat .i64 0),(.nat .i64 3),(.str
  [48]),(.nat .i64 1)] 4 158 true 0 0 0) .lf)))))) (tr (tl (tl (.nd .lf (.row [(.nat .i64 1),(.nat .i64 1),(.str [48]),(.nat .i64 1),(.nat .i64 2),(.nat .i64
  2),(.str [48]),(.nat .i64 1),(.nat .i64 3),(.nat .i64 3),(.str [48]),(.nat .i64 1),(.nat .i64 4),(.nat .i64 4),(.str [48]),(.nat .i64 1),(.nat .i64 0),(.nat
  .i64 2),(.str [48]),(.nat .i64 2)] 20 158 true 0 0 0) .lf))))))) (tl (tl (tl (tl (tl (tl (tr (tr (.nd .lf (.row [(.str [48]),(.so k7171 16 0 4 0),(.str
  [48]),(.so k7184 16 0 4 0),(.str []),(.so k7197 4 0 1 0),(.str []),(.so k7203 4 0 1 0)] 8 163 true 0 0 0) .lf)))))))))) (tn (tn (tr (tr (tr (tl (tr (tr (tl
  (.nd .lf (.row [(.nat .i64 3),(.nat .i64 3),(.str [48]),(.nat .i64 1),(.nat .i64 3),(.nat .i64 3),(.str [48]),(.nat .i64 2)] 8 158 true 0 0 0) .lf)))))))) (tl
  (tr (tr (tl (tr (tr (tl (.nd .lf (.row [(.nat .i64 1),(.nat .i64 1),(.str [48]),(.nat .i64 5),(.nat .i64 2),(.nat .i64 2),(.str [48]),(.nat .i64 3),(.nat .i64
  2),(.nat .i64 2),(.str [48]),(.nat .i64 4),(.nat .i64 4),(.nat .i64 4),(.str [48]),(.nat .i64 1),(.nat .i64 4),(.nat .i64 4),(.str [48]),(.nat .i64 2),(.nat
  .i64 0),(.nat .i64 4),(.str [48]),(.nat .i64 6)] 24 158 true 0 0 0) .lf))))))))) (tn (tn (tr (tr (tl (tr (tr (tl (.nd .lf (.row [(.nat .i64 3),(.nat .i64
  3),(.str [48]),(.nat .i64 1),(.nat .i64 3),(.nat .i64 3),(.str [48]),(.nat .i64 2)] 8 158 true 0 0 0) .lf))))))) (tl (tl (tl (tr (tl (tl (tl (.nd .lf (.row
  [(.nat .i64 5),(.nat .i64 5),(.str [48]),(.nat .i64 1)] 4 158 true 0 0 0) .lf))))))))) (tr (tl (tr (tl (tr (tr (tl (.nd .lf (.row [(.nat .i64 1),(.nat .i64
  1),(.str [48]),(.nat .i64 1),(.nat .i64 1),(.nat .i64 1),(.str [48]),(.nat .i64 2),(.nat .i64 2),(.nat .i64 2),(.str [48]),(.nat .i64 3),(.nat .i64 2),(.nat
  .i64 2),(.str [48]),(.nat .i64 4),(.nat .i64 4),(.nat .i64 4),(.str [48]),(.nat .i64 1),(.nat .i64 4),(.nat .i64 4),(.str [48]),(.nat .i64 2)] 24 158 true 0 0
  0) .lf))))))))))))), k9159⟩⟩
def hk5 : Hook := ⟨17, [(.ls 0 [(.nat .i64 1),(.nat .i64 0),(.str [48]),(.so k1261 6 0 3 0)]),(.sl k8773 0 0 2 2),(.sl k9159 0 0 2 2),(.bool true)], ⟨(tn (tn
  (tn (tl (tr (tn (tl (tl (tl (tl (tr (tr (.nd .lf (.row [(.nat .i64 2),(.nat .i64 2),(.str [48]),(.nat .i64 1),(.nat .i64 3),(.nat .i64 3),(.str [48]),(.nat
  .i64 1),(.nat .i64 4),(.nat .i64 4),(.str [48]),(.nat .i64 1),(.nat .i64 0),(.nat .i64 2),(.str [48]),(.nat .i64 2)] 16 158 true 0 0 0) .lf))))))) (tr (tr (tl
  (tr (tr (tl (.nd .lf (.row [(.nat .i64 1),(.nat .i64 1),(.str [48]),(.nat .i64 1),(.nat .i64 1),(.nat .i64 1),(.str [48]),(.nat .i64 2),(.nat .i64 2),(.nat
  .i64 2),(.str [48]),(.nat .i64 3),(.nat .i64 2),(.nat .i64 2),(.str [48]),(.nat .i64 4),(.nat .i64 4),(.nat .i64 4),(.str [48]),(.nat .i64 1),(.nat .i64
  4),(.nat .i64 4),(.str [48]),(.nat .i64 2)] 24 158 true 0 0 0) .lf)))))))))) (tl (tl (tl (tn (tl (tr (tr (tr (tl (.nd .lf (.row [(.nat .i64 1),(.nat .i64
  0),(.str [48]),(.so k5818 14 0 7 0)] 4 24 false 0 0 0) .lf)))))) (tl (tl (tr (tl (tl (tl (.nd .lf (.row [(.nat .i64 1),(.nat .i64 0),(.str [48]),(.so k8753 6
  0 3 0)] 4 24 false 0 0 0) .lf)))))))))))) (tn (tn (tn (tl (tn (tl (tr (tr (tr (tl (.nd .lf (.row [(.nat .i64 1),(.nat .i64 0),(.str [48]),(.nat .i64 2)] 4 158
  true 0 0 0) .lf)))))) (tl (tl (tr (tn (tl (tl (.nd .lf (.row [(.nat .i64 5),(.nat .i64 5),(.str [48]),(.nat .i64 1)] 4 158 true 0 0 0) .lf))) (.nd .lf (.row
  [(.nat .i64 2),(.nat .i64 2),(.str [48]),(.nat .i64 1),(.nat .i64 3),(.nat .i64 3),(.str [48]),(.nat .i64 1),(.nat .i64 4),(.nat .i64 4),(.str [48]),(.nat
  .i64 1)] 12 158 true 0 0 0) .lf))))))) (tr (tn (tl (tl (tr (tr (.nd .lf (.row [(.nat .i64 1),(.nat .i64 0),(.str [48]),(.nat .i64 3),(.nat .i64 1),(.nat .i64
  0),(.str [48]),(.nat .i64 4)] 8 158 true 0 0 0) .lf))))) (tr (tl (tl (.nd .lf (.row [(.nat .i64 1),(.nat .i64 1),(.str [48]),(.nat .i64 1),(.nat .i64 2),(.nat
  .i64 2),(.str [48]),(.nat .i64 1),(.nat .i64 3),(.nat .i64 3),(.str [48]),(.nat .i64 1),(.nat .i64 4),(.nat .i64 4),(.str [48]),(.nat .i64 1),(.nat .i64
  0),(.nat .i64 2),(.str [48]),(.nat .i64 2)] 20 158 true 0 0 0) .lf))))))) (tn (tr (tl (tr (tl (tr (tr (tl (.nd .lf (.row [(.nat .i64 1),(.nat .i64 1),(.str
  [48]),(.nat .i64 1),(.nat .i64 1),(.nat .i64 1),(.str [48]),(.nat .i64 2),(.nat .i64 2),(.nat .i64 2),(.str [48]),(.nat .i64 3),(.nat .i64 2),(.nat .i64
  2),(.str [48]),(.nat .i64 4),(.nat .i64 4),(.nat .i64 4),(.str [48]),(.nat .i64 1),(.nat .i64 4),(.nat .i64 4),(.str [48]),(.nat .i64 2),(.nat .i64 3),(.nat
  .i64 3),(.str [48]),(.nat .i64 1),(.nat .i64 3),(.nat .i64 3),(.str [48]),(.nat .i64 2)] 32 158 true 0 0 0) .lf)))))))) (tr (tl (tn (tl (tr (tr (.nd .lf (.row
  [(.nat .i64 1),(.nat .i64 0),(.str [48]),(.nat .i64 3),(.nat .i64 1),(.nat .i64 0),(.str [48]),(.nat .i64 4)] 8 158 true 0 0 0) .lf)))) (tl (tr (tr (tl (.nd
  .lf (.row [(.str [48]),(.so k5802 32 0 8 0),(.str [48]),(.so k5823 24 0 6 0),(.str []),(.so k5839 8 0 2 0),(.str [48]),(.so k5847 24 0 6 0),(.str []),(.so
  k5863 8 0 2 0),(.str [48]),(.so k5872 24 0 6 0),(.str []),(.so k5890 4 0 1 0)] 14 163 true 0 0 0) .lf)))))))))) (tl (tn (tr (tl (tl (tl (tr (tr (.nd .lf (.row
  [(.nat .i64 2),(.nat .i64 2),(.str [48]),(.nat .i64 1),(.nat .i64 3),(.nat .i64 3),(.str [48]),(.nat .i64 1),(.nat .i64 4),(.nat .i64 4),(.str [48]),(.nat
  .i64 1),(.nat .i64 0),(.nat .i64 4),(.str [48]),(.nat .i64 2)] 16 158 true 0 0 0) .lf))))))) (tr (tl (tl (tl (tr (tl (tl (tl (.nd .lf (.row [(.nat .i64
  1),(.nat .i64 1),(.str [48]),(.nat .i64 2),(.nat .i64 2),(.nat .i64 2),(.str [48]),(.nat .i64 2),(.nat .i64 3),(.nat .i64 3),(.str [48]),(.nat .i64 2),(.nat
  .i64 4),(.nat .i64 4),(.str [48]),(.nat .i64 2)] 16 158 true 0 0 0) .lf))))))))))))) (tn (tn (tn (tn (tn (tl (tl (tr (tl (.nd .lf (.row [(.nat .i64 1),(.nat
  .i64 0),(.str [48]),(.nat .i64 1)] 4 158 true 0 0 0) .lf))))) (tl (tl (tl (tr (tr (.nd .lf (.row [(.str [48]),(.so k3609 16 0 4 0),(.str [48]),(.so k3622 16 0
  4 0),(.str []),(.so k3634 8 0 2 0),(.str []),(.so k3642 8 0 2 0),(.str [48]),(.so k3650 12 0 3 0)] 10 163 true 0 0 0) .lf))))))) (tr (tl (tl (tl (tr (tl (tl
  (tl (.nd .lf (.row [(.str []),(.so k8751 4 0 1 0),(.str [48]),(.so k8758 16 0 4 0),(.str []),(.so k8770 4 0 1 0)] 6 163 true 0 0 0) .lf)))))))))) (tn (tl (tr
  (tl (tl (tr (tr (.nd .lf (.row [(.nat .i64 1),(.nat .i64 0),(.str [48]),(.so k3617 10 0 5 0)] 4 24 false 0 0 0) .lf))))))) (tl (tl (tl (tl (tr (tr (.nd .lf
  (.row [(.nat .i64 2),(.nat .i64 2),(.str [48]),(.nat .i64 1),(.nat .i64 3),(.nat .i64 3),(.str [48]),(.nat .i64 1),(.nat .i64 4),(.nat .i64 4),(.str
  [48]),(.nat .i64 1),(.nat .i64 0),(.nat .i64 4),(.str [48]),(.nat .i64 2)] 16 158 true 0 0 0) .lf))))))))) (tn (tl (tn (tr (tl (tl (tr (tl (tl (tl (.nd .lf
  (.row [(.nat .i64 1),(.nat .i64 1)] 2 3 false 0 0 0) .lf)))))))) (tl (tl (tl (tl (tr (tr (.nd .lf (.row [(.nat .i64 1),(.nat .i64 0),(.str [48]),(.so k7179 8
  0 4 0)] 4 24 false 0 0 0) .lf))))))))) (tn (tr (tr (tr (tl (tl (.nd .lf (.row [(.str [48]),(.so k1251 20 0 5 0),(.str [48]),(.so k1266 20 0 5 0),(.str
  []),(.so k1281 4 0 1 0)] 6 163 true 0 0 0) .lf)))))) (tl (tl (tl (tl (tl (tr (tr (.nd .lf (.row [(.nat .i64 1),(.nat .i64 1),(.str [48]),(.nat .i64 3)] 4 158
  true 0 0 0) .lf))))))))))) (tn (tn (tl (tn (tl (tl (tn (tl (tr (tr (.nd .lf (.row [(.nat .i64 2),(.nat .i64 2),(.str [48]),(.nat .i64 1),(.nat .i64 3),(.nat
  .i64 3),(.str [48]),(.nat .i64 1),(.nat .i64 4),(.nat .i64 4),(.str [48]),(.nat .i64 1),(.nat .i64 0),(.nat .i64 2),(.str [48]),(.nat .i64 2)] 16 158 true 0 0
  0) .lf)))) (tl (.nd .lf (.row [(.nat .i64 1),(.nat .i64 0),(.str [48]),(.so k1261 6 0 3 0)] 4 24 false 0 0 0) .lf))))) (tn (tl (tl (tl (tr (tr (.nd .lf (.row
  [(.nat .i64 0),(.nat .i64 3),(.str [48]),(.nat .i64 1)] 4 158 true 0 0 0) .lf)))))) (tr (tl (tl (.nd .lf (.row [(.nat .i64 1),(.nat .i64 1),(.str [48]),(.nat
  .i64 1),(.nat .i64 2),(.nat .i64 2),(.str [48]),(.nat .i64 1),(.nat .i64 3),(.nat .i64 3),(.str [48]),(.nat .i64 1),(.nat .i64 4),(.nat .i64 4),(.str
  [48]),(.nat .i64 1),(.nat .i64 0),(.nat .i64 2),(.str [48]),(.nat .i64 2)] 20 158 true 0 0 0) .lf))))))) (tl (tl (tl (tl (tl (tl (tr (tr (.nd .lf (.row [(.str
  [48]),(.so k7171 16 0 4 0),(.str [48]),(.so k7184 16 0 4 0),(.str []),(.so k7197 4 0 1 0),(.str []),(.so k7203 4 0 1 0)] 8 163 true 0 0 0) .lf)))))))))) (tn
  (tn (tn (tr (tr (tr (tr (tl (tl (tl (.nd .lf (.row [(.nat .i64 1),(.nat .i64 2)] 2 3 false 0 0 0) .lf)))))))) (tr (tr (tl (tr (tr (tl (.nd .lf (.row [(.nat
  .i64 3),(.nat .i64 3),(.str [48]),(.nat .i64 1),(.nat .i64 3),(.nat .i64 3),(.str [48]),(.nat .i64 2)] 8 158 true 0 0 0) .lf)))))))) (tl (tr (tr (tl (tr (tr
  (tl (.nd .lf (.row [(.nat .i64 1),(.nat .i64 1),(.str [48]),(.nat .i64 5),(.nat .i64 2),(.nat .i64 2),(.str [48]),(.nat .i64 3),(.nat .i64 2),(.nat .i64
  2),(.str [48]),(.nat .i64 4),(.nat .i64 4),(.nat .i64 4),(.str [48]),(.nat .i64 1),(.nat .i64 4),(.nat .i64 4),(.str [48]),(.nat .i64 2),(.nat .i64 0),(.nat
  .i64 4),(.str [48]),(.nat .i64 6)] 24 158 true 0 0 0) .lf))))))))) (tn (tn (tr (tr (tl (tr (tr (tl (.nd .lf (.row [(.nat .i64 3),(.nat .i64 3),(.str
  [48]),(.nat .i64 1),(.nat .i64 3),(.nat .i64 3),(.str [48]),(.nat .i64 2)] 8 158 true 0 0 0) .lf))))))) (tl (tl (tl (tr (tl (tl (tl (.nd .lf (.row [(.nat .i64
  5),(.nat .i64 5),(.str [48]),(.nat .i64 1)] 4 158 true 0 0 0) .lf))))))))) (tr (tl (tr (tl (tr (tr (tl (.nd .lf (.row [(.nat .i64 1),(.nat .i64 1),(.str
  [48]),(.nat .i64 1),(.nat .i64 1),(.nat .i64 1),(.str [48]),(.nat .i64 2),(.nat .i64 2),(.nat .i64 2),(.str [48]),(.nat .i64 3),(.nat .i64 2),(.nat .i64
  2),(.str [48]),(.nat .i64 4),(.nat .i64 4),(.nat .i64 4),(.str [48]),(.nat .i64 1),(.nat .i64 4),(.nat .i64 4),(.str [48]),(.nat .i64 2)] 24 158 true 0 0 0)
  .lf))))))))))))), k9160⟩, (.bool true), ⟨(tn (tn (tn (tl (tr (tn (tl (tl (tl (tl (tr (tr (.nd .lf (.row [(.nat .i64 2),(.nat .i64 2),(.str [48]),(.nat .i64
  1),(.nat .i64 3),(.nat .i64 3),(.str [48]),(.nat .i64 1),(.nat .i64 4),(.nat .i64 4),(.str [48]),(.nat .i64 1),(.nat .i64 0),(.nat .i64 2),(.str [48]),(.nat
  .i64 2)] 16 158 true 0 0 0) .lf))))))) (tr (tr (tl (tr (tr (tl (.nd .lf (.row [(.nat .i64 1),(.nat .i64 1),(.str [48]),(.nat .i64 1),(.nat .i64 1),(.nat .i64
  1),(.str [48]),(.nat .i64 2),(.nat .i64 2),(.nat .i64 2),(.str [48]),(.nat .i64 3),(.nat .i64 2),(.nat .i64 2),(.str [48]),(.nat .i64 4),(.nat .i64 4),(.nat
  .i64 4),(.str [48]),(.nat .i64 1),(.nat .i64 4),(.nat .i64 4),(.str [48]),(.nat .i64 2)] 24 158 true 0 0 0) .lf)))))))))) (tl (tl (tl (tn (tl (tr (tr (tr (tl
  (.nd .lf (.row [(.nat .i64 1),(.nat .i64 0),(.str [48]),(.so k5818 14 0 7 0)] 4 24 false 0 0 0) .lf)))))) (tl (tl (tr (tl (tl (tl (.nd .lf (.row [(.nat .i64
  1),(.nat .i64 0),(.str [48]),(.so k8753 6 0 3 0)] 4 24 false 0 0 0) .lf)))))))))))) (tn (tn (tn (tl (tn (tl (tr (tr (tr (tl (.nd .lf (.row [(.nat .i64
  1),(.nat .i64 0),(.str [48]),(.nat .i64 2)] 4 158 true 0 0 0) .lf)))))) (tl (tl (tr (tn (tl (tl (.nd .lf (.row [(.nat .i64 5),(.nat .i64 5),(.str [48]),(.nat
  .i64 1)] 4 158 true 0 0 0) .lf))) (.nd .lf (.row [(.nat .i64 2),(.nat .i64 2),(.str [48]),(.nat .i64 1),(.nat .i64 3),(.nat .i64 3),(.str [48]),(.nat .i64
  1),(.nat .i64 4),(.nat .i64 4),(.str [48]),(.nat .i64 1)] 12 158 true 0 0 0) .lf))))))) (tr (tn (tl (tl (tr (tr (.nd .lf (.row [(.nat .i64 1),(.nat .i64
  0),(.str [48]),(.nat .i64 3),(.nat .i64 1),(.nat .i64 0),(.str [48]),(.nat .i64 4)] 8 158 true 0 0 0) .lf))))) (tr (tl (tl (.nd .lf (.row [(.nat .i64 1),(.nat
  .i64 1),(.str [48]),(.nat .i64 1),(.nat .i64 2),(.nat .i64 2),(.str [48]),(.nat .i64 1),(.nat .i64 3),(.nat .i64 3),(.str [48]),(.nat .i64 1),(.nat .i64
  4),(.nat .i64 4),(.str [48]),(.nat .i64 1),(.nat .i64 0),(.nat .i64 2),(.str [48]),(.nat .i64 2)] 20 158 true 0 0 0) .lf))))))) (tn (tr (tl (tr (tl (tr (tr
  (tl (.nd .lf (.row [(.nat .i64 1),(.nat .i64 1),(.str [48]),(.nat .i64 1),(.nat .i64 1),(.nat .i64 1),(.str [48]),(.nat .i64 2),(.nat .i64 2),(.nat .i64
  2),(.str [48]),(.nat .i64 3),(.nat .i64 2),(.nat .i64 2),(.str [48]),(.nat .i64 4),(.nat .i64 4),(.nat .i64 4),(.str [48]),(.nat .i64 1),(.nat .i64 4),(.nat
  .i64 4),(.str [48]),(.nat .i64 2),(.nat .i64 3),(.nat .i64 3),(.str [48]),(.nat .i64 1),(.nat .i64 3),(.nat .i64 3),(.str [48]),(.nat .i64 2)] 32 158 true 0 0
  0) .lf)))))))) (tr (tl (tn (tl (tr (tr (.nd .lf (.row [(.nat .i64 1),(.nat .i64 0),(.str [48]),(.nat .i64 3),(.nat .i64 1),(.nat .i64 0),(.str [48]),(.nat
  .i64 4)] 8 158 true 0 0 0) .lf)))) (tl (tr (tr (tl (.nd .lf (.row [(.str [48]),(.so k5802 32 0 8 0),(.str [48]),(.so k5823 24 0 6 0),(.str []),(.so k5839 8 0
  2 0),(.str [48]),(.so k5847 24 0 6 0),(.str []),(.so k5863 8 0 2 0),(.str [48]),(.so k5872 24 0 6 0),(.str []),(.so k5890 4 0 1 0)] 14 163 true 0 0 0)
  .lf)))))))))) (tl (tn (tr (tl (tl (tl (tr (tr (.nd .lf (.row [(.nat .i64 2),(.nat .i64 2),(.str [48]),(.nat .i64 1),(.nat .i64 3),(.nat .i64 3),(.str
  [48]),(.nat .i64 1),(.nat .i64 4),(.nat .i64 4),(.str [48]),(.nat .i64 1),(.nat .i64 0),(.nat .i64 4),(.str [48]),(.nat .i64 2)] 16 158 true 0 0 0) .lf)))))))
  (tr (tl (tl (tl (tr (tl (tl (tl (.nd .lf (.row [(.nat .i64 1),(.nat .i64 1),(.str [48]),(.nat .i64 2),(.nat .i64 2),(.nat .i64 2),(.str [48]),(.nat .i64
  2),(.nat .i64 3),(.nat .i64 3),(.str [48]),(.nat .i64 2),(.nat .i64 4),(.nat .i64 4),(.str [48]),(.nat .i64 2)] 16 158 true 0 0 0) .lf))))))))))))) (tn (tn
  (tn (tn (tn (tl (tl (tr (tl (.nd .lf (.row [(.nat .i64 1),(.nat .i64 0),(.str [48]),(.nat .i64 1)] 4 158 true 0 0 0) .lf))))) (tl (tl (tl (tr (tr (.nd .lf
  (.row [(.str [48]),(.so k3609 16 0 4 0),(.str [48]),(.so k3622 16 0 4 0),(.str []),(.so k3634 8 0 2 0),(.str []),(.so k3642 8 0 2 0),(.str [48]),(.so k3650 12
  0 3 0)] 10 163 true 0 0 0) .lf))))))) (tr (tl (tl (tl (tr (tl (tl (tl (.nd .lf (.row [(.str []),(.so k8751 4 0 1 0),(.str [48]),(.so k8758 16 0 4 0),(.str
  []),(.so k8770 4 0 1 0)] 6 163 true 0 0 0) .lf)))))))))) (tn (tl (tr (tl (tl (tr (tr (.nd .lf (.row [(.nat .i64 1),(.nat .i64 0),(.str [48]),(.so k3617 10 0 5
  0)] 4 24 false 0 0 0) .lf))))))) (tl (tl (tl (tl (tr (tr (.nd .lf (.row [(.nat .i64 2),(.nat .i64 2),(.str [48]),(.nat .i64 1),(.nat .i64 3),(.nat .i64
  3),(.str [48]),(.nat .i64 1),(.nat .i64 4),(.nat .i64 4),(.str [48]),(.nat .i64 1),(.nat .i64 0),(.nat .i64 4),(.str [48]),(.nat .i64 2)] 16 158 true 0 0 0)
  .lf))))))))) (tn (tl (tn (tr (tl (tl (tr (tl (tl (tl (.nd .lf (.row [(.nat .i64 1),(.nat .i64 1)] 2 3 false 0 0 0) .lf)))))))) (tl (tl (tl (tl (tr (tr (.nd
  .lf (.row [(.nat .i64 1),(.nat .i64 0),(.str [48]),(.so k7179 8 0 4 0)] 4 24 false 0 0 0) .lf))))))))) (tn (tr (tr (tr (tl (tl (.nd .lf (.row [(.str
  [48]),(.so k1251 20 0 5 0),(.str [48]),(.so k1266 20 0 5 0),(.str []),(.so k1281 4 0 1 0)] 6 163 true 0 0 0) .lf)))))) (tl (tl (tl (tl (tl (tr (tr (.nd .lf
  (.row [(.nat .i64 1),(.nat .i64 1),(.str [48]),(.nat .i64 3)] 4 158 true 0 0 0) .lf))))))))))) (tn (tn (tl (tn (tl (tl (tn (tl (tr (tr (.nd .lf (.row [(.nat
  .i64 2),(.nat .i64 2),(.str [48]),(.nat .i64 1),(.nat .i64 3),(.nat .i64 3),(.str [48]),(.nat .i64 1),(.nat .i64 4),(.nat .i64 4),(.str [48]),(.nat .i64
  1),(.nat .i64 0),(.nat .i64 2),(.str [48]),(.nat .i64 2)] 16 158 true 0 0 0) .lf)))) (tl (.nd .lf (.row [(.nat .i64 1),(.nat .i64 0),(.str [48]),(.so k1261 6
  0 3 0)] 4 24 false 0 0 0) .lf))))) (tn (tl (tl (tl (tr (tr (.nd .lf (.row [(.nat .i64 0),(.nat .i64 3),(.str [48]),(.nat .i64 1)] 4 158 true 0 0 0) .lf))))))
  (tr (tl (tl (.nd .lf (.row [(.nat .i64 1),(.nat .i64 1),(.str [48]),(.nat .i64 1),(.nat .i64 2),(.nat .i64 2),(.str [48]),(.nat .i64 1),(.nat .i64 3),(.nat
  .i64 3),(.str [48]),(.nat .i64 1),(.nat .i64 4),(.nat .i64 4),(.str [48]),(.nat .i64 1),(.nat .i64 0),(.nat .i64 2),(.str [48]),(.nat .i64 2)] 20 158 true 0 0
  0) .lf))))))) (tl (tl (tl (tl (tl (tl (tr (tr (.nd .lf (.row [(.str [48]),(.so k7171 16 0 4 0),(.str [48]),(.so k7184 16 0 4 0),(.str []),(.so k7197 4 0 1
  0),(.str []),(.so k7203 4 0 1 0)] 8 163 true 0 0 0) .lf)))))))))) (tn (tn (tr (tr (tr (tl (tr (tr (tl (.nd .lf (.row [(.nat .i64 3),(.nat .i64 3),(.str
  [48]),(.nat .i64 1),(.nat .i64 3),(.nat .i64 3),(.str [48]),(.nat .i64 2)] 8 158 true 0 0 0) .lf)))))))) (tl (tr (tr (tl (tr (tr (tl (.nd .lf (.row [(.nat
  .i64 1),(.nat .i64 1),(.str [48]),(.nat .i64 5),(.nat .i64 2),(.nat .i64 2),(.str [48]),(.nat .i64 3),(.nat .i64 2),(.nat .i64 2),(.str [48]),(.nat .i64
  4),(.nat .i64 4),(.nat .i64 4),(.str [48]),(.nat .i64 1),(.nat .i64 4),(.nat .i64 4),(.str [48]),(.nat .i64 2),(.nat .i64 0),(.nat .i64 4),(.str [48]),(.nat
  .i64 6)] 24 158 true 0 0 0) .lf))))))))) (tn (tn (tr (tr (tl (tr (tr (tl (.nd .lf (.row [(.nat .i64 3),(.nat .i64 3),(.str [48]),(.nat .i64 1),(.nat .i64
  3),(.nat .i64 3),(.str [48]),(.nat .i64 2)] 8 158 true 0 0 0) .lf))))))) (tl (tl (tl (tr (tl (tl (tl (.nd .lf (.row [(.nat .i64 5),(.nat .i64 5),(.str
  [48]),(.nat .i64 1)] 4 158 true 0 0 0) .lf))))))))) (tr (tl (tr (tl (tr (tr (tl (.nd .lf (.row [(.nat .i64 1),(.nat .i64 1),(.str [48]),(.nat .i64 1),(.nat
  .i64 1),(.nat .i64 1),(.str [48]),(.nat .i64 2),(.nat .i64 2),(.nat .i64 2),(.str [48]),(.nat .i64 3),(.nat .i64 2),(.nat .i64 2),(.str [48]),(.nat .i64
  4),(.nat .i64 4),(.nat .i64 4),(.str [48]),(.nat .i64 1),(.nat .i64 4),(.nat .i64 4),(.str [48]),(.nat .i64 2)] 24 158 true 0 0 0) .lf))))))))))))), k9602⟩⟩
def hk6 : Hook := ⟨17, [(.ls 0 [(.nat .i64 1),(.nat .i64 0),(.str [48]),(.so k1261 6 0 3 0)]),(.sl k8773 0 0 2 2),(.sl k9602 0 0 2 2),(.bool true)], ⟨(tn (tn
  (tn (tl (tr (tn (tl (tl (tl (tl (tr (tr (.nd .lf (.row [(.nat .i64 2),(.nat .i64 2),(.str [48]),(.nat .i64 1),(.nat .i64 3),(.nat .i64 3),(.str [48]),(.nat
  .i64 1),(.nat .i64 4),(.nat .i64 4),(.str [48]),(.nat .i64 1),(.nat .i64 0),(.nat .i64 2),(.str [48]),(.nat .i64 2)] 16 158 true 0 0 0) .lf))))))) (tr (tr (tl
  (tr (tr (tl (.nd .lf (.row [(.nat .i64 1),(.nat .i64 1),(.str [48]),(.nat .i64 1),(.nat .i64 1),(.nat .i64 1),(.str [48]),(.nat .i64 2),(.nat .i64 2),(.nat
  .i64 2),(.str [48]),(.nat .i64 3),(.nat .i64 2),(.nat .i64 2),(.str [48]),(.nat .i64 4),(.nat .i64 4),(.nat .i64 4),(.str [48]),(.nat .i64 1),(.nat .i64
  4),(.nat .i64 4),(.str [48]),(.nat .i64 2)] 24 158 true 0 0 0) .lf)))))))))) (tl (tl (tl (tn (tl (tr (tr (tr (tl (.nd .lf (.row [(.nat .i64 1),(.nat .i64
  0),(.str [48]),(.so k5818 14 0 7 0)] 4 24 false 0 0 0) .lf)))))) (tl (tl (tr (tl (tl (tl (.nd .lf (.row [(.nat .i64 1),(.nat .i64 0),(.str [48]),(.so k8753 6
  0 3 0)] 4 24 false 0 0 0) .lf)))))))))))) (tn (tn (tn (tl (tn (tn (tr (tr (tr (tl (.nd .lf (.row [(.nat .i64 1),(.nat .i64 0),(.str [48]),(.nat .i64 2)] 4 158
  true 0 0 0) .lf))))) (tr (tl (tr (tl (tl (.nd .lf (.row [(.nat .i64 2),(.nat .i64 1)] 2 3 false 0 0 0) .lf))))))) (tl (tl (tr (tn (tl (tl (.nd .lf (.row
  [(.nat .i64 5),(.nat .i64 5),(.str [48]),(.nat .i64 1)] 4 158 true 0 0 0) .lf))) (.nd .lf (.row [(.nat .i64 2),(.nat .i64 2),(.str [48]),(.nat .i64 1),(.nat
  .i64 3),(.nat .i64 3),(.str [48]),(.nat .i64 1),(.nat .i64 4),(.nat .i64 4),(.str [48]),(.nat .i64 1)] 12 158 true 0 0 0) .lf))))))) (tr (tn (tl (tl (tr (tr
  (.nd .lf (.row [(.nat .i64 1),(.nat .i64 0),(.str [48]),(.nat .i64 3),(.nat .i64 1),(.nat .i64 0),(.str [48]),(.nat .i64 4)] 8 158 true 0 0 0) .lf))))) (tr
  (tl (tl (.nd .lf (.row [(.nat .i64 1),(.nat .i64 1),(.str [48]),(.nat .i64 1),(.nat .i64 2),(.nat .i64 2),(.str [48]),(.nat .i64 1),(.nat .i64 3),(.nat .i64
  3),(.str [48]),(.nat .i64 1),(.nat .i64 4),(.nat .i64 4),(.str [48]),(.nat .i64 1),(.nat .i64 0),(.nat .i64 2),(.str [48]),(.nat .i64 2)] 20 158 true 0 0 0)
  .lf))))))) (tn (tr (tl (tr (tl (tr (tr (tl (.nd .lf (.row [(.nat .i64 1),(.nat .i64 1),(.str [48]),(.nat .i64 1),(.nat .i64 1),(.nat .i64 1),(.str [48]),(.nat
  .i64 2),(.nat .i64 2),(.nat .i64 2),(.str [48]),(.nat .i64 3),(.nat .i64 2),(.nat .i64 2),(.str [48]),(.nat .i64 4),(.nat .i64 4),(.nat .i64 4),(.str
  [48]),(.nat .i64 1),(.nat .i64 4),(.nat .i64 4),(.str [48]),(.nat .i64 2),(.nat .i64 3),(.nat .i64 3),(.str [48]),(.nat .i64 1),(.nat .i64 3),(.nat .i64
  3),(.str [48]),(.nat .i64 2)] 32 158 true 0 0 0) .lf)))))))) (tr (tl (tn (tl (tr (tr (.nd .lf (.row [(.nat .i64 1),(.nat .i64 0),(.str [48]),(.nat .i64
  3),(.nat .i64 1),(.nat .i64 0),(.str [48]),(.nat .i64 4)] 8 158 true 0 0 0) .lf)))) (tl (tr (tr (tl (.nd .lf (.row [(.str [48]),(.so k5802 32 0 8 0),(.str
  [48]),(.so k5823 24 0 6 0),(.str []),(.so k5839 8 0 2 0),(.str [48]),(.so k5847 24 0 6 0),(.str []),(.so k5863 8 0 2 0),(.str [48]),(.so k5872 24 0 6 0),(.str
  []),(.so k5890 4 0 1 0)] 14 163 true 0 0 0) .lf)))))))))) (tl (tn (tr (tl (tl (tl (tr (tr (.nd .lf (.row [(.nat .i64 2),(.nat .i64 2),(.str [48]),(.nat .i64
  1),(.nat .i64 3),(.nat .i64 3),(.str [48]),(.nat .i64 1),(.nat .i64 4),(.nat .i64 4),(.str [48]),(.nat .i64 1),(.nat .i64 0),(.nat .i64 4),(.str [48]),(.nat
  .i64 2)] 16 158 true 0 0 0) .lf))))))) (tr (tl (tl (tl (tr (tl (tl (tl (.nd .lf (.row [(.nat .i64 1),(.nat .i64 1),(.str [48]),(.nat .i64 2),(.nat .i64
  2),(.nat .i64 2),(.str [48]),(.nat .i64 2),(.nat .i64 3),(.nat .i64 3),(.str [48]),(.nat .i64 2),(.nat .i64 4),(.nat .i64 4),(.str [48]),(.nat .i64 2)] 16 158
  true 0 0 0) .lf))))))))))))) (tn (tn (tn (tn (tn (tl (tl (tr (tl (.nd .lf (.row [(.nat .i64 1),(.nat .i64 0),(.str [48]),(.nat .i64 1)] 4 158 true 0 0 0)
  .lf))))) (tl (tl (tl (tr (tr (.nd .lf (.row [(.str [48]),(.so k3609 16 0 4 0),(.str [48]),(.so k3622 16 0 4 0),(.str []),(.so k3634 8 0 2 0),(.str []),(.so
  k3642 8 0 2 0),(.str [48]),(.so k3650 12 0 3 0)] 10 163 true 0 0 0) .lf))))))) (tr (tl (tl (tl (tr (tl (tl (tl (.nd .lf (.row [(.str []),(.so k8751 4 0 1
  0),(.str [48]),(.so k8758 16 0 4 0),(.str []),(.so k8770 4 0 1 0)] 6 163 true 0 0 0) .lf)))))))))) (tn (tl (tr (tl (tl (tr (tr (.nd .lf (.row [(.nat .i64
  1),(.nat .i64 0),(.str [48]),(.so k3617 10 0 5 0)] 4 24 false 0 0 0) .lf))))))) (tl (tl (tl (tl (tr (tr (.nd .lf (.row [(.nat .i64 2),(.nat .i64 2),(.str
  [48]),(.nat .i64 1),(.nat .i64 3),(.nat .i64 3),(.str [48]),(.nat .i64 1),(.nat .i64 4),(.nat .i64 4),(.str [48]),(.nat .i64 1),(.nat .i64 0),(.nat .i64
  4),(.str [48]),(.nat .i64 2)] 16 158 true 0 0 0) .lf))))))))) (tn (tl (tn (tr (tl (tl (tr (tl (tl (tl (.nd .lf (.row [(.nat .i64 1),(.nat .i64 1)] 2 3 false 0
  0 0) .lf)))))))) (tl (tl (tl (tl (tr (tr (.nd .lf (.row [(.nat .i64 1),(.nat .i64 0),(.str [48]),(.so k7179 8 0 4 0)] 4 24 false 0 0 0) .lf))))))))) (tn (tr
  (tr (tr (tl (tl (.nd .lf (.row [(.str [48]),(.so k1251 20 0 5 0),(.str [48]),(.so k1266 20 0 5 0),(.str []),(.so k1281 4 0 1 0)] 6 163 true 0 0 0) .lf))))))
  (tl (tl (tl (tl (tl (tr (tr (.nd .lf (.row [(.nat .i64 1),(.nat .i64 1),(.str [48]),(.nat .i64 3)] 4 158 true 0 0 0) .lf))))))))))) (tn (tn (tl (tn (tl (tl
  (tn (tl (tr (tr (.nd .lf (.row [(.nat .i64 2),(.nat .i64 2),(.str [48]),(.nat .i64 1),(.nat .i64 3),(.nat .i64 3),(.str [48]),(.nat .i64 1),(.nat .i64
  4),(.nat .i64 4),(.str [48]),(.nat .i64 1),(.nat .i64 0),(.nat .i64 2),(.str [48]),(.nat .i64 2)] 16 158 true 0 0 0) .lf)))) (tl (.nd .lf (.row [(.nat .i64
  1),(.nat .i64 0),(.str [48]),(.so k1261 6 0 3 0)] 4 24 false 0 0 0) .lf))))) (tn (tl (tl (tl (tr (tr (.nd .lf (.row [(.nat .i64 0),(.nat .i64 3),(.str
  [48]),(.nat .i64 1)] 4 158 true 0 0 0) .lf)))))) (tr (tl (tl (.nd .lf (.row [(.nat .i64 1),(.nat .i64 1),(.str [48]),(.nat .i64 1),(.nat .i64 2),(.nat .i64
  2),(.str [48]),(.nat .i64 1),(.nat .i64 3),(.nat .i64 3),(.str [48]),(.nat .i64 1),(.nat .i64 4),(.nat .i64 4),(.str [48]),(.nat .i64 1),(.nat .i64 0),(.nat
  .i64 2),(.str [48]),(.nat .i64 2)] 20 158 true 0 0 0) .lf))))))) (tl (tl (tl (tl (tl (tl (tr (tr (.nd .lf (.row [(.str [48]),(.so k7171 16 0 4 0),(.str
  [48]),(.so k7184 16 0 4 0),(.str []),(.so k7197 4 0 1 0),(.str []),(.so k7203 4 0 1 0)] 8 163 true 0 0 0) .lf)))))))))) (tn (tn (tr (tr (tr (tl (tr (tr (tl
  (.nd .lf (.row [(.nat .i64 3),(.nat .i64 3),(.str [48]),(.nat .i64 1),(.nat .i64 3),(.nat .i64 3),(.str [48]),(.nat .i64 2)] 8 158 true 0 0 0) .lf)))))))) (tl
  (tr (tr (tl (tr (tr (tl (.nd .lf (.row [(.nat .i64 1),(.nat .i64 1),(.str [48]),(.nat .i64 5),(.nat .i64 2),(.nat .i64 2),(.str [48]),(.nat .i64 3),(.nat .i64
  2),(.nat .i64 2),(.str [48]),(.nat .i64 4),(.nat .i64 4),(.nat .i64 4),(.str [48]),(.nat .i64 1),(.nat .i64 4),(.nat .i64 4),(.str [48]),(.nat .i64 2),(.nat
  .i64 0),(.nat .i64 4),(.str [48]),(.nat .i64 6)] 24 158 true 0 0 0) .lf))))))))) (tn (tn (tr (tr (tl (tr (tr (tl (.nd .lf (.row [(.nat .i64 3),(.nat .i64
  3),(.str [48]),(.nat .i64 1),(.nat .i64 3),(.nat .i64 3),(.str [48]),(.nat .i64 2)] 8 158 true 0 0 0) .lf))))))) (tl (tl (tl (tr (tl (tl (tl (.nd .lf (.row
  [(.nat .i64 5),(.nat .i64 5),(.str [48]),(.nat .i64 1)] 4 158 true 0 0 0) .lf))))))))) (tr (tl (tr (tl (tr (tr (tl (.nd .lf (.row [(.nat .i64 1),(.nat .i64
  1),(.str [48]),(.nat .i64 1),(.nat .i64 1),(.nat .i64 1),(.str [48]),(.nat .i64 2),(.nat .i64 2),(.nat .i64 2),(.str [48]),(.nat .i64 3),(.nat .i64 2),(.nat
  .i64 2),(.str [48]),(.nat .i64 4),(.nat .i64 4),(.nat .i64 4),(.str [48]),(.nat .i64 1),(.nat .i64 4),(.nat .i64 4),(.str [48]),(.nat .i64 2)] 24 158 true 0 0
  0) .lf))))))))))))), k9603⟩, (.bool true), ⟨(tn (tn (tn (tl (tr (tn (tl (tl (tl (tl (tr (tr (.nd .lf (.row [(.nat .i64 2),(.nat .i64 2),(.str [48]),(.nat .i64
  1),(.nat .i64 3),(.nat .i64 3),(.str [48]),(.nat .i64 1),(.nat .i64 4),(.nat .i64 4),(.str [48]),(.nat .i64 1),(.nat .i64 0),(.nat .i64 2),(.str [48]),(.nat
  .i64 2)] 16 158 true 0 0 0) .lf))))))) (tr (tr (tl (tr (tr (tl (.nd .lf (.row [(.nat .i64 1),(.nat .i64 1),(.str [48]),(.nat .i64 1),(.nat .i64 1),(.nat .i64
  1),(.str [48]),(.nat .i64 2),(.nat .i64 2),(.nat .i64 2),(.str [48]),(.nat .i64 3),(.nat .i64 2),(.nat .i64 2),(.str [48]),(.nat .i64 4),(.nat .i64 4),(.nat
  .i64 4),(.str [48]),(.nat .i64 1),(.nat .i64 4),(.nat .i64 4),(.str [48]),(.nat .i64 2)] 24 158 true 0 0 0) .lf)))))))))) (tl (tl (tl (tn (tl (tr (tr (tr (tl
  (.nd .lf (.row [(.nat .i64 1),(.nat .i64 0),(.str [48]),(.so k5818 14 0 7 0)] 4 24 false 0 0 0) .lf)))))) (tl (tl (tr (tl (tl (tl (.nd .lf (.row [(.nat .i64
  1),(.nat .i64 0),(.str [48]),(.so k8753 6 0 3 0)] 4 24 false 0 0 0) .lf)))))))))))) (tn (tn (tn (tl (tn (tl (tr (tr (tr (tl (.nd .lf (.row [(.nat .i64
  1),(.nat .i64 0),(.str [48]),(.nat .i64 2)] 4 158 true 0 0 0) .lf)))))) (tl (tl (tr (tn (tl (tl (.nd .lf (.row [(.nat .i64 5),(.nat .i64 5),(.str [48]),(.nat
  .i64 1)] 4 158 true 0 0 0) .lf))) (.nd .lf (.row [(.nat .i64 2),(.nat .i64 2),(.str [48]),(.nat .i64 1),(.nat .i64 3),(.nat .i64 3),(.str [48]),(.nat .i64
  1),(.nat .i64 4),(.nat .i64 4),(.str [48]),(.nat .i64 1)] 12 158 true 0 0 0) .lf))))))) (tr (tn (tl (tl (tr (tr (.nd .lf (.row [(.nat .i64 1),(.nat .i64
  0),(.str [48]),(.nat .i64 3),(.nat .i64 1),(.nat .i64 0),(.str [48]),(.nat .i64 4)] 8 158 true 0 0 0) .lf))))) (tr (tl (tl (.nd .lf (.row [(.nat .i64 1),(.nat
  .i64 1),(.str [48]),(.nat .i64 1),(.nat .i64 2),(.nat .i64 2),(.str [48]),(.nat .i64 1),(.nat .i64 3),(.nat .i64 3),(.str [48]),(.nat .i64 1),(.nat .i64
  4),(.nat .i64 4),(.str [48]),(.nat .i64 1),(.nat .i64 0),(.nat .i64 2),(.str [48]),(.nat .i64 2)] 20 158 true 0 0 0) .lf))))))) (tn (tr (tl (tr (tl (tr (tr
  (tl (.nd .lf (.row [(.nat .i64 1),(.nat .i64 1),(.str [48]),(.nat .i64 1),(.nat .i64 1),(.nat .i64 1),(.str [48]),(.nat .i64 2),(.nat .i64 2),(.nat .i64
  2),(.str [48]),(.nat .i64 3),(.nat .i64 2),(.nat .i64 2),(.str [48]),(.nat .i64 4),(.nat .i64 4),(.nat .i64 4),(.str [48]),(.nat .i64 1),(.nat .i64 4),(.nat
  .i64 4),(.str [48]),(.nat .i64 2),(.nat .i64 3),(.nat .i64 3),(.str [48]),(.nat .i64 1),(.nat .i64 3),(.nat .i64 3),(.str [48]),(.nat .i64 2)] 32 158 true 0 0
  0) .lf)))))))) (tr (tl (tn (tl (tr (tr (.nd .lf (.row [(.nat .i64 1),(.nat .i64 0),(.str [48]),(.nat .i64 3),(.nat .i64 1),(.nat .i64 0),(.str [48]),(.nat
  .i64 4)] 8 158 true 0 0 0) .lf)))) (tl (tr (tr (tl (.nd .lf (.row [(.str [48]),(.so k5802 32 0 8 0),(.str [48]),(.so k5823 24 0 6 0),(.str []),(.so k5839 8 0
  2 0),(.str [48]),(.so k5847 24 0 6 0),(.str []),(.so k5863 8 0 2 0),(.str [48]),(.so k5872 24 0 6 0),(.str []),(.so k5890 4 0 1 0)] 14 163 true 0 0 0)
  .lf)))))))))) (tl (tn (tr (tl (tl (tl (tr (tr (.nd .lf (.row [(.nat .i64 2),(.nat .i64 2),(.str [48]),(.nat .i64 1),(.nat .i64 3),(.nat .i64 3),(.str
  [48]),(.nat .i64 1),(.nat .i64 4),(.nat .i64 4),(.str [48]),(.nat .i64 1),(.nat .i64 0),(.nat .i64 4),(.str [48]),(.nat .i64 2)] 16 158 true 0 0 0) .lf)))))))
  (tr (tl (tl (tl (tr (tl (tl (tl (.nd .lf (.row [(.nat .i64 1),(.nat .i64 1),(.str [48]),(.nat .i64 2),(.nat .i64 2),(.nat .i64 2),(.str [48]),(.nat .i64
  2),(.nat .i64 3),(.nat .i64 3),(.str [48]),(.nat .i64 2),(.nat .i64 4),(.nat .i64 4),(.str [48]),(.nat .i64 2)] 16 158 true 0 0 0) .lf))))))))))))) (tn (tn
  (tn (tn (tn (tl (tl (tr (tl (.nd .lf (.row [(.nat .i64 1),(.nat .i64 0),(.str [48]),(.nat .i64 1)] 4 158 true 0 0 0) .lf))))) (tl (tl (tl (tr (tr (.nd .lf
  (.row [(.str [48]),(.so k3609 16 0 4 0),(.str [48]),(.so k3622 16 0 4 0),(.str []),(.so k3634 8 0 2 0),(.str []),(.so k3642 8 0 2 0),(.str [48]),(.so k3650 12
  0 3 0)] 10 163 true 0 0 0) .lf))))))) (tr (tl (tl (tl (tr (tl (tl (tl (.nd .lf (.row [(.str []),(.so k8751 4 0 1 0),(.str [48]),(.so k8758 16 0 4 0),(.str
  []),(.so k8770 4 0 1 0)] 6 163 true 0 0 0) .lf)))))))))) (tn (tl (tr (tl (tl (tr (tr (.nd .lf (.row [(.nat .i64 1),(.nat .i64 0),(.str [48]),(.so k3617 10 0 5
  0)] 4 24 false 0 0 0) .lf))))))) (tl (tl (tl (tl (tr (tr (.nd .lf (.row [(.nat .i64 2),(.nat .i64 2),(.str [48]),(.nat .i64 1),(.nat .i64 3),(.nat .i64
  3),(.str [48]),(.nat .i64 1),(.nat .i64 4),(.nat .i64 4),(.str [48]),(.nat .i64 1),(.nat .i64 0),(.nat .i64 4),(.str [48]),(.nat .i64 2)] 16 158 true 0 0 0)
  .lf))))))))) (tn (tl (tn (tr (tl (tl (tr (tl (tl (tl (.nd .lf (.row [(.nat .i64 1),(.nat .i64 1)] 2 3 false 0 0 0) .lf)))))))) (tl (tl (tl (tl (tr (tr (.nd
  .lf (.row [(.nat .i64 1),(.nat .i64 0),(.str [48]),(.so k7179 8 0 4 0)] 4 24 false 0 0 0) .lf))))))))) (tn (tr (tr (tr (tl (tl (.nd .lf (.row [(.str
  [48]),(.so k1251 20 0 5 0),(.str [48]),(.so k1266 20 0 5 0),(.str []),(.so k1281 4 0 1 0)] 6 163 true 0 0 0) .lf)))))) (tl (tl (tl (tl (tl (tr (tr (.nd .lf
  (.row [(.nat .i64 1),(.nat .i64 1),(.str [48]),(.nat .i64 3)] 4 158 true 0 0 0) .lf))))))))))) (tn (tn (tl (tn (tl (tl (tn (tl (tr (tr (.nd .lf (.row [(.nat
  .i64 2),(.nat .i64 2),(.str [48]),(.nat .i64 1),(.nat .i64 3),(.nat .i64 3),(.str [48]),(.nat .i64 1),(.nat .i64 4),(.nat .i64 4),(.str [48]),(.nat .i64
  1),(.nat .i64 0),(.nat .i64 2),(.str [48]),(.nat .i64 2)] 16 158 true 0 0 0) .lf)))) (tl (.nd .lf (.row [(.nat .i64 1),(.nat .i64 0),(.str [48]),(.so k1261 6
  0 3 0)] 4 24 false 0 0 0) .lf))))) (tn (tl (tl (tl (tr (tr (.nd .lf (.row [(.nat .i64 0),(.nat .i64 3),(.str [48]),(.nat .i64 1)] 4 158 true 0 0 0) .lf))))))
  (tr (tl (tl (.nd .lf (.row [(.nat .i64 1),(.nat .i64 1),(.str [48]),(.nat .i64 1),(.nat .i64 2),(.nat .i64 2),(.str [48]),(.nat .i64 1),(.nat .i64 3),(.nat
  .i64 3),(.str [48]),(.nat .i64 1),(.nat .i64 4),(.nat .i64 4),(.str [48]),(.nat .i64 1),(.nat .i64 0),(.nat .i64 2),(.str [48]),(.nat .i64 2)] 20 158 true 0 0
  0) .lf))))))) (tl (tl (tl (tl (tl (tl (tr (tr (.nd .lf (.row [(.str [48]),(.so k7171 16 0 4 0),(.str [48]),(.so k7184 16 0 4 0),(.str []),(.so k7197 4 0 1
  0),(.str []),(.so k7203 4 0 1 0)] 8 163 true 0 0 0) .lf)))))))))) (tn (tn (tr (tr (tr (tl (tr (tr (tl (.nd .lf (.row [(.nat .i64 3),(.nat .i64 3),(.str
  [48]),(.nat .i64 1),(.nat .i64 3),(.nat .i64 3),(.str [48]),(.nat .i64 2)] 8 158 true 0 0 0) .lf)))))))) (tl (tr (tr (tl (tr (tr (tl (.nd .lf (.row [(.nat
  .i64 1),(.nat .i64 1),(.str [48]),(.nat .i64 5),(.nat .i64 2),(.nat .i64 2),(.str [48]),(.nat .i64 3),(.nat .i64 2),(.nat .i64 2),(.str [48]),(.nat .i64
  4),(.nat .i64 4),(.nat .i64 4),(.str [48]),(.nat .i64 1),(.nat .i64 4),(.nat .i64 4),(.str [48]),(.nat .i64 2),(.nat .i64 0),(.nat .i64 4),(.str [48]),(.nat
  .i64 6)] 24 158 true 0 0 0) .lf))))))))) (tn (tn (tr (tr (tl (tr (tr (tl (.nd .lf (.row [(.nat .i64 3),(.nat .i64 3),(.str [48]),(.nat .i64 1),(.nat .i64
  3),(.nat .i64 3),(.str [48]),(.nat .i64 2)] 8 158 true 0 0 0) .lf))))))) (tl (tl (tl (tr (tl (tl (tl (.nd .lf (.row [(.nat .i64 5),(.nat .i64 5),(.str
  [48]),(.nat .i64 1)] 4 158 true 0 0 0) .lf))))))))) (tr (tl (tr (tl (tr (tr (tl (.nd .lf (.row [(.nat .i64 1),(.nat .i64 1),(.str [48]),(.nat .i64 1),(.nat
  .i64 1),(.nat .i64 1),(.str [48]),(.nat .i64 2),(.nat .i64 2),(.nat .i64 2),(.str [48]),(.nat .i64 3),(.nat .i64 2),(.nat .i64 2),(.str [48]),(.nat .i64
  4),(.nat .i64 4),(.nat .i64 4),(.str [48]),(.nat .i64 1),(.nat .i64 4),(.nat .i64 4),(.str [48]),(.nat .i64 2)] 24 158 true 0 0 0) .lf))))))))))))), k10047⟩⟩
def hk7 : Hook := ⟨17, [(.ls 0 [(.nat .i64 1),(.nat .i64 0),(.str [48]),(.so k1261 6 0 3 0)]),(.sl k8773 0 0 2 2),(.sl k10047 0 0 2 2),(.bool true)], ⟨(tn (tn
  (tn (tl (tr (tn (tl (tl (tl (tl (tr (tr (.nd .lf (.row [(.nat .i64 2),(.nat .i64 2),(.str [48]),(.nat .i64 1),(.nat .i64 3),(.nat .i64 3),(.str [48]),(.nat
  .i64 1),(.nat .i64 4),(.nat .i64 4),(.str [48]),(.nat .i64 1),(.nat .i64 0),(.nat .i64 2),(.str [48]),(.nat .i64 2)] 16 158 true 0 0 0) .lf))))))) (tr (tr (tl
  (tr (tr (tl (.nd .lf (.row [(.nat .i64 1),(.nat .i64 1),(.str [48]),(.nat .i64 1),(.nat .i64 1),(.nat .i64 1),(.str [48]),(.nat .i64 2),(.nat .i64 2),(.nat
  .i64 2),(.str [48]),(.nat .i64 3),(.nat .i64 2),(.nat .i64 2),(.str [48]),(.nat .i64 4),(.nat .i64 4),(.nat .i64 4),(.str [48]),(.nat .i64 1),(.nat .i64
  4),(.nat .i64 4),(.str [48]),(.nat .i64 2)] 24 158 true 0 0 0) .lf)))))))))) (tl (tl (tl (tn (tl (tr (tr (tr (tl (.nd .lf (.row [(.nat .i64 1),(.nat .i64
  0),(.str [48]),(.so k5818 14 0 7 0)] 4 24 false 0 0 0) .lf)))))) (tl (tl (tr (tl (tl (tl (.nd .lf (.row [(.nat .i64 1),(.nat .i64 0),(.str [48]),(.so k8753 6
  0 3 0)] 4 24 false 0 0 0) .lf)))))))))))) (tn (tn (tn (tl (tn (tl (tr (tr (tr (tl (.nd .lf (.row [(.nat .i64 1),(.nat .i64 0),(.str [48]),(.nat .i64 2)] 4 158
  true 0 0 0) .lf)))))) (tl (tl (tr (tn (tl (tl (.nd .lf (.row [(.nat .i64 5),(.nat .i64 5),(.str [48]),(.nat .i64 1)] 4 158 true 0 0 0) .lf))) (.nd .lf (.row
  [(.nat .i64 2),(.nat .i64 2),(.str [48]),(.nat .i64 1),(.nat .i64 3),(.nat .i64 3),(.str [48]),(.nat .i64 1),(.nat .i64 4),(.nat .i64 4),(.str [48]),(.nat
  .i64 1)] 12 158 true 0 0 0) .lf))))))) (tr (tn (tl (tl (tr (tr (.nd .lf (.row [(.nat .i64 1),(.nat .i64 0),(.str [48]),(.nat .i64 3),(.nat .i64 1),(.nat .i64
  0),(.str [48]),(.nat .i64 4)] 8 158 true 0 0 0) .lf))))) (tr (tl (tl (.nd .lf (.row [(.nat .i64 1),(.nat .i64 1),(.str [48]),(.nat .i64 1),(.nat .i64 2),(.nat
  .i64 2),(.str [48]),(.nat .i64 1),(.nat .i64 3),(.nat .i64 3),(.str [48]),(.nat .i64 1),(.nat .i64 4),(.nat .i64 4),(.str [48]),(.nat .i64 1),(.nat .i64
  0),(.nat .i64 2),(.str [48]),(.nat .i64 2)] 20 158 true 0 0 0) .lf))))))) (tn (tr (tl (tr (tl (tr (tr (tl (.nd .lf (.row [(.nat .i64 1),(.nat .i64 1),(.str
  [48]),(.nat .i64 1),(.nat .i64 1),(.nat .i64 1),(.str [48]),(.nat .i64 2),(.nat .i64 2),(.nat .i64 2),(.str [48]),(.nat .i64 3),(.nat .i64 2),(.nat .i64
  2),(.str [48]),(.nat .i64 4),(.nat .i64 4),(.nat .i64 4),(.str [48]),(.nat .i64 1),(.nat .i64 4),(.nat .i64 4),(.str [48]),(.nat .i64 2),(.nat .i64 3),(.nat
  .i64 3),(.str [48]),(.nat .i64 1),(.nat .i64 3),(.nat .i64 3),(.str [48]),(.nat .i64 2)] 32 158 true 0 0 0) .lf)))))))) (tr (tl (tn (tl (tr (tr (.nd .lf (.row
  [(.nat .i64 1),(.nat .i64 0),(.str [48]),(.nat .i64 3),(.nat .i64 1),(.nat .i64 0),(.str [48]),(.nat .i64 4)] 8 158 true 0 0 0) .lf)))) (tl (tr (tr (tl (.nd
  .lf (.row [(.str [48]),(.so k5802 32 0 8 0),(.str [48]),(.so k5823 24 0 6 0),(.str []),(.so k5839 8 0 2 0),(.str [48]),(.so k5847 24 0 6 0),(.str []),(.so
  k5863 8 0 2 0),(.str [48]),(.so k5872 24 0 6 0),(.str []),(.so k5890 4 0 1 0)] 14 163 true 0 0 0) .lf)))))))))) (tl (tn (tr (tl (tl (tl (tr (tr (.nd .lf (.row
  [(.nat .i64 2),(.nat .i64 2),(.str [48]),(.nat .i64 1),(.nat .i64 3),(.nat .i64 3),(.str [48]),(.nat .i64 1),(.nat .i64 4),(.nat .i64 4),(.str [48]),(.nat
  .i64 1),(.nat .i64 0),(.nat .i64 4),(.str [48]),(.nat .i64 2)] 16 158 true 0 0 0) .lf))))))) (tr (tl (tl (tl (tr (tl (tl (tl (.nd .lf (.row [(.nat .i64
  1),(.nat .i64 1),(.str [48]),(.nat .i64 2),(.nat .i64 2),(.nat .i64 2),(.str [48]),(.nat .i64 2),(.nat .i64 3),(.nat .i64 3),(.str [48]),(.nat .i64 2),(.nat
  .i64 4),(.nat .i64 4),(.str [48]),(.nat .i64 2)] 16 158 true 0 0 0) .lf))))))))))))) (tn (tn (tn (tn (tn (tl (tl (tr (tl (.nd .lf (.row [(.nat .i64 1),(.nat
  .i64 0),(.str [48]),(.nat .i64 1)] 4 158 true 0 0 0) .lf))))) (tl (tl (tl (tr (tr (.nd .lf (.row [(.str [48]),(.so k3609 16 0 4 0),(.str [48]),(.so k3622 16 0
  4 0),(.str []),(.so k3634 8 0 2 0),(.str []),(.so k3642 8 0 2 0),(.str [48]),(.so k3650 12 0 3 0)] 10 163 true 0 0 0) .lf))))))) (tr (tl (tl (tl (tr (tl (tl
  (tl (.nd .lf (.row [(.str []),(.so k8751 4 0 1 0),(.str [48]),(.so k8758 16 0 4 0),(.str []),(.so k8770 4 0 1 0)] 6 163 true 0 0 0) .lf)))))))))) (tn (tl (tr
  (tl (tl (tr (tr (.nd .lf (.row [(.nat .i64 1),(.nat .i64 0),(.str [48]),(.so k3617 10 0 5 0)] 4 24 false 0 0 0) .lf))))))) (tl (tl (tl (tl (tr (tr (.nd .lf
  (.row [(.nat .i64 2),(.nat .i64 2),(.str [48]),(.nat .i64 1),(.nat .i64 3),(.nat .i64 3),(.str [48]),(.nat .i64 1),(.nat .i64 4),(.nat .i64 4),(.str
  [48]),(.nat .i64 1),(.nat .i64 0),(.nat .i64 4),(.str [48]),(.nat .i64 2)] 16 158 true 0 0 0) .lf))))))))) (tn (tl (tn (tr (tl (tl (tr (tl (tl (tl (.nd .lf
  (.row [(.nat .i64 1),(.nat .i64 1)] 2 3 false 0 0 0) .lf)))))))) (tl (tl (tl (tl (tr (tr (.nd .lf (.row [(.nat .i64 1),(.nat .i64 0),(.str [48]),(.so k7179 8
  0 4 0)] 4 24 false 0 0 0) .lf))))))))) (tn (tr (tr (tr (tl (tl (.nd .lf (.row [(.str [48]),(.so k1251 20 0 5 0),(.str [48]),(.so k1266 20 0 5 0),(.str
  []),(.so k1281 4 0 1 0)] 6 163 true 0 0 0) .lf)))))) (tl (tl (tl (tl (tl (tr (tr (.nd .lf (.row [(.nat .i64 1),(.nat .i64 1),(.str [48]),(.nat .i64 3)] 4 158
  true 0 0 0) .lf))))))))))) (tn (tn (tl (tn (tl (tl (tn (tl (tr (tr (.nd .lf (.row [(.nat .i64 2),(.nat .i64 2),(.str [48]),(.nat .i64 1),(.nat .i64 3),(.nat
  .i64 3),(.str [48]),(.nat .i64 1),(.nat .i64 4),(.nat .i64 4),(.str [48]),(.nat .i64 1),(.nat .i64 0),(.nat .i64 2),(.str [48]),(.nat .i64 2)] 16 158 true 0 0
  0) .lf)))) (tl (.nd .lf (.row [(.nat .i64 1),(.nat .i64 0),(.str [48]),(.so k1261 6 0 3 0)] 4 24 false 0 0 0) .lf))))) (tn (tl (tl (tl (tr (tr (.nd .lf (.row
  [(.nat .i64 0),(.nat .i64 3),(.str [48]),(.nat .i64 1)] 4 158 true 0 0 0) .lf)))))) (tr (tl (tl (.nd .lf (.row [(.nat .i64 1),(.nat .i64 1),(.str [48]),(.nat
  .i64 1),(.nat .i64 2),(.nat .i64 2),(.str [48]),(.nat .i64 1),(.nat .i64 3),(.nat .i64 3),(.str [48]),(.nat .i64 1),(.nat .i64 4),(.nat .i64 4),(.str
  [48]),(.nat .i64 1),(.nat .i64 0),(.nat .i64 2),(.str [48]),(.nat .i64 2)] 20 158 true 0 0 0) .lf))))))) (tl (tl (tl (tl (tl (tl (tr (tr (.nd .lf (.row [(.str
  [48]),(.so k7171 16 0 4 0),(.str [48]),(.so k7184 16 0 4 0),(.str []),(.so k7197 4 0 1 0),(.str []),(.so k7203 4 0 1 0)] 8 163 true 0 0 0) .lf)))))))))) (tn
  (tn (tr (tr (tr (tl (tr (tr (tl (.nd .lf (.row [(.nat .i64 3),(.nat .i64 3),(.str [48]),(.nat .i64 1),(.nat .i64 3),(.nat .i64 3),(.str [48]),(.nat .i64 2)] 8
  158 true 0 0 0) .lf)))))))) (tl (tr (tr (tl (tr (tr (tl (.nd .lf (.row [(.nat .i64 1),(.nat .i64 1),(.str [48]),(.nat .i64 5),(.nat .i64 2),(.nat .i64
  2),(.str [48]),(.nat .i64 3),(.nat .i64 2),(.nat .i64 2),(.str [48]),(.nat .i64 4),(.nat .i64 4),(.nat .i64 4),(.str [48]),(.nat .i64 1),(.nat .i64 4),(.nat
  .i64 4),(.str [48]),(.nat .i64 2),(.nat .i64 0),(.nat .i64 4),(.str [48]),(.nat .i64 6)] 24 158 true 0 0 0) .lf))))))))) (tn (tn (tr (tr (tl (tr (tr (tl (.nd
  .lf (.row [(.nat .i64 3),(.nat .i64 3),(.str [48]),(.nat .i64 1),(.nat .i64 3),(.nat .i64 3),(.str [48]),(.nat .i64 2)] 8 158 true 0 0 0) .lf))))))) (tl (tl
  (tl (tr (tl (tl (tl (.nd .lf (.row [(.nat .i64 5),(.nat .i64 5),(.str [48]),(.nat .i64 1)] 4 158 true 0 0 0) .lf))))))))) (tr (tl (tn (tr (tr (tr (tl (tl (.nd
  .lf (.row [(.nat .i64 2),(.nat .i64 2)] 2 3 false 0 0 0) .lf)))))) (tl (tr (tr (tl (.nd .lf (.row [(.nat .i64 1),(.nat .i64 1),(.str [48]),(.nat .i64 1),(.nat
  .i64 1),(.nat .i64 1),(.str [48]),(.nat .i64 2),(.nat .i64 2),(.nat .i64 2),(.str [48]),(.nat .i64 3),(.nat .i64 2),(.nat .i64 2),(.str [48]),(.nat .i64
  4),(.nat .i64 4),(.nat .i64 4),(.str [48]),(.nat .i64 1),(.nat .i64 4),(.nat .i64 4),(.str [48]),(.nat .i64 2)] 24 158 true 0 0 0) .lf))))))))))))), k10048⟩,
  (.bool true), ⟨(tn (tn (tn (tl (tr (tn (tl (tl (tl (tl (tr (tr (.nd .lf (.row [(.nat .i64 2),(.nat .i64 2),(.str [48]),(.nat .i64 1),(.nat .i64 3),(.nat .i64
  3),(.str [48]),(.nat .i64 1),(.nat .i64 4),(.nat .i64 4),(.str [48]),(.nat .i64 1),(.nat .i64 0),(.nat .i64 2),(.str [48]),(.nat .i64 2)] 16 158 true 0 0 0)
  .lf))))))) (tr (tr (tl (tr (tr (tl (.nd .lf (.row [(.nat .i64 1),(.nat .i64 1),(.str [48]),(.nat .i64 1),(.nat .i64 1),(.nat .i64 1),(.str [48]),(.nat .i64
  2),(.nat .i64 2),(.nat .i64 2),(.str [48]),(.nat .i64 3),(.nat .i64 2),(.nat .i64 2),(.str [48]),(.nat .i64 4),(.nat .i64 4),(.nat .i64 4),(.str [48]),(.nat
  .i64 1),(.nat .i64 4),(.nat .i64 4),(.str [48]),(.nat .i64 2)] 24 158 true 0 0 0) .lf)))))))))) (tl (tl (tl (tn (tl (tr (tr (tr (tl (.nd .lf (.row [(.nat .i64
  1),(.nat .i64 0),(.str [48]),(.so k5818 14 0 7 0)] 4 24 false 0 0 0) .lf)))))) (tl (tl (tr (tl (tl (tl (.nd .lf (.row [(.nat .i64 1),(.nat .i64 0),(.str
  [48]),(.so k8753 6 0 3 0)] 4 24 false 0 0 0) .lf)))))))))))) (tn (tn (tn (tl (tn (tl (tr (tr (tr (tl (.nd .lf (.row [(.nat .i64 1),(.nat .i64 0),(.str
  [48]),(.nat .i64 2)] 4 158 true 0 0 0) .lf)))))) (tl (tl (tr (tn (tl (tl (.nd .lf (.row [(.nat .i64 5),(.nat .i64 5),(.str [48]),(.nat .i64 1)] 4 158 true 0 0
  0) .lf))) (.nd .lf (.row [(.nat .i64 2),(.nat .i64 2),(.str [48]),(.nat .i64 1),(.nat .i64 3),(.nat .i64 3),(.str [48]),(.nat .i64 1),(.nat .i64 4),(.nat .i64
  4),(.str [48]),(.nat .i64 1)] 12 158 true 0 0 0) .lf))))))) (tr (tn (tl (tl (tr (tr (.nd .lf (.row [(.nat .i64 1),(.nat .i64 0),(.str [48]),(.nat .i64
  3),(.nat .i64 1),(.nat .i64 0),(.str [48]),(.nat .i64 4)] 8 158 true 0 0 0) .lf))))) (tr (tl (tl (.nd .lf (.row [(.nat .i64 1),(.nat .i64 1),(.str [48]),(.nat
  .i64 1),(.nat .i64 2),(.nat .i64 2),(.str [48]),(.nat .i64 1),(.nat .i64 3),(.nat .i64 3),(.str [48]),(.nat .i64 1),(.nat .i64 4),(.nat .i64 4),(.str
  [48]),(.nat .i64 1),(.nat .i64 0),(.nat .i64 2),(.str [48]),(.nat .i64 2)] 20 158 true 0 0 0) .lf))))))) (tn (tr (tl (tr (tl (tr (tr (tl (.nd .lf (.row [(.nat
  .i64 1),(.nat .i64 1),(.str [48]),(.nat .i64 1),(.nat .i64 1),(.nat .i64 1),(.str [48]),(.nat .i64 2),(.nat .i64 2),(.nat .i64 2),(.str [48]),(.nat .i64
  3),(.nat .i64 2),(.nat .i64 2),(.str [48]),(.nat .i64 4),(.nat .i64 4),(.nat .i64 4),(.str [48]),(.nat .i64 1),(.nat .i64 4),(.nat .i64 4),(.str [48]),(.nat
  .i64 2),(.nat .i64 3),(.nat .i64 3),(.str [48]),(.nat .i64 1),(.nat .i64 3),(.nat .i64 3),(.str [48]),(.nat .i64 2)] 32 158 true 0 0 0) .lf)))))))) (tr (tl
  (tn (tl (tr (tr (.nd .lf (.row [(.nat .i64 1),(.nat .i64 0),(.str [48]),(.nat .i64 3),(.nat .i64 1),(.nat .i64 0),(.str [48]),(.nat .i64 4)] 8 158 true 0 0 0)
  .lf)))) (tl (tr (tr (tl (.nd .lf (.row [(.str [48]),(.so k5802 32 0 8 0),(.str [48]),(.so k5823 24 0 6 0),(.str []),(.so k5839 8 0 2 0),(.str [48]),(.so k5847
  24 0 6 0),(.str []),(.so k5863 8 0 2 0),(.str [48]),(.so k5872 24 0 6 0),(.str []),(.so k5890 4 0 1 0)] 14 163 true 0 0 0) .lf)))))))))) (tl (tn (tr (tl (tl
  (tl (tr (tr (.nd .lf (.row [(.nat .i64 2),(.nat .i64 2),(.str [48]),(.nat .i64 1),(.nat .i64 3),(.nat .i64 3),(.str [48]),(.nat .i64 1),(.nat .i64 4),(.nat
  .i64 4),(.str [48]),(.nat .i64 1),(.nat .i64 0),(.nat .i64 4),(.str [48]),(.nat .i64 2)] 16 158 true 0 0 0) .lf))))))) (tr (tl (tl (tl (tr (tl (tl (tl (.nd
  .lf (.row [(.nat .i64 1),(.nat .i64 1),(.str [48]),(.nat .i64 2),(.nat .i64 2),(.nat .i64 2),(.str [48]),(.nat .i64 2),(.nat .i64 3),(.nat .i64 3),(.str
  [48]),(.nat .i64 2),(.nat .i64 4),(.nat .i64 4),(.str [48]),(.nat .i64 2)] 16 158 true 0 0 0) .lf))))))))))))) (tn (tn (tn (tn (tn (tl (tl (tr (tl (.nd .lf
  (.row [(.nat .i64 1),(.nat .i64 0),(.str [48]),(.nat .i64 1)] 4 158 true 0 0 0) .lf))))) (tl (tl (tl (tr (tr (.nd .lf (.row [(.str [48]),(.so k3609 16 0 4
  0),(.str [48]),(.so k3622 16 0 4 0),(.str []),(.so k3634 8 0 2 0),(.str []),(.so k3642 8 0 2 0),(.str [48]),(.so k3650 12 0 3 0)] 10 163 true 0 0 0)
  .lf))))))) (tr (tl (tl (tl (tr (tl (tl (tl (.nd .lf (.row [(.str []),(.so k8751 4 0 1 0),(.str [48]),(.so k8758 16 0 4 0),(.str []),(.so k8770 4 0 1 0)] 6 163
  true 0 0 0) .lf)))))))))) (tn (tl (tr (tl (tl (tr (tr (.nd .lf (.row [(.nat .i64 1),(.nat .i64 0),(.str [48]),(.so k3617 10 0 5 0)] 4 24 false 0 0 0)
  .lf))))))) (tl (tl (tl (tl (tr (tr (.nd .lf (.row [(.nat .i64 2),(.nat .i64 2),(.str [48]),(.nat .i64 1),(.nat .i64 3),(.nat .i64 3),(.str [48]),(.nat .i64
  1),(.nat .i64 4),(.nat .i64 4),(.str [48]),(.nat .i64 1),(.nat .i64 0),(.nat .i64 4),(.str [48]),(.nat .i64 2)] 16 158 true 0 0 0) .lf))))))))) (tn (tl (tn
  (tr (tl (tl (tr (tl (tl (tl (.nd .lf (.row [(.nat .i64 1),(.nat .i64 1)] 2 3 false 0 0 0) .lf)))))))) (tl (tl (tl (tl (tr (tr (.nd .lf (.row [(.nat .i64
  1),(.nat .i64 0),(.str [48]),(.so k7179 8 0 4 0)] 4 24 false 0 0 0) .lf))))))))) (tn (tr (tr (tr (tl (tl (.nd .lf (.row [(.str [48]),(.so k1251 20 0 5
  0),(.str [48]),(.so k1266 20 0 5 0),(.str []),(.so k1281 4 0 1 0)] 6 163 true 0 0 0) .lf)))))) (tl (tl (tl (tl (tl (tr (tr (.nd .lf (.row [(.nat .i64 1),(.nat
  .i64 1),(.str [48]),(.nat .i64 3)] 4 158 true 0 0 0) .lf))))))))))) (tn (tn (tl (tn (tl (tl (tn (tl (tr (tr (.nd .lf (.row [(.nat .i64 2),(.nat .i64 2),(.str
  [48]),(.nat .i64 1),(.nat .i64 3),(.nat .i64 3),(.str [48]),(.nat .i64 1),(.nat .i64 4),(.nat .i64 4),(.str [48]),(.nat .i64 1),(.nat .i64 0),(.nat .i64
  2),(.str [48]),(.nat .i64 2)] 16 158 true 0 0 0) .lf)))) (tl (.nd .lf (.row [(.nat .i64 1),(.nat .i64 0),(.str [48]),(.so k1261 6 0 3 0)] 4 24 false 0 0 0)
  .lf))))) (tn (tl (tl (tl (tr (tr (.nd .lf (.row [(.nat .i64 0),(.nat .i64 3),(.str [48]),(.nat .i64 1)] 4 158 true 0 0 0) .lf)))))) (tr (tl (tl (.nd .lf (.row
  [(.nat .i64 1),(.nat .i64 1),(.str [48]),(.nat .i64 1),(.nat .i64 2),(.nat .i64 2),(.str [48]),(.nat .i64 1),(.nat .i64 3),(.nat .i64 3),(.str [48]),(.nat
  .i64 1),(.nat .i64 4),(.nat .i64 4),(.str [48]),(.nat .i64 1),(.nat .i64 0),(.nat .i64 2),(.str [48]),(.nat .i64 2)] 20 158 true 0 0 0) .lf))))))) (tl (tl (tl
  (tl (tl (tl (tr (tr (.nd .lf (.row [(.str [48]),(.so k7171 16 0 4 0),(.str [48]),(.so k7184 16 0 4 0),(.str []),(.so k7197 4 0 1 0),(.str []),(.so k7203 4 0 1
  0)] 8 163 true 0 0 0) .lf)))))))))) (tn (tn (tr (tr (tr (tl (tr (tr (tl (.nd .lf (.row [(.nat .i64 3),(.nat .i64 3),(.str [48]),(.nat .i64 1),(.nat .i64
  3),(.nat .i64 3),(.str [48]),(.nat .i64 2)] 8 158 true 0 0 0) .lf)))))))) (tl (tr (tr (tl (tr (tr (tl (.nd .lf (.row [(.nat .i64 1),(.nat .i64 1),(.str
  [48]),(.nat .i64 5),(.nat .i64 2),(.nat .i64 2),(.str [48]),(.nat .i64 3),(.nat .i64 2),(.nat .i64 2),(.str [48]),(.nat .i64 4),(.nat .i64 4),(.nat .i64
  4),(.str [48]),(.nat .i64 1),(.nat .i64 4),(.nat .i64 4),(.str [48]),(.nat .i64 2),(.nat .i64 0),(.nat .i64 4),(.str [48]),(.nat .i64 6)] 24 158 true 0 0 0)
  .lf))))))))) (tn (tn (tr (tr (tl (tr (tr (tl (.nd .lf (.row [(.nat .i64 3),(.nat .i64 3),(.str [48]),(.nat .i64 1),(.nat .i64 3),(.nat .i64 3),(.str
  [48]),(.nat .i64 2)] 8 158 true 0 0 0) .lf))))))) (tl (tl (tl (tr (tl (tl (tl (.nd .lf (.row [(.nat .i64 5),(.nat .i64 5),(.str [48]),(.nat .i64 1)] 4 158
  true 0 0 0) .lf))))))))) (tr (tl (tr (tl (tr (tr (tl (.nd .lf (.row [(.nat .i64 1),(.nat .i64 1),(.str [48]),(.nat .i64 1),(.nat .i64 1),(.nat .i64 1),(.str
  [48]),(.nat .i64 2),(.nat .i64 2),(.nat .i64 2),(.str [48]),(.nat .i64 3),(.nat .i64 2),(.nat .i64 2),(.str [48]),(.nat .i64 4),(.nat .i64 4),(.nat .i64
  4),(.str [48]),(.nat .i64 1),(.nat .i64 4),(.nat .i64 4),(.str [48]),(.nat .i64 2)] 24 158 true 0 0 0) .lf))))))))))))), k10549⟩⟩
def hk8 : Hook := ⟨17, [(.ls 0 [(.nat .i64 1),(.nat .i64 0),(.str [48]),(.so k3617 10 0 5 0)]),(.sl k10823 0 0 4 4),(.sl k10824 0 0 3 3),(.bool true)], ⟨(tn (tn
  (tn (tn (tr (tn (tl (tl (tl (tl (tr (tr (.nd .lf (.row [(.nat .i64 2),(.nat .i64 2),(.str [48]),(.nat .i64 1),(.nat .i64 3),(.nat .i64 3),(.str [48]),(.nat
  .i64 1),(.nat .i64 4),(.nat .i64 4),(.str [48]),(.nat .i64 1),(.nat .i64 0),(.nat .i64 2),(.str [48]),(.nat .i64 2)] 16 158 true 0 0 0) .lf))))))) (tr (tr (tl
  (tr (tr (tl (.nd .lf (.row [(.nat .i64 1),(.nat .i64 1),(.str [48]),(.nat .i64 1),(.nat .i64 1),(.nat .i64 1),(.str [48]),(.nat .i64 2),(.nat .i64 2),(.nat
  .i64 2),(.str [48]),(.nat .i64 3),(.nat .i64 2),(.nat .i64 2),(.str [48]),(.nat .i64 4),(.nat .i64 4),(.nat .i64 4),(.str [48]),(.nat .i64 1),(.nat .i64
  4),(.nat .i64 4),(.str [48]),(.nat .i64 2)] 24 158 true 0 0 0) .lf))))))))) (tl (tl (tr (tl (tl (tr (tl (tr (tl (.nd .lf (.row [(.nat .i64 4),(.nat .i64
  2),(.nat .i64 4)] 3 3 false 0 0 0) .lf))))))))))) (tl (tl (tl (tn (tl (tr (tr (tr (tl (.nd .lf (.row [(.nat .i64 1),(.nat .i64 0),(.str [48]),(.so k5818 14 0
  7 0)] 4 24 false 0 0 0) .lf)))))) (tl (tl (tr (tl (tl (tl (.nd .lf (.row [(.nat .i64 1),(.nat .i64 0),(.str [48]),(.so k8753 6 0 3 0)] 4 24 false 0 0 0)
  .lf)))))))))))) (tn (tn (tn (tl (tn (tl (tr (tr (tr (tl (.nd .lf (.row [(.nat .i64 1),(.nat .i64 0),(.str [48]),(.nat .i64 2)] 4 158 true 0 0 0) .lf)))))) (tl
  (tl (tr (tn (tl (tl (.nd .lf (.row [(.nat .i64 5),(.nat .i64 5),(.str [48]),(.nat .i64 1)] 4 158 true 0 0 0) .lf))) (.nd .lf (.row [(.nat .i64 2),(.nat .i64
  2),(.str [48]),(.nat .i64 1),(.nat .i64 3),(.nat .i64 3),(.str [48]),(.nat .i64 1),(.nat .i64 4),(.nat .i64 4),(.str [48]),(.nat .i64 1)] 12 158 true 0 0 0)
  .lf))))))) (tr (tl (tl (tl (tr (tr (.nd .lf (.row [(.nat .i64 1),(.nat .i64 0),(.str [48]),(.nat .i64 3),(.nat .i64 1),(.nat .i64 0),(.str [48]),(.nat .i64
  4)] 8 158 true 0 0 0) .lf)))))))) (tn (tr (tl (tr (tl (tr (tr (tl (.nd .lf (.row [(.nat .i64 1),(.nat .i64 1),(.str [48]),(.nat .i64 1),(.nat .i64 1),(.nat
  .i64 1),(.str [48]),(.nat .i64 2),(.nat .i64 2),(.nat .i64 2),(.str [48]),(.nat .i64 3),(.nat .i64 2),(.nat .i64 2),(.str [48]),(.nat .i64 4),(.nat .i64
  4),(.nat .i64 4),(.str [48]),(.nat .i64 1),(.nat .i64 4),(.nat .i64 4),(.str [48]),(.nat .i64 2),(.nat .i64 3),(.nat .i64 3),(.str [48]),(.nat .i64 1),(.nat
  .i64 3),(.nat .i64 3),(.str [48]),(.nat .i64 2)] 32 158 true 0 0 0) .lf)))))))) (tr (tl (tn (tl (tr (tr (.nd .lf (.row [(.nat .i64 1),(.nat .i64 0),(.str
  [48]),(.nat .i64 3),(.nat .i64 1),(.nat .i64 0),(.str [48]),(.nat .i64 4)] 8 158 true 0 0 0) .lf)))) (tl (tr (tr (tl (.nd .lf (.row [(.str [48]),(.so k5802 32
  0 8 0),(.str [48]),(.so k5823 24 0 6 0),(.str []),(.so k5839 8 0 2 0),(.str [48]),(.so k5847 24 0 6 0),(.str []),(.so k5863 8 0 2 0),(.str [48]),(.so k5872 24
  0 6 0),(.str []),(.so k5890 4 0 1 0)] 14 163 true 0 0 0) .lf)))))))))) (tl (tn (tr (tl (tl (tl (tr (tr (.nd .lf (.row [(.nat .i64 2),(.nat .i64 2),(.str
  [48]),(.nat .i64 1),(.nat .i64 3),(.nat .i64 3),(.str [48]),(.nat .i64 1),(.nat .i64 4),(.nat .i64 4),(.str [48]),(.nat .i64 1),(.nat .i64 0),(.nat .i64
  4),(.str [48]),(.nat .i64 2)] 16 158 true 0 0 0) .lf))))))) (tr (tl (tl (tl (tr (tl (tl (tl (.nd .lf (.row [(.nat .i64 1),(.nat .i64 1),(.str [48]),(.nat .i64
  2),(.nat .i64 2),(.nat .i64 2),(.str [48]),(.nat .i64 2),(.nat .i64 3),(.nat .i64 3),(.str [48]),(.nat .i64 2),(.nat .i64 4),(.nat .i64 4),(.str [48]),(.nat
  .i64 2)] 16 158 true 0 0 0) .lf))))))))))))) (tn (tn (tn (tn (tr (tl (tl (tl (tr (tr (.nd .lf (.row [(.str [48]),(.so k3609 16 0 4 0),(.str [48]),(.so k3622
  16 0 4 0),(.str []),(.so k3634 8 0 2 0),(.str []),(.so k3642 8 0 2 0),(.str [48]),(.so k3650 12 0 3 0)] 10 163 true 0 0 0) .lf))))))) (tr (tl (tl (tl (tr (tl
  (tl (tl (.nd .lf (.row [(.str []),(.so k8751 4 0 1 0),(.str [48]),(.so k8758 16 0 4 0),(.str []),(.so k8770 4 0 1 0)] 6 163 true 0 0 0) .lf)))))))))) (tn (tl
  (tr (tl (tl (tr (tr (.nd .lf (.row [(.nat .i64 1),(.nat .i64 0),(.str [48]),(.so k3617 10 0 5 0)] 4 24 false 0 0 0) .lf))))))) (tl (tl (tl (tl (tr (tr (.nd
  .lf (.row [(.nat .i64 2),(.nat .i64 2),(.str [48]),(.nat .i64 1),(.nat .i64 3),(.nat .i64 3),(.str [48]),(.nat .i64 1),(.nat .i64 4),(.nat .i64 4),(.str
  [48]),(.nat .i64 1),(.nat .i64 0),(.nat .i64 4),(.str [48]),(.nat .i64 2)] 16 158 true 0 0 0) .lf))))))))) (tn (tl (tn (tr (tl (tl (tr (tl (tl (tl (.nd .lf
  (.row [(.nat .i64 1),(.nat .i64 1)] 2 3 false 0 0 0) .lf)))))))) (tl (tl (tl (tl (tr (tr (.nd .lf (.row [(.nat .i64 1),(.nat .i64 0),(.str [48]),(.so k7179 8
  0 4 0)] 4 24 false 0 0 0) .lf))))))))) (tr (tl (tl (tl (tl (tl (tr (tr (.nd .lf (.row [(.nat .i64 1),(.nat .i64 1),(.str [48]),(.nat .i64 3)] 4 158 true 0 0
  0) .lf))))))))))) (tn (tn (tl (tn (tl (tl (tl (tl (tr (tr (.nd .lf (.row [(.nat .i64 2),(.nat .i64 2),(.str [48]),(.nat .i64 1),(.nat .i64 3),(.nat .i64
  3),(.str [48]),(.nat .i64 1),(.nat .i64 4),(.nat .i64 4),(.str [48]),(.nat .i64 1),(.nat .i64 0),(.nat .i64 2),(.str [48]),(.nat .i64 2)] 16 158 true 0 0 0)
  .lf))))))) (tl (tl (tl (tl (tr (tr (.nd .lf (.row [(.nat .i64 0),(.nat .i64 3),(.str [48]),(.nat .i64 1)] 4 158 true 0 0 0) .lf))))))))) (tl (tl (tl (tl (tl
  (tl (tr (tr (.nd .lf (.row [(.str [48]),(.so k7171 16 0 4 0),(.str [48]),(.so k7184 16 0 4 0),(.str []),(.so k7197 4 0 1 0),(.str []),(.so k7203 4 0 1 0)] 8
  163 true 0 0 0) .lf)))))))))) (tn (tn (tn (tr (tl (tl (tr (tl (tr (tl (.nd .lf (.row [(.nat .i64 1),(.nat .i64 1),(.nat .i64 2),(.nat .i64 1)] 4 3 false 0 0
  0) .lf)))))))) (tr (tr (tl (tr (tr (tl (.nd .lf (.row [(.nat .i64 3),(.nat .i64 3),(.str [48]),(.nat .i64 1),(.nat .i64 3),(.nat .i64 3),(.str [48]),(.nat
  .i64 2)] 8 158 true 0 0 0) .lf)))))))) (tl (tr (tr (tl (tr (tr (tl (.nd .lf (.row [(.nat .i64 1),(.nat .i64 1),(.str [48]),(.nat .i64 5),(.nat .i64 2),(.nat
  .i64 2),(.str [48]),(.nat .i64 3),(.nat .i64 2),(.nat .i64 2),(.str [48]),(.nat .i64 4),(.nat .i64 4),(.nat .i64 4),(.str [48]),(.nat .i64 1),(.nat .i64
  4),(.nat .i64 4),(.str [48]),(.nat .i64 2),(.nat .i64 0),(.nat .i64 4),(.str [48]),(.nat .i64 6)] 24 158 true 0 0 0) .lf))))))))) (tn (tn (tr (tr (tl (tr (tr
  (tl (.nd .lf (.row [(.nat .i64 3),(.nat .i64 3),(.str [48]),(.nat .i64 1),(.nat .i64 3),(.nat .i64 3),(.str [48]),(.nat .i64 2)] 8 158 true 0 0 0) .lf)))))))
  (tl (tl (tl (tr (tl (tl (tl (.nd .lf (.row [(.nat .i64 5),(.nat .i64 5),(.str [48]),(.nat .i64 1)] 4 158 true 0 0 0) .lf))))))))) (tr (tl (tr (tl (tr (tr (tl
  (.nd .lf (.row [(.nat .i64 1),(.nat .i64 1),(.str [48]),(.nat .i64 1),(.nat .i64 1),(.nat .i64 1),(.str [48]),(.nat .i64 2),(.nat .i64 2),(.nat .i64 2),(.str
  [48]),(.nat .i64 3),(.nat .i64 2),(.nat .i64 2),(.str [48]),(.nat .i64 4),(.nat .i64 4),(.nat .i64 4),(.str [48]),(.nat .i64 1),(.nat .i64 4),(.nat .i64
  4),(.str [48]),(.nat .i64 2)] 24 158 true 0 0 0) .lf))))))))))))), k10825⟩, (.bool true), ⟨(tn (tn (tn (tl (tr (tn (tl (tl (tl (tl (tr (tr (.nd .lf (.row
  [(.nat .i64 2),(.nat .i64 2),(.str [48]),(.nat .i64 1),(.nat .i64 3),(.nat .i64 3),(.str [48]),(.nat .i64 1),(.nat .i64 4),(.nat .i64 4),(.str [48]),(.nat
  .i64 1),(.nat .i64 0),(.nat .i64 2),(.str [48]),(.nat .i64 2)] 16 158 true 0 0 0) .lf))))))) (tr (tr (tl (tr (tr (tl (.nd .lf (.row [(.nat .i64 1),(.nat .i64
  1),(.str [48]),(.nat .i64 1),(.nat .i64 1),(.nat .i64 1),(.str [48]),(.nat .i64 2),(.nat .i64 2),(.nat .i64 2),(.str [48]),(.nat .i64 3),(.nat .i64 2),(.nat
  .i64 2),(.str [48]),(.nat .i64 4),(.nat .i64 4),(.nat .i64 4),(.str [48]),(.nat .i64 1),(.nat .i64 4),(.nat .i64 4),(.str [48]),(.nat .i64 2)] 24 158 true 0 0
  0) .lf)))))))))) (tl (tl (tl (tn (tl (tr (tr (tr (tl (.nd .lf (.row [(.nat .i64 1),(.nat .i64 0),(.str [48]),(.so k5818 14 0 7 0)] 4 24 false 0 0 0) .lf))))))
  (tl (tl (tr (tl (tl (tl (.nd .lf (.row [(.nat .i64 1),(.nat .i64 0),(.str [48]),(.so k8753 6 0 3 0)] 4 24 false 0 0 0) .lf)))))))))))) (tn (tn (tn (tl (tn (tl
  (tr (tr (tr (tl (.nd .lf (.row [(.nat .i64 1),(.nat .i64 0),(.str [48]),(.nat .i64 2)] 4 158 true 0 0 0) .lf)))))) (tl (tl (tr (tn (tl (tl (.nd .lf (.row
  [(.nat .i64 5),(.nat .i64 5),(.str [48]),(.nat .i64 1)] 4 158 true 0 0 0) .lf))) (.nd .lf (.row [(.nat .i64 2),(.nat .i64 2),(.str [48]),(.nat .i64 1),(.nat
  .i64 3),(.nat .i64 3),(.str [48]),(.nat .i64 1),(.nat .i64 4),(.nat .i64 4),(.str [48]),(.nat .i64 1)] 12 158 true 0 0 0) .lf))))))) (tr (tl (tl (tl (tr (tr
  (.nd .lf (.row [(.nat .i64 1),(.nat .i64 0),(.str [48]),(.nat .i64 3),(.nat .i64 1),(.nat .i64 0),(.str [48]),(.nat .i64 4)] 8 158 true 0 0 0) .lf)))))))) (tn
  (tr (tl (tr (tl (tr (tr (tl (.nd .lf (.row [(.nat .i64 1),(.nat .i64 1),(.str [48]),(.nat .i64 1),(.nat .i64 1),(.nat .i64 1),(.str [48]),(.nat .i64 2),(.nat
  .i64 2),(.nat .i64 2),(.str [48]),(.nat .i64 3),(.nat .i64 2),(.nat .i64 2),(.str [48]),(.nat .i64 4),(.nat .i64 4),(.nat .i64 4),(.str [48]),(.nat .i64
  1),(.nat .i64 4),(.nat .i64 4),(.str [48]),(.nat .i64 2),(.nat .i64 3),(.nat .i64 3),(.str [48]),(.nat .i64 1),(.nat .i64 3),(.nat .i64 3),(.str [48]),(.nat
  .i64 2)] 32 158 true 0 0 0) .lf)))))))) (tr (tl (tn (tl (tr (tr (.nd .lf (.row [(.nat .i64 1),(.nat .i64 0),(.str [48]),(.nat .i64 3),(.nat .i64 1),(.nat .i64
  0),(.str [48]),(.nat .i64 4)] 8 158 true 0 0 0) .lf)))) (tl (tr (tr (tl (.nd .lf (.row [(.str [48]),(.so k5802 32 0 8 0),(.str [48]),(.so k5823 24 0 6
  0),(.str []),(.so k5839 8 0 2 0),(.str [48]),(.so k5847 24 0 6 0),(.str []),(.so k5863 8 0 2 0),(.str [48]),(.so k5872 24 0 6 0),(.str []),(.so k5890 4 0 1
  0)] 14 163 true 0 0 0) .lf)))))))))) (tl (tn (tr (tl (tl (tl (tr (tr (.nd .lf (.row [(.nat .i64 2),(.nat .i64 2),(.str [48]),(.nat .i64 1),(.nat .i64 3),(.nat
  .i64 3),(.str [48]),(.nat .i64 1),(.nat .i64 4),(.nat .i64 4),(.str [48]),(.nat .i64 1),(.nat .i64 0),(.nat .i64 4),(.str [48]),(.nat .i64 2)] 16 158 true 0 0
  0) .lf))))))) (tr (tl (tl (tl (tr (tl (tl (tl (.nd .lf (.row [(.nat .i64 1),(.nat .i64 1),(.str [48]),(.nat .i64 2),(.nat .i64 2),(.nat .i64 2),(.str
  [48]),(.nat .i64 2),(.nat .i64 3),(.nat .i64 3),(.str [48]),(.nat .i64 2),(.nat .i64 4),(.nat .i64 4),(.str [48]),(.nat .i64 2)] 16 158 true 0 0 0)
  .lf))))))))))))) (tn (tn (tn (tn (tr (tl (tl (tl (tr (tr (.nd .lf (.row [(.str [48]),(.so k3609 16 0 4 0),(.str [48]),(.so k3622 16 0 4 0),(.str []),(.so
  k3634 8 0 2 0),(.str []),(.so k3642 8 0 2 0),(.str [48]),(.so k3650 12 0 3 0)] 10 163 true 0 0 0) .lf))))))) (tr (tl (tl (tl (tr (tl (tl (tl (.nd .lf (.row
  [(.str []),(.so k8751 4 0 1 0),(.str [48]),(.so k8758 16 0 4 0),(.str []),(.so k8770 4 0 1 0)] 6 163 true 0 0 0) .lf)))))))))) (tn (tl (tr (tl (tl (tr (tr
  (.nd .lf (.row [(.nat .i64 1),(.nat .i64 0),(.str [48]),(.so k3617 10 0 5 0)] 4 24 false 0 0 0) .lf))))))) (tl (tl (tl (tl (tr (tr (.nd .lf (.row [(.nat .i64
  2),(.nat .i64 2),(.str [48]),(.nat .i64 1),(.nat .i64 3),(.nat .i64 3),(.str [48]),(.nat .i64 1),(.nat .i64 4),(.nat .i64 4),(.str [48]),(.nat .i64 1),(.nat
  .i64 0),(.nat .i64 4),(.str [48]),(.nat .i64 2)] 16 158 true 0 0 0) .lf))))))))) (tn (tl (tn (tr (tl (tl (tr (tl (tl (tl (.nd .lf (.row [(.nat .i64 1),(.nat
  .i64 1)] 2 3 false 0 0 0) .lf)))))))) (tl (tl (tl (tl (tr (tr (.nd .lf (.row [(.nat .i64 1),(.nat .i64 0),(.str [48]),(.so k7179 8 0 4 0)] 4 24 false 0 0 0)
  .lf))))))))) (tr (tl (tl (tl (tl (tl (tr (tr (.nd .lf (.row [(.nat .i64 1),(.nat .i64 1),(.str [48]),(.nat .i64 3)] 4 158 true 0 0 0) .lf))))))))))) (tn (tn
  (tl (tn (tl (tl (tl (tl (tr (tr (.nd .lf (.row [(.nat .i64 2),(.nat .i64 2),(.str [48]),(.nat .i64 1),(.nat .i64 3),(.nat .i64 3),(.str [48]),(.nat .i64
  1),(.nat .i64 4),(.nat .i64 4),(.str [48]),(.nat .i64 1),(.nat .i64 0),(.nat .i64 2),(.str [48]),(.nat .i64 2)] 16 158 true 0 0 0) .lf))))))) (tl (tl (tl (tl
  (tr (tr (.nd .lf (.row [(.nat .i64 0),(.nat .i64 3),(.str [48]),(.nat .i64 1)] 4 158 true 0 0 0) .lf))))))))) (tl (tl (tl (tl (tl (tl (tr (tr (.nd .lf (.row
  [(.str [48]),(.so k7171 16 0 4 0),(.str [48]),(.so k7184 16 0 4 0),(.str []),(.so k7197 4 0 1 0),(.str []),(.so k7203 4 0 1 0)] 8 163 true 0 0 0)
  .lf)))))))))) (tn (tn (tr (tr (tr (tl (tr (tr (tl (.nd .lf (.row [(.nat .i64 3),(.nat .i64 3),(.str [48]),(.nat .i64 1),(.nat .i64 3),(.nat .i64 3),(.str
  [48]),(.nat .i64 2)] 8 158 true 0 0 0) .lf)))))))) (tl (tr (tr (tl (tr (tr (tl (.nd .lf (.row [(.nat .i64 1),(.nat .i64 1),(.str [48]),(.nat .i64 5),(.nat
  .i64 2),(.nat .i64 2),(.str [48]),(.nat .i64 3),(.nat .i64 2),(.nat .i64 2),(.str [48]),(.nat .i64 4),(.nat .i64 4),(.nat .i64 4),(.str [48]),(.nat .i64
  1),(.nat .i64 4),(.nat .i64 4),(.str [48]),(.nat .i64 2),(.nat .i64 0),(.nat .i64 4),(.str [48]),(.nat .i64 6)] 24 158 true 0 0 0) .lf))))))))) (tn (tn (tr
  (tr (tl (tr (tr (tl (.nd .lf (.row [(.nat .i64 3),(.nat .i64 3),(.str [48]),(.nat .i64 1),(.nat .i64 3),(.nat .i64 3),(.str [48]),(.nat .i64 2)] 8 158 true 0
  0 0) .lf))))))) (tl (tl (tl (tr (tl (tl (tl (.nd .lf (.row [(.nat .i64 5),(.nat .i64 5),(.str [48]),(.nat .i64 1)] 4 158 true 0 0 0) .lf))))))))) (tr (tl (tr
  (tl (tr (tr (tl (.nd .lf (.row [(.nat .i64 1),(.nat .i64 1),(.str [48]),(.nat .i64 1),(.nat .i64 1),(.nat .i64 1),(.str [48]),(.nat .i64 2),(.nat .i64
  2),(.nat .i64 2),(.str [48]),(.nat .i64 3),(.nat .i64 2),(.nat .i64 2),(.str [48]),(.nat .i64 4),(.nat .i64 4),(.nat .i64 4),(.str [48]),(.nat .i64 1),(.nat
  .i64 4),(.nat .i64 4),(.str [48]),(.nat .i64 2)] 24 158 true 0 0 0) .lf))))))))))))), k11847⟩⟩
def hk9 : Hook := ⟨17, [(.ls 0 [(.nat .i64 1),(.nat .i64 0),(.str [48]),(.so k3617 10 0 5 0)]),(.sl k8773 0 0 2 2),(.sl k11847 0 0 2 2),(.bool false)], ⟨(tn (tn
  (tn (tl (tr (tn (tl (tl (tl (tl (tr (tr (.nd .lf (.row [(.nat .i64 2),(.nat .i64 2),(.str [48]),(.nat .i64 1),(.nat .i64 3),(.nat .i64 3),(.str [48]),(.nat
  .i64 1),(.nat .i64 4),(.nat .i64 4),(.str [48]),(.nat .i64 1),(.nat .i64 0),(.nat .i64 2),(.str [48]),(.nat .i64 2)] 16 158 true 0 0 0) .lf))))))) (tr (tr (tl
  (tr (tr (tl (.nd .lf (.row [(.nat .i64 1),(.nat .i64 1),(.str [48]),(.nat .i64 1),(.nat .i64 1),(.nat .i64 1),(.str [48]),(.nat .i64 2),(.nat .i64 2),(.nat
  .i64 2),(.str [48]),(.nat .i64 3),(.nat .i64 2),(.nat .i64 2),(.str [48]),(.nat .i64 4),(.nat .i64 4),(.nat .i64 4),(.str [48]),(.nat .i64 1),(.nat .i64
  4),(.nat .i64 4),(.str [48]),(.nat .i64 2)] 24 158 true 0 0 0) .lf)))))))))) (tl (tl (tl (tn (tl (tr (tr (tr (tl (.nd .lf (.row [(.nat .i64 1),(.nat .i64
  0),(.str [48]),(.so k5818 14 0 7 0)] 4 24 false 0 0 0) .lf)))))) (tl (tl (tr (tl (tl (tl (.nd .lf (.row [(.nat .i64 1),(.nat .i64 0),(.str [48]),(.so k8753 6
  0 3 0)] 4 24 false 0 0 0) .lf)))))))))))) (tn (tn (tn (tl (tn (tl (tr (tr (tr (tl (.nd .lf (.row [(.nat .i64 1),(.nat .i64 0),(.str [48]),(.nat .i64 2)] 4 158
  true 0 0 0) .lf)))))) (tl (tl (tr (tn (tl (tl (.nd .lf (.row [(.nat .i64 5),(.nat .i64 5),(.str [48]),(.nat .i64 1)] 4 158 true 0 0 0) .lf))) (.nd .lf (.row
  [(.nat .i64 2),(.nat .i64 2),(.str [48]),(.nat .i64 1),(.nat .i64 3),(.nat .i64 3),(.str [48]),(.nat .i64 1),(.nat .i64 4),(.nat .i64 4),(.str [48]),(.nat
  .i64 1)] 12 158 true 0 0 0) .lf))))))) (tr (tl (tl (tl (tr (tr (.nd .lf (.row [(.nat .i64 1),(.nat .i64 0),(.str [48]),(.nat .i64 3),(.nat .i64 1),(.nat .i64
  0),(.str [48]),(.nat .i64 4)] 8 158 true 0 0 0) .lf)))))))) (tn (tr (tl (tr (tl (tr (tr (tl (.nd .lf (.row [(.nat .i64 1),(.nat .i64 1),(.str [48]),(.nat .i64
  1),(.nat .i64 1),(.nat .i64 1),(.str [48]),(.nat .i64 2),(.nat .i64 2),(.nat .i64 2),(.str [48]),(.nat .i64 3),(.nat .i64 2),(.nat .i64 2),(.str [48]),(.nat
  .i64 4),(.nat .i64 4),(.nat .i64 4),(.str [48]),(.nat .i64 1),(.nat .i64 4),(.nat .i64 4),(.str [48]),(.nat .i64 2),(.nat .i64 3),(.nat .i64 3),(.str
  [48]),(.nat .i64 1),(.nat .i64 3),(.nat .i64 3),(.str [48]),(.nat .i64 2)] 32 158 true 0 0 0) .lf)))))))) (tr (tl (tn (tl (tr (tr (.nd .lf (.row [(.nat .i64
  1),(.nat .i64 0),(.str [48]),(.nat .i64 3),(.nat .i64 1),(.nat .i64 0),(.str [48]),(.nat .i64 4)] 8 158 true 0 0 0) .lf)))) (tl (tr (tr (tl (.nd .lf (.row
  [(.str [48]),(.so k5802 32 0 8 0),(.str [48]),(.so k5823 24 0 6 0),(.str []),(.so k5839 8 0 2 0),(.str [48]),(.so k5847 24 0 6 0),(.str []),(.so k5863 8 0 2
  0),(.str [48]),(.so k5872 24 0 6 0),(.str []),(.so k5890 4 0 1 0)] 14 163 true 0 0 0) .lf)))))))))) (tl (tn (tr (tl (tl (tl (tr (tr (.nd .lf (.row [(.nat .i64
  2),(.nat .i64 2),(.str [48]),(.nat .i64 1),(.nat .i64 3),(.nat .i64 3),(.str [48]),(.nat .i64 1),(.nat .i64 4),(.nat .i64 4),(.str [48]),(.nat .i64 1),(.nat
  .i64 0),(.nat .i64 4),(.str [48]),(.nat .i64 2)] 16 158 true 0 0 0) .lf))))))) (tr (tl (tl (tl (tr (tl (tl (tl (.nd .lf (.row [(.nat .i64 1),(.nat .i64
  1),(.str [48]),(.nat .i64 2),(.nat .i64 2),(.nat .i64 2),(.str [48]),(.nat .i64 2),(.nat .i64 3),(.nat .i64 3),(.str [48]),(.nat .i64 2),(.nat .i64 4),(.nat
  .i64 4),(.str [48]),(.nat .i64 2)] 16 158 true 0 0 0) .lf))))))))))))) (tn (tn (tn (tn (tr (tl (tl (tl (tr (tr (.nd .lf (.row [(.str [48]),(.so k3609 16 0 4
  0),(.str [48]),(.so k3622 16 0 4 0),(.str []),(.so k3634 8 0 2 0),(.str []),(.so k3642 8 0 2 0),(.str [48]),(.so k3650 12 0 3 0)] 10 163 true 0 0 0)
  .lf))))))) (tr (tl (tl (tl (tr (tl (tl (tl (.nd .lf (.row [(.str []),(.so k8751 4 0 1 0),(.str [48]),(.so k8758 16 0 4 0),(.str []),(.so k8770 4 0 1 0)] 6 163
  true 0 0 0) .lf)))))))))) (tr (tl (tl (tl (tl (tr (tr (.nd .lf (.row [(.nat .i64 2),(.nat .i64 2),(.str [48]),(.nat .i64 1),(.nat .i64 3),(.nat .i64 3),(.str
  [48]),(.nat .i64 1),(.nat .i64 4),(.nat .i64 4),(.str [48]),(.nat .i64 1),(.nat .i64 0),(.nat .i64 4),(.str [48]),(.nat .i64 2)] 16 158 true 0 0 0)
  .lf))))))))) (tn (tl (tn (tr (tl (tl (tr (tl (tl (tl (.nd .lf (.row [(.nat .i64 1),(.nat .i64 1)] 2 3 false 0 0 0) .lf)))))))) (tl (tl (tl (tl (tr (tr (.nd
  .lf (.row [(.nat .i64 1),(.nat .i64 0),(.str [48]),(.so k7179 8 0 4 0)] 4 24 false 0 0 0) .lf))))))))) (tr (tl (tl (tl (tl (tl (tr (tr (.nd .lf (.row [(.nat
  .i64 1),(.nat .i64 1),(.str [48]),(.nat .i64 3)] 4 158 true 0 0 0) .lf))))))))))) (tn (tn (tl (tn (tl (tl (tl (tl (tr (tr (.nd .lf (.row [(.nat .i64 2),(.nat
  .i64 2),(.str [48]),(.nat .i64 1),(.nat .i64 3),(.nat .i64 3),(.str [48]),(.nat .i64 1),(.nat .i64 4),(.nat .i64 4),(.str [48]),(.nat .i64 1),(.nat .i64
  0),(.nat .i64 2),(.str [48]),(.nat .i64 2)] 16 158 true 0 0 0) .lf))))))) (tl (tl (tl (tl (tr (tr (.nd .lf (.row [(.nat .i64 0),(.nat .i64 3),(.str
  [48]),(.nat .i64 1)] 4 158 true 0 0 0) .lf))))))))) (tl (tl (tl (tl (tl (tl (tr (tr (.nd .lf (.row [(.str [48]),(.so k7171 16 0 4 0),(.str [48]),(.so k7184 16
  0 4 0),(.str []),(.so k7197 4 0 1 0),(.str []),(.so k7203 4 0 1 0)] 8 163 true 0 0 0) .lf)))))))))) (tn (tn (tn (tr (tl (tl (tr (tr (tr (tl (.nd .lf (.row
  [(.nat .i64 4),(.nat .i64 4)] 2 3 false 0 0 0) .lf)))))))) (tr (tr (tl (tr (tr (tl (.nd .lf (.row [(.nat .i64 3),(.nat .i64 3),(.str [48]),(.nat .i64 1),(.nat
  .i64 3),(.nat .i64 3),(.str [48]),(.nat .i64 2)] 8 158 true 0 0 0) .lf)))))))) (tl (tr (tr (tl (tr (tr (tl (.nd .lf (.row [(.nat .i64 1),(.nat .i64 1),(.str
  [48]),(.nat .i64 5),(.nat .i64 2),(.nat .i64 2),(.str [48]),(.nat .i64 3),(.nat .i64 2),(.nat .i64 2),(.str [48]),(.nat .i64 4),(.nat .i64 4),(.nat .i64
  4),(.str [48]),(.nat .i64 1),(.nat .i64 4),(.nat .i64 4),(.str [48]),(.nat .i64 2),(.nat .i64 0),(.nat .i64 4),(.str [48]),(.nat .i64 6)] 24 158 true 0 0 0)
  .lf))))))))) (tn (tn (tr (tr (tl (tr (tr (tl (.nd .lf (.row [(.nat .i64 3),(.nat .i64 3),(.str [48]),(.nat .i64 1),(.nat .i64 3),(.nat .i64 3),(.str
  [48]),(.nat .i64 2)] 8 158 true 0 0 0) .lf))))))) (tl (tl (tl (tr (tl (tl (tl (.nd .lf (.row [(.nat .i64 5),(.nat .i64 5),(.str [48]),(.nat .i64 1)] 4 158
  true 0 0 0) .lf))))))))) (tr (tl (tr (tl (tr (tr (tl (.nd .lf (.row [(.nat .i64 1),(.nat .i64 1),(.str [48]),(.nat .i64 1),(.nat .i64 1),(.nat .i64 1),(.str
  [48]),(.nat .i64 2),(.nat .i64 2),(.nat .i64 2),(.str [48]),(.nat .i64 3),(.nat .i64 2),(.nat .i64 2),(.str [48]),(.nat .i64 4),(.nat .i64 4),(.nat .i64
  4),(.str [48]),(.nat .i64 1),(.nat .i64 4),(.nat .i64 4),(.str [48]),(.nat .i64 2)] 24 158 true 0 0 0) .lf))))))))))))), k11848⟩, (.bool true), ⟨(tn (tn (tn
  (tl (tr (tn (tl (tl (tl (tl (tr (tr (.nd .lf (.row [(.nat .i64 2),(.nat .i64 2),(.str [48]),(.nat .i64 1),(.nat .i64 3),(.nat .i64 3),(.str [48]),(.nat .i64
  1),(.nat .i64 4),(.nat .i64 4),(.str [48]),(.nat .i64 1),(.nat .i64 0),(.nat .i64 2),(.str [48]),(.nat .i64 2)] 16 158 true 0 0 0) .lf))))))) (tr (tr (tl (tr
  (tr (tl (.nd .lf (.row [(.nat .i64 1),(.nat .i64 1),(.str [48]),(.nat .i64 1),(.nat .i64 1),(.nat .i64 1),(.str [48]),(.nat .i64 2),(.nat .i64 2),(.nat .i64
  2),(.str [48]),(.nat .i64 3),(.nat .i64 2),(.nat .i64 2),(.str [48]),(.nat .i64 4),(.nat .i64 4),(.nat .i64 4),(.str [48]),(.nat .i64 1),(.nat .i64 4),(.nat
  .i64 4),(.str [48]),(.nat .i64 2)] 24 158 true 0 0 0) .lf)))))))))) (tl (tl (tl (tn (tl (tr (tr (tr (tl (.nd .lf (.row [(.nat .i64 1),(.nat .i64 0),(.str
  [48]),(.so k5818 14 0 7 0)] 4 24 false 0 0 0) .lf)))))) (tl (tl (tr (tl (tl (tl (.nd .lf (.row [(.nat .i64 1),(.nat .i64 0),(.str [48]),(.so k8753 6 0 3 0)] 4
  24 false 0 0 0) .lf)))))))))))) (tn (tn (tl (tl (tn (tl (tr (tr (tr (tl (.nd .lf (.row [(.nat .i64 1),(.nat .i64 0),(.str [48]),(.nat .i64 2)] 4 158 true 0 0
  0) .lf)))))) (tl (tl (tr (tl (tl (tl (.nd .lf (.row [(.nat .i64 5),(.nat .i64 5),(.str [48]),(.nat .i64 1)] 4 158 true 0 0 0) .lf)))))))))) (tn (tr (tl (tr
  (tl (tr (tr (tl (.nd .lf (.row [(.nat .i64 1),(.nat .i64 1),(.str [48]),(.nat .i64 1),(.nat .i64 1),(.nat .i64 1),(.str [48]),(.nat .i64 2),(.nat .i64
  2),(.nat .i64 2),(.str [48]),(.nat .i64 3),(.nat .i64 2),(.nat .i64 2),(.str [48]),(.nat .i64 4),(.nat .i64 4),(.nat .i64 4),(.str [48]),(.nat .i64 1),(.nat
  .i64 4),(.nat .i64 4),(.str [48]),(.nat .i64 2),(.nat .i64 3),(.nat .i64 3),(.str [48]),(.nat .i64 1),(.nat .i64 3),(.nat .i64 3),(.str [48]),(.nat .i64 2)]
  32 158 true 0 0 0) .lf)))))))) (tr (tl (tr (tl (tr (tr (tl (.nd .lf (.row [(.str [48]),(.so k5802 32 0 8 0),(.str [48]),(.so k5823 24 0 6 0),(.str []),(.so
  k5839 8 0 2 0),(.str [48]),(.so k5847 24 0 6 0),(.str []),(.so k5863 8 0 2 0),(.str [48]),(.so k5872 24 0 6 0),(.str []),(.so k5890 4 0 1 0)] 14 163 true 0 0
  0) .lf)))))))))) (tl (tr (tr (tl (tl (tl (tr (tl (tl (tl (.nd .lf (.row [(.nat .i64 1),(.nat .i64 1),(.str [48]),(.nat .i64 2),(.nat .i64 2),(.nat .i64
  2),(.str [48]),(.nat .i64 2),(.nat .i64 3),(.nat .i64 3),(.str [48]),(.nat .i64 2),(.nat .i64 4),(.nat .i64 4),(.str [48]),(.nat .i64 2)] 16 158 true 0 0 0)
  .lf))))))))))))) (tn (tn (tl (tr (tr (tl (tl (tl (tr (tl (tl (tl (.nd .lf (.row [(.str []),(.so k8751 4 0 1 0),(.str [48]),(.so k8758 16 0 4 0),(.str []),(.so
  k8770 4 0 1 0)] 6 163 true 0 0 0) .lf))))))))))) (tn (tl (tr (tl (tl (tl (tl (tr (tr (.nd .lf (.row [(.nat .i64 1),(.nat .i64 0),(.str [48]),(.so k7179 8 0 4
  0)] 4 24 false 0 0 0) .lf))))))))) (tr (tl (tl (tl (tl (tl (tr (tr (.nd .lf (.row [(.nat .i64 1),(.nat .i64 1),(.str [48]),(.nat .i64 3)] 4 158 true 0 0 0)
  .lf))))))))))) (tn (tn (tl (tn (tl (tl (tl (tl (tr (tr (.nd .lf (.row [(.nat .i64 2),(.nat .i64 2),(.str [48]),(.nat .i64 1),(.nat .i64 3),(.nat .i64 3),(.str
  [48]),(.nat .i64 1),(.nat .i64 4),(.nat .i64 4),(.str [48]),(.nat .i64 1),(.nat .i64 0),(.nat .i64 2),(.str [48]),(.nat .i64 2)] 16 158 true 0 0 0) .lf)))))))
  (tl (tl (tl (tl (tr (tr (.nd .lf (.row [(.nat .i64 0),(.nat .i64 3),(.str [48]),(.nat .i64 1)] 4 158 true 0 0 0) .lf))))))))) (tl (tl (tl (tl (tl (tl (tr (tr
  (.nd .lf (.row [(.str [48]),(.so k7171 16 0 4 0),(.str [48]),(.so k7184 16 0 4 0),(.str []),(.so k7197 4 0 1 0),(.str []),(.so k7203 4 0 1 0)] 8 163 true 0 0
  0) .lf)))))))))) (tn (tn (tr (tr (tr (tl (tr (tr (tl (.nd .lf (.row [(.nat .i64 3),(.nat .i64 3),(.str [48]),(.nat .i64 1),(.nat .i64 3),(.nat .i64 3),(.str
  [48]),(.nat .i64 2)] 8 158 true 0 0 0) .lf)))))))) (tl (tr (tr (tl (tr (tr (tl (.nd .lf (.row [(.nat .i64 1),(.nat .i64 1),(.str [48]),(.nat .i64 5),(.nat
  .i64 2),(.nat .i64 2),(.str [48]),(.nat .i64 3),(.nat .i64 2),(.nat .i64 2),(.str [48]),(.nat .i64 4),(.nat .i64 4),(.nat .i64 4),(.str [48]),(.nat .i64
  1),(.nat .i64 4),(.nat .i64 4),(.str [48]),(.nat .i64 2),(.nat .i64 0),(.nat .i64 4),(.str [48]),(.nat .i64 6)] 24 158 true 0 0 0) .lf))))))))) (tn (tn (tr
  (tr (tl (tr (tr (tl (.nd .lf (.row [(.nat .i64 3),(.nat .i64 3),(.str [48]),(.nat .i64 1),(.nat .i64 3),(.nat .i64 3),(.str [48]),(.nat .i64 2)] 8 158 true 0
  0 0) .lf))))))) (tl (tl (tl (tr (tl (tl (tl (.nd .lf (.row [(.nat .i64 5),(.nat .i64 5),(.str [48]),(.nat .i64 1)] 4 158 true 0 0 0) .lf))))))))) (tr (tl (tr
  (tl (tr (tr (tl (.nd .lf (.row [(.nat .i64 1),(.nat .i64 1),(.str [48]),(.nat .i64 1),(.nat .i64 1),(.nat .i64 1),(.str [48]),(.nat .i64 2),(.nat .i64
  2),(.nat .i64 2),(.str [48]),(.nat .i64 3),(.nat .i64 2),(.nat .i64 2),(.str [48]),(.nat .i64 4),(.nat .i64 4),(.nat .i64 4),(.str [48]),(.nat .i64 1),(.nat
  .i64 4),(.nat .i64 4),(.str [48]),(.nat .i64 2)] 24 158 true 0 0 0) .lf))))))))))))), k12393⟩⟩
def hk10 : Hook := ⟨17, [(.ls 0 [(.nat .i64 1),(.nat .i64 0),(.str [48]),(.so k5818 14 0 7 0)]),(.sl k12393 0 0 3 3),(.sl k12394 0 0 3 3),(.bool true)], ⟨(tn
  (tn (tn (tl (tr (tn (tl (tl (tl (tl (tr (tr (.nd .lf (.row [(.nat .i64 2),(.nat .i64 2),(.str [48]),(.nat .i64 1),(.nat .i64 3),(.nat .i64 3),(.str
  [48]),(.nat .i64 1),(.nat .i64 4),(.nat .i64 4),(.str [48]),(.nat .i64 1),(.nat .i64 0),(.nat .i64 2),(.str [48]),(.nat .i64 2)] 16 158 true 0 0 0) .lf)))))))
  (tr (tr (tl (tr (tr (tl (.nd .lf (.row [(.nat .i64 1),(.nat .i64 1),(.str [48]),(.nat .i64 1),(.nat .i64 1),(.nat .i64 1),(.str [48]),(.nat .i64 2),(.nat .i64
  2),(.nat .i64 2),(.str [48]),(.nat .i64 3),(.nat .i64 2),(.nat .i64 2),(.str [48]),(.nat .i64 4),(.nat .i64 4),(.nat .i64 4),(.str [48]),(.nat .i64 1),(.nat
  .i64 4),(.nat .i64 4),(.str [48]),(.nat .i64 2)] 24 158 true 0 0 0) .lf)))))))))) (tl (tl (tl (tn (tl (tr (tr (tr (tl (.nd .lf (.row [(.nat .i64 1),(.nat .i64
  0),(.str [48]),(.so k5818 14 0 7 0)] 4 24 false 0 0 0) .lf)))))) (tl (tl (tr (tl (tl (tl (.nd .lf (.row [(.nat .i64 1),(.nat .i64 0),(.str [48]),(.so k8753 6
  0 3 0)] 4 24 false 0 0 0) .lf)))))))))))) (tn (tn (tl (tl (tn (tl (tr (tr (tr (tl (.nd .lf (.row [(.nat .i64 1),(.nat .i64 0),(.str [48]),(.nat .i64 2)] 4 158
  true 0 0 0) .lf)))))) (tl (tl (tr (tl (tl (tl (.nd .lf (.row [(.nat .i64 5),(.nat .i64 5),(.str [48]),(.nat .i64 1)] 4 158 true 0 0 0) .lf)))))))))) (tn (tr
  (tn (tr (tl (tr (tr (tl (.nd .lf (.row [(.nat .i64 1),(.nat .i64 1),(.str [48]),(.nat .i64 1),(.nat .i64 1),(.nat .i64 1),(.str [48]),(.nat .i64 2),(.nat .i64
  2),(.nat .i64 2),(.str [48]),(.nat .i64 3),(.nat .i64 2),(.nat .i64 2),(.str [48]),(.nat .i64 4),(.nat .i64 4),(.nat .i64 4),(.str [48]),(.nat .i64 1),(.nat
  .i64 4),(.nat .i64 4),(.str [48]),(.nat .i64 2),(.nat .i64 3),(.nat .i64 3),(.str [48]),(.nat .i64 1),(.nat .i64 3),(.nat .i64 3),(.str [48]),(.nat .i64 2)]
  32 158 true 0 0 0) .lf)))))) (tl (tl (tl (tl (tl (tr (.nd .lf (.row [(.nat .i64 2),(.nat .i64 4),(.nat .i64 3)] 3 3 false 0 0 0) .lf))))))))) (tr (tl (tr (tl
  (tr (tr (tl (.nd .lf (.row [(.str [48]),(.so k5802 32 0 8 0),(.str [48]),(.so k5823 24 0 6 0),(.str []),(.so k5839 8 0 2 0),(.str [48]),(.so k5847 24 0 6
  0),(.str []),(.so k5863 8 0 2 0),(.str [48]),(.so k5872 24 0 6 0),(.str []),(.so k5890 4 0 1 0)] 14 163 true 0 0 0) .lf)))))))))) (tl (tr (tr (tl (tl (tl (tr
  (tl (tl (tl (.nd .lf (.row [(.nat .i64 1),(.nat .i64 1),(.str [48]),(.nat .i64 2),(.nat .i64 2),(.nat .i64 2),(.str [48]),(.nat .i64 2),(.nat .i64 3),(.nat
  .i64 3),(.str [48]),(.nat .i64 2),(.nat .i64 4),(.nat .i64 4),(.str [48]),(.nat .i64 2)] 16 158 true 0 0 0) .lf))))))))))))) (tn (tn (tn (tr (tr (tl (tl (tl
  (tr (tl (tl (tl (.nd .lf (.row [(.str []),(.so k8751 4 0 1 0),(.str [48]),(.so k8758 16 0 4 0),(.str []),(.so k8770 4 0 1 0)] 6 163 true 0 0 0) .lf))))))))))
  (tl (tr (tr (tl (tl (tl (tl (tl (tr (.nd .lf (.row [(.nat .i64 2),(.nat .i64 1),(.nat .i64 3)] 3 3 false 0 0 0) .lf))))))))))) (tn (tl (tr (tl (tl (tl (tl (tr
  (tr (.nd .lf (.row [(.nat .i64 1),(.nat .i64 0),(.str [48]),(.so k7179 8 0 4 0)] 4 24 false 0 0 0) .lf))))))))) (tr (tl (tl (tl (tl (tl (tr (tr (.nd .lf (.row
  [(.nat .i64 1),(.nat .i64 1),(.str [48]),(.nat .i64 3)] 4 158 true 0 0 0) .lf))))))))))) (tn (tn (tl (tn (tl (tl (tl (tl (tr (tr (.nd .lf (.row [(.nat .i64
  2),(.nat .i64 2),(.str [48]),(.nat .i64 1),(.nat .i64 3),(.nat .i64 3),(.str [48]),(.nat .i64 1),(.nat .i64 4),(.nat .i64 4),(.str [48]),(.nat .i64 1),(.nat
  .i64 0),(.nat .i64 2),(.str [48]),(.nat .i64 2)] 16 158 true 0 0 0) .lf))))))) (tl (tl (tl (tl (tr (tr (.nd .lf (.row [(.nat .i64 0),(.nat .i64 3),(.str
  [48]),(.nat .i64 1)] 4 158 true 0 0 0) .lf))))))))) (tl (tl (tl (tl (tl (tl (tr (tr (.nd .lf (.row [(.str [48]),(.so k7171 16 0 4 0),(.str [48]),(.so k7184 16
  0 4 0),(.str []),(.so k7197 4 0 1 0),(.str []),(.so k7203 4 0 1 0)] 8 163 true 0 0 0) .lf)))))))))) (tn (tn (tr (tr (tr (tl (tr (tr (tl (.nd .lf (.row [(.nat
  .i64 3),(.nat .i64 3),(.str [48]),(.nat .i64 1),(.nat .i64 3),(.nat .i64 3),(.str [48]),(.nat .i64 2)] 8 158 true 0 0 0) .lf)))))))) (tl (tr (tr (tl (tr (tr
  (tl (.nd .lf (.row [(.nat .i64 1),(.nat .i64 1),(.str [48]),(.nat .i64 5),(.nat .i64 2),(.nat .i64 2),(.str [48]),(.nat .i64 3),(.nat .i64 2),(.nat .i64
  2),(.str [48]),(.nat .i64 4),(.nat .i64 4),(.nat .i64 4),(.str [48]),(.nat .i64 1),(.nat .i64 4),(.nat .i64 4),(.str [48]),(.nat .i64 2),(.nat .i64 0),(.nat
  .i64 4),(.str [48]),(.nat .i64 6)] 24 158 true 0 0 0) .lf))))))))) (tn (tn (tr (tr (tl (tr (tr (tl (.nd .lf (.row [(.nat .i64 3),(.nat .i64 3),(.str
  [48]),(.nat .i64 1),(.nat .i64 3),(.nat .i64 3),(.str [48]),(.nat .i64 2)] 8 158 true 0 0 0) .lf))))))) (tl (tl (tl (tr (tl (tl (tl (.nd .lf (.row [(.nat .i64
  5),(.nat .i64 5),(.str [48]),(.nat .i64 1)] 4 158 true 0 0 0) .lf))))))))) (tr (tl (tr (tl (tr (tr (tl (.nd .lf (.row [(.nat .i64 1),(.nat .i64 1),(.str
  [48]),(.nat .i64 1),(.nat .i64 1),(.nat .i64 1),(.str [48]),(.nat .i64 2),(.nat .i64 2),(.nat .i64 2),(.str [48]),(.nat .i64 3),(.nat .i64 2),(.nat .i64
  2),(.str [48]),(.nat .i64 4),(.nat .i64 4),(.nat .i64 4),(.str [48]),(.nat .i64 1),(.nat .i64 4),(.nat .i64 4),(.str [48]),(.nat .i64 2)] 24 158 true 0 0 0)
  .lf))))))))))))), k12395⟩, (.bool true), ⟨(tn (tn (tn (tl (tr (tn (tl (tl (tl (tl (tr (tr (.nd .lf (.row [(.nat .i64 2),(.nat .i64 2),(.str [48]),(.nat .i64
  1),(.nat .i64 3),(.nat .i64 3),(.str [48]),(.nat .i64 1),(.nat .i64 4),(.nat .i64 4),(.str [48]),(.nat .i64 1),(.nat .i64 0),(.nat .i64 2),(.str [48]),(.nat
  .i64 2)] 16 158 true 0 0 0) .lf))))))) (tr (tr (tl (tr (tr (tl (.nd .lf (.row [(.nat .i64 1),(.nat .i64 1),(.str [48]),(.nat .i64 1),(.nat .i64 1),(.nat .i64
  1),(.str [48]),(.nat .i64 2),(.nat .i64 2),(.nat .i64 2),(.str [48]),(.nat .i64 3),(.nat .i64 2),(.nat .i64 2),(.str [48]),(.nat .i64 4),(.nat .i64 4),(.nat
  .i64 4),(.str [48]),(.nat .i64 1),(.nat .i64 4),(.nat .i64 4),(.str [48]),(.nat .i64 2)] 24 158 true 0 0 0) .lf)))))))))) (tl (tl (tl (tn (tl (tr (tr (tr (tl
  (.nd .lf (.row [(.nat .i64 1),(.nat .i64 0),(.str [48]),(.so k5818 14 0 7 0)] 4 24 false 0 0 0) .lf)))))) (tl (tl (tr (tl (tl (tl (.nd .lf (.row [(.nat .i64
  1),(.nat .i64 0),(.str [48]),(.so k8753 6 0 3 0)] 4 24 false 0 0 0) .lf)))))))))))) (tn (tn (tl (tl (tn (tl (tr (tr (tr (tl (.nd .lf (.row [(.nat .i64
  1),(.nat .i64 0),(.str [48]),(.nat .i64 2)] 4 158 true 0 0 0) .lf)))))) (tl (tl (tr (tl (tl (tl (.nd .lf (.row [(.nat .i64 5),(.nat .i64 5),(.str [48]),(.nat
  .i64 1)] 4 158 true 0 0 0) .lf)))))))))) (tn (tr (tl (tr (tl (tr (tr (tl (.nd .lf (.row [(.nat .i64 1),(.nat .i64 1),(.str [48]),(.nat .i64 1),(.nat .i64
  1),(.nat .i64 1),(.str [48]),(.nat .i64 2),(.nat .i64 2),(.nat .i64 2),(.str [48]),(.nat .i64 3),(.nat .i64 2),(.nat .i64 2),(.str [48]),(.nat .i64 4),(.nat
  .i64 4),(.nat .i64 4),(.str [48]),(.nat .i64 1),(.nat .i64 4),(.nat .i64 4),(.str [48]),(.nat .i64 2),(.nat .i64 3),(.nat .i64 3),(.str [48]),(.nat .i64
  1),(.nat .i64 3),(.nat .i64 3),(.str [48]),(.nat .i64 2)] 32 158 true 0 0 0) .lf)))))))) (tr (tl (tr (tl (tr (tr (tl (.nd .lf (.row [(.str [48]),(.so k5802 32
  0 8 0),(.str [48]),(.so k5823 24 0 6 0),(.str []),(.so k5839 8 0 2 0),(.str [48]),(.so k5847 24 0 6 0),(.str []),(.so k5863 8 0 2 0),(.str [48]),(.so k5872 24
  0 6 0),(.str []),(.so k5890 4 0 1 0)] 14 163 true 0 0 0) .lf)))))))))) (tl (tr (tr (tl (tl (tl (tr (tl (tl (tl (.nd .lf (.row [(.nat .i64 1),(.nat .i64
  1),(.str [48]),(.nat .i64 2),(.nat .i64 2),(.nat .i64 2),(.str [48]),(.nat .i64 2),(.nat .i64 3),(.nat .i64 3),(.str [48]),(.nat .i64 2),(.nat .i64 4),(.nat
  .i64 4),(.str [48]),(.nat .i64 2)] 16 158 true 0 0 0) .lf))))))))))))) (tn (tn (tl (tr (tr (tl (tl (tl (tr (tl (tl (tl (.nd .lf (.row [(.str []),(.so k8751 4
  0 1 0),(.str [48]),(.so k8758 16 0 4 0),(.str []),(.so k8770 4 0 1 0)] 6 163 true 0 0 0) .lf))))))))))) (tn (tl (tr (tl (tl (tl (tl (tr (tr (.nd .lf (.row
  [(.nat .i64 1),(.nat .i64 0),(.str [48]),(.so k7179 8 0 4 0)] 4 24 false 0 0 0) .lf))))))))) (tr (tl (tl (tl (tl (tl (tr (tr (.nd .lf (.row [(.nat .i64
  1),(.nat .i64 1),(.str [48]),(.nat .i64 3)] 4 158 true 0 0 0) .lf))))))))))) (tn (tn (tl (tn (tl (tl (tl (tl (tr (tr (.nd .lf (.row [(.nat .i64 2),(.nat .i64
  2),(.str [48]),(.nat .i64 1),(.nat .i64 3),(.nat .i64 3),(.str [48]),(.nat .i64 1),(.nat .i64 4),(.nat .i64 4),(.str [48]),(.nat .i64 1),(.nat .i64 0),(.nat
  .i64 2),(.str [48]),(.nat .i64 2)] 16 158 true 0 0 0) .lf))))))) (tl (tl (tl (tl (tr (tr (.nd .lf (.row [(.nat .i64 0),(.nat .i64 3),(.str [48]),(.nat .i64
  1)] 4 158 true 0 0 0) .lf))))))))) (tl (tl (tl (tl (tl (tl (tr (tr (.nd .lf (.row [(.str [48]),(.so k7171 16 0 4 0),(.str [48]),(.so k7184 16 0 4 0),(.str
  []),(.so k7197 4 0 1 0),(.str []),(.so k7203 4 0 1 0)] 8 163 true 0 0 0) .lf)))))))))) (tn (tn (tr (tr (tr (tl (tr (tr (tl (.nd .lf (.row [(.nat .i64 3),(.nat
  .i64 3),(.str [48]),(.nat .i64 1),(.nat .i64 3),(.nat .i64 3),(.str [48]),(.nat .i64 2)] 8 158 true 0 0 0) .lf)))))))) (tl (tr (tr (tl (tr (tr (tl (.nd .lf
  (.row [(.nat .i64 1),(.nat .i64 1),(.str [48]),(.nat .i64 5),(.nat .i64 2),(.nat .i64 2),(.str [48]),(.nat .i64 3),(.nat .i64 2),(.nat .i64 2),(.str
  [48]),(.nat .i64 4),(.nat .i64 4),(.nat .i64 4),(.str [48]),(.nat .i64 1),(.nat .i64 4),(.nat .i64 4),(.str [48]),(.nat .i64 2),(.nat .i64 0),(.nat .i64
  4),(.str [48]),(.nat .i64 6)] 24 158 true 0 0 0) .lf))))))))) (tn (tn (tr (tr (tl (tr (tr (tl (.nd .lf (.row [(.nat .i64 3),(.nat .i64 3),(.str [48]),(.nat
  .i64 1),(.nat .i64 3),(.nat .i64 3),(.str [48]),(.nat .i64 2)] 8 158 true 0 0 0) .lf))))))) (tl (tl (tl (tr (tl (tl (tl (.nd .lf (.row [(.nat .i64 5),(.nat
  .i64 5),(.str [48]),(.nat .i64 1)] 4 158 true 0 0 0) .lf))))))))) (tr (tl (tr (tl (tr (tr (tl (.nd .lf (.row [(.nat .i64 1),(.nat .i64 1),(.str [48]),(.nat
  .i64 1),(.nat .i64 1),(.nat .i64 1),(.str [48]),(.nat .i64 2),(.nat .i64 2),(.nat .i64 2),(.str [48]),(.nat .i64 3),(.nat .i64 2),(.nat .i64 2),(.str
  [48]),(.nat .i64 4),(.nat .i64 4),(.nat .i64 4),(.str [48]),(.nat .i64 1),(.nat .i64 4),(.nat .i64 4),(.str [48]),(.nat .i64 2)] 24 158 true 0 0 0)
  .lf))))))))))))), k13265⟩⟩
def hk11 : Hook := ⟨17, [(.ls 0 [(.nat .i64 1),(.nat .i64 0),(.str [48]),(.so k5818 14 0 7 0)]),(.sl k13265 0 0 1 1),(.sl k13266 0 0 1 1),(.bool true)], ⟨(tn
  (tn (tn (tl (tr (tn (tl (tl (tl (tl (tr (tr (.nd .lf (.row [(.nat .i64 2),(.nat .i64 2),(.str [48]),(.nat .i64 1),(.nat .i64 3),(.nat .i64 3),(.str
  [48]),(.nat .i64 1),(.nat .i64 4),(.nat .i64 4),(.str [48]),(.nat .i64 1),(.nat .i64 0),(.nat .i64 2),(.str [48]),(.nat .i64 2)] 16 158 true 0 0 0) .lf)))))))
  (tr (tr (tl (tr (tr (tl (.nd .lf (.row [(.nat .i64 1),(.nat .i64 1),(.str [48]),(.nat .i64 1),(.nat .i64 1),(.nat .i64 1),(.str [48]),(.nat .i64 2),(.nat .i64
  2),(.nat .i64 2),(.str [48]),(.nat .i64 3),(.nat .i64 2),(.nat .i64 2),(.str [48]),(.nat .i64 4),(.nat .i64 4),(.nat .i64 4),(.str [48]),(.nat .i64 1),(.nat
  .i64 4),(.nat .i64 4),(.str [48]),(.nat .i64 2)] 24 158 true 0 0 0) .lf)))))))))) (tl (tl (tl (tr (tl (tl (tr (tl (tl (tl (.nd .lf (.row [(.nat .i64 1),(.nat
  .i64 0),(.str [48]),(.so k8753 6 0 3 0)] 4 24 false 0 0 0) .lf)))))))))))) (tn (tn (tn (tl (tn (tl (tr (tr (tr (tl (.nd .lf (.row [(.nat .i64 1),(.nat .i64
  0),(.str [48]),(.nat .i64 2)] 4 158 true 0 0 0) .lf)))))) (tl (tl (tr (tl (tl (tl (.nd .lf (.row [(.nat .i64 5),(.nat .i64 5),(.str [48]),(.nat .i64 1)] 4 158
  true 0 0 0) .lf))))))))) (tl (tr (tr (tr (tr (tl (tl (tr (.nd .lf (.row [(.nat .i64 1)] 1 3 false 0 0 0) .lf)))))))))) (tn (tr (tl (tr (tl (tr (tr (tl (.nd
  .lf (.row [(.nat .i64 1),(.nat .i64 1),(.str [48]),(.nat .i64 1),(.nat .i64 1),(.nat .i64 1),(.str [48]),(.nat .i64 2),(.nat .i64 2),(.nat .i64 2),(.str
  [48]),(.nat .i64 3),(.nat .i64 2),(.nat .i64 2),(.str [48]),(.nat .i64 4),(.nat .i64 4),(.nat .i64 4),(.str [48]),(.nat .i64 1),(.nat .i64 4),(.nat .i64
  4),(.str [48]),(.nat .i64 2),(.nat .i64 3),(.nat .i64 3),(.str [48]),(.nat .i64 1),(.nat .i64 3),(.nat .i64 3),(.str [48]),(.nat .i64 2)] 32 158 true 0 0 0)
  .lf)))))))) (tr (tl (tr (tl (tr (tr (tl (.nd .lf (.row [(.str [48]),(.so k5802 32 0 8 0),(.str [48]),(.so k5823 24 0 6 0),(.str []),(.so k5839 8 0 2 0),(.str
  [48]),(.so k5847 24 0 6 0),(.str []),(.so k5863 8 0 2 0),(.str [48]),(.so k5872 24 0 6 0),(.str []),(.so k5890 4 0 1 0)] 14 163 true 0 0 0) .lf)))))))))) (tl
  (tr (tr (tl (tl (tl (tr (tl (tl (tl (.nd .lf (.row [(.nat .i64 1),(.nat .i64 1),(.str [48]),(.nat .i64 2),(.nat .i64 2),(.nat .i64 2),(.str [48]),(.nat .i64
  2),(.nat .i64 3),(.nat .i64 3),(.str [48]),(.nat .i64 2),(.nat .i64 4),(.nat .i64 4),(.str [48]),(.nat .i64 2)] 16 158 true 0 0 0) .lf))))))))))))) (tn (tn
  (tl (tr (tn (tr (tr (tr (tr (tl (tl (tr (.nd .lf (.row [(.nat .i64 1)] 1 3 false 0 0 0) .lf)))))))) (tl (tl (tl (tr (tl (tl (tl (.nd .lf (.row [(.str []),(.so
  k8751 4 0 1 0),(.str [48]),(.so k8758 16 0 4 0),(.str []),(.so k8770 4 0 1 0)] 6 163 true 0 0 0) .lf))))))))))) (tn (tl (tr (tl (tl (tl (tl (tr (tr (.nd .lf
  (.row [(.nat .i64 1),(.nat .i64 0),(.str [48]),(.so k7179 8 0 4 0)] 4 24 false 0 0 0) .lf))))))))) (tr (tl (tl (tl (tl (tl (tr (tr (.nd .lf (.row [(.nat .i64
  1),(.nat .i64 1),(.str [48]),(.nat .i64 3)] 4 158 true 0 0 0) .lf))))))))))) (tn (tn (tl (tn (tl (tl (tl (tl (tr (tr (.nd .lf (.row [(.nat .i64 2),(.nat .i64
  2),(.str [48]),(.nat .i64 1),(.nat .i64 3),(.nat .i64 3),(.str [48]),(.nat .i64 1),(.nat .i64 4),(.nat .i64 4),(.str [48]),(.nat .i64 1),(.nat .i64 0),(.nat
  .i64 2),(.str [48]),(.nat .i64 2)] 16 158 true 0 0 0) .lf))))))) (tl (tl (tl (tl (tr (tr (.nd .lf (.row [(.nat .i64 0),(.nat .i64 3),(.str [48]),(.nat .i64
  1)] 4 158 true 0 0 0) .lf))))))))) (tl (tl (tl (tl (tl (tl (tr (tr (.nd .lf (.row [(.str [48]),(.so k7171 16 0 4 0),(.str [48]),(.so k7184 16 0 4 0),(.str
  []),(.so k7197 4 0 1 0),(.str []),(.so k7203 4 0 1 0)] 8 163 true 0 0 0) .lf)))))))))) (tn (tn (tr (tr (tr (tl (tr (tr (tl (.nd .lf (.row [(.nat .i64 3),(.nat
  .i64 3),(.str [48]),(.nat .i64 1),(.nat .i64 3),(.nat .i64 3),(.str [48]),(.nat .i64 2)] 8 158 true 0 0 0) .lf)))))))) (tl (tr (tr (tl (tr (tr (tl (.nd .lf
  (.row [(.nat .i64 1),(.nat .i64 1),(.str [48]),(.nat .i64 5),(.nat .i64 2),(.nat .i64 2),(.str [48]),(.nat .i64 3),(.nat .i64 2),(.nat .i64 2),(.str
  [48]),(.nat .i64 4),(.nat .i64 4),(.nat .i64 4),(.str [48]),(.nat .i64 1),(.nat .i64 4),(.nat .i64 4),(.str [48]),(.nat .i64 2),(.nat .i64 0),(.nat .i64
  4),(.str [48]),(.nat .i64 6)] 24 158 true 0 0 0) .lf))))))))) (tn (tn (tr (tr (tl (tr (tr (tl (.nd .lf (.row [(.nat .i64 3),(.nat .i64 3),(.str [48]),(.nat
  .i64 1),(.nat .i64 3),(.nat .i64 3),(.str [48]),(.nat .i64 2)] 8 158 true 0 0 0) .lf))))))) (tl (tl (tl (tr (tl (tl (tl (.nd .lf (.row [(.nat .i64 5),(.nat
  .i64 5),(.str [48]),(.nat .i64 1)] 4 158 true 0 0 0) .lf))))))))) (tr (tl (tr (tl (tr (tr (tl (.nd .lf (.row [(.nat .i64 1),(.nat .i64 1),(.str [48]),(.nat
  .i64 1),(.nat .i64 1),(.nat .i64 1),(.str [48]),(.nat .i64 2),(.nat .i64 2),(.nat .i64 2),(.str [48]),(.nat .i64 3),(.nat .i64 2),(.nat .i64 2),(.str
  [48]),(.nat .i64 4),(.nat .i64 4),(.nat .i64 4),(.str [48]),(.nat .i64 1),(.nat .i64 4),(.nat .i64 4),(.str [48]),(.nat .i64 2)] 24 158 true 0 0 0)
  .lf))))))))))))), k13267⟩, (.bool true), ⟨(tn (tn (tn (tl (tr (tl (tl (tl (tl (tl (tr (tr (.nd .lf (.row [(.nat .i64 2),(.nat .i64 2),(.str [48]),(.nat .i64
  1),(.nat .i64 3),(.nat .i64 3),(.str [48]),(.nat .i64 1),(.nat .i64 4),(.nat .i64 4),(.str [48]),(.nat .i64 1),(.nat .i64 0),(.nat .i64 2),(.str [48]),(.nat
  .i64 2)] 16 158 true 0 0 0) .lf)))))))))) (tl (tl (tl (tr (tl (tl (tr (tl (tl (tl (.nd .lf (.row [(.nat .i64 1),(.nat .i64 0),(.str [48]),(.so k8753 6 0 3 0)]
  4 24 false 0 0 0) .lf)))))))))))) (tn (tl (tl (tl (tr (tl (tl (tr (tl (tl (tl (.nd .lf (.row [(.nat .i64 5),(.nat .i64 5),(.str [48]),(.nat .i64 1)] 4 158
  true 0 0 0) .lf))))))))))) (tl (tr (tr (tl (tl (tl (tr (tl (tl (tl (.nd .lf (.row [(.nat .i64 1),(.nat .i64 1),(.str [48]),(.nat .i64 2),(.nat .i64 2),(.nat
  .i64 2),(.str [48]),(.nat .i64 2),(.nat .i64 3),(.nat .i64 3),(.str [48]),(.nat .i64 2),(.nat .i64 4),(.nat .i64 4),(.str [48]),(.nat .i64 2)] 16 158 true 0 0
  0) .lf))))))))))))) (tn (tn (tl (tr (tr (tl (tl (tl (tr (tl (tl (tl (.nd .lf (.row [(.str []),(.so k8751 4 0 1 0),(.str [48]),(.so k8758 16 0 4 0),(.str
  []),(.so k8770 4 0 1 0)] 6 163 true 0 0 0) .lf))))))))))) (tn (tl (tr (tl (tl (tl (tl (tr (tr (.nd .lf (.row [(.nat .i64 1),(.nat .i64 0),(.str [48]),(.so
  k7179 8 0 4 0)] 4 24 false 0 0 0) .lf))))))))) (tr (tl (tl (tl (tl (tl (tr (tr (.nd .lf (.row [(.nat .i64 1),(.nat .i64 1),(.str [48]),(.nat .i64 3)] 4 158
  true 0 0 0) .lf))))))))))) (tn (tn (tl (tn (tl (tl (tl (tl (tr (tr (.nd .lf (.row [(.nat .i64 2),(.nat .i64 2),(.str [48]),(.nat .i64 1),(.nat .i64 3),(.nat
  .i64 3),(.str [48]),(.nat .i64 1),(.nat .i64 4),(.nat .i64 4),(.str [48]),(.nat .i64 1),(.nat .i64 0),(.nat .i64 2),(.str [48]),(.nat .i64 2)] 16 158 true 0 0
  0) .lf))))))) (tl (tl (tl (tl (tr (tr (.nd .lf (.row [(.nat .i64 0),(.nat .i64 3),(.str [48]),(.nat .i64 1)] 4 158 true 0 0 0) .lf))))))))) (tl (tl (tl (tl
  (tl (tl (tr (tr (.nd .lf (.row [(.str [48]),(.so k7171 16 0 4 0),(.str [48]),(.so k7184 16 0 4 0),(.str []),(.so k7197 4 0 1 0),(.str []),(.so k7203 4 0 1 0)]
  8 163 true 0 0 0) .lf)))))))))) (tr (tl (tr (tl (tl (tl (tr (tl (tl (tl (.nd .lf (.row [(.nat .i64 5),(.nat .i64 5),(.str [48]),(.nat .i64 1)] 4 158 true 0 0
  0) .lf)))))))))))))), k13694⟩⟩
def hk12 : Hook := ⟨17, [(.ls 0 [(.nat .i64 1),(.nat .i64 0),(.str [48]),(.so k7179 8 0 4 0)]),(.sl k13694 0 0 1 1),(.sl k13695 0 0 3 3),(.bool true)], ⟨(tn (tn
  (tn (tl (tr (tl (tl (tl (tl (tl (tr (tr (.nd .lf (.row [(.nat .i64 2),(.nat .i64 2),(.str [48]),(.nat .i64 1),(.nat .i64 3),(.nat .i64 3),(.str [48]),(.nat
  .i64 1),(.nat .i64 4),(.nat .i64 4),(.str [48]),(.nat .i64 1),(.nat .i64 0),(.nat .i64 2),(.str [48]),(.nat .i64 2)] 16 158 true 0 0 0) .lf)))))))))) (tl (tl
  (tl (tr (tl (tl (tr (tl (tl (tl (.nd .lf (.row [(.nat .i64 1),(.nat .i64 0),(.str [48]),(.so k8753 6 0 3 0)] 4 24 false 0 0 0) .lf)))))))))))) (tn (tl (tl (tl
  (tr (tl (tl (tr (tl (tl (tl (.nd .lf (.row [(.nat .i64 5),(.nat .i64 5),(.str [48]),(.nat .i64 1)] 4 158 true 0 0 0) .lf))))))))))) (tn (tr (tr (tl (tl (tl
  (tr (tl (tl (tl (.nd .lf (.row [(.nat .i64 1),(.nat .i64 1),(.str [48]),(.nat .i64 2),(.nat .i64 2),(.nat .i64 2),(.str [48]),(.nat .i64 2),(.nat .i64
  3),(.nat .i64 3),(.str [48]),(.nat .i64 2),(.nat .i64 4),(.nat .i64 4),(.str [48]),(.nat .i64 2)] 16 158 true 0 0 0) .lf)))))))))) (tr (tr (tr (tl (tr (tl (tr
  (tl (tr (.nd .lf (.row [(.nat .i64 1)] 1 3 false 0 0 0) .lf))))))))))))) (tn (tn (tl (tr (tr (tl (tl (tl (tr (tl (tl (tl (.nd .lf (.row [(.str []),(.so k8751
  4 0 1 0),(.str [48]),(.so k8758 16 0 4 0),(.str []),(.so k8770 4 0 1 0)] 6 163 true 0 0 0) .lf))))))))))) (tr (tr (tl (tl (tl (tl (tl (tr (tr (.nd .lf (.row
  [(.nat .i64 1),(.nat .i64 1),(.str [48]),(.nat .i64 3)] 4 158 true 0 0 0) .lf))))))))))) (tn (tn (tl (tn (tl (tl (tl (tl (tr (tr (.nd .lf (.row [(.nat .i64
  2),(.nat .i64 2),(.str [48]),(.nat .i64 1),(.nat .i64 3),(.nat .i64 3),(.str [48]),(.nat .i64 1),(.nat .i64 4),(.nat .i64 4),(.str [48]),(.nat .i64 1),(.nat
  .i64 0),(.nat .i64 2),(.str [48]),(.nat .i64 2)] 16 158 true 0 0 0) .lf))))))) (tl (tl (tl (tl (tr (tr (.nd .lf (.row [(.nat .i64 0),(.nat .i64 3),(.str
  [48]),(.nat .i64 1)] 4 158 true 0 0 0) .lf))))))))) (tl (tl (tl (tl (tl (tl (tr (tr (.nd .lf (.row [(.str [48]),(.so k7171 16 0 4 0),(.str [48]),(.so k7184 16
  0 4 0),(.str []),(.so k7197 4 0 1 0),(.str []),(.so k7203 4 0 1 0)] 8 163 true 0 0 0) .lf)))))))))) (tr (tn (tr (tl (tl (tl (tr (tl (tl (tl (.nd .lf (.row
  [(.nat .i64 5),(.nat .i64 5),(.str [48]),(.nat .i64 1)] 4 158 true 0 0 0) .lf))))))))) (tr (tr (tl (tr (tl (tr (tl (tr (.nd .lf (.row [(.nat .i64 2),(.nat
  .i64 1),(.nat .i64 3)] 3 3 false 0 0 0) .lf)))))))))))))), k13696⟩, (.bool true), ⟨(tn (tn (tr (tl (tl (tl (tr (tl (tl (tr (tl (tl (tl (.nd .lf (.row [(.nat
  .i64 1),(.nat .i64 0),(.str [48]),(.so k8753 6 0 3 0)] 4 24 false 0 0 0) .lf)))))))))))) (tn (tl (tl (tl (tr (tl (tl (tr (tl (tl (tl (.nd .lf (.row [(.nat
  .i64 5),(.nat .i64 5),(.str [48]),(.nat .i64 1)] 4 158 true 0 0 0) .lf))))))))))) (tl (tr (tr (tl (tl (tl (tr (tl (tl (tl (.nd .lf (.row [(.nat .i64 1),(.nat
  .i64 1),(.str [48]),(.nat .i64 2),(.nat .i64 2),(.nat .i64 2),(.str [48]),(.nat .i64 2),(.nat .i64 3),(.nat .i64 3),(.str [48]),(.nat .i64 2),(.nat .i64
  4),(.nat .i64 4),(.str [48]),(.nat .i64 2)] 16 158 true 0 0 0) .lf))))))))))))) (tn (tl (tl (tr (tr (tl (tl (tl (tr (tl (tl (tl (.nd .lf (.row [(.str []),(.so
  k8751 4 0 1 0),(.str [48]),(.so k8758 16 0 4 0),(.str []),(.so k8770 4 0 1 0)] 6 163 true 0 0 0) .lf)))))))))))) (tr (tr (tl (tr (tl (tl (tl (tr (tl (tl (tl
  (.nd .lf (.row [(.nat .i64 5),(.nat .i64 5),(.str [48]),(.nat .i64 1)] 4 158 true 0 0 0) .lf)))))))))))))), k14102⟩⟩
def hk13 : Hook := ⟨17, [(.ls 0 [(.nat .i64 1),(.nat .i64 0),(.str [48]),(.so k8753 6 0 3 0)]),(.sl k14102 0 0 3 3),(.sl k14103 0 0 3 3),(.bool true)], ⟨(tn (tr
  (tn (tl (tl (tl (tr (tl (tl (tr (tl (tl (tl (.nd .lf (.row [(.nat .i64 5),(.nat .i64 5),(.str [48]),(.nat .i64 1)] 4 158 true 0 0 0) .lf))))))))))) (tl (tr
  (tn (tl (tl (tr (tr (tr (tl (tr (.nd .lf (.row [(.nat .i64 5),(.nat .i64 1),(.nat .i64 5)] 3 3 false 0 0 0) .lf)))))))) (tl (tl (tl (tr (tl (tl (tl (.nd .lf
  (.row [(.nat .i64 1),(.nat .i64 1),(.str [48]),(.nat .i64 2),(.nat .i64 2),(.nat .i64 2),(.str [48]),(.nat .i64 2),(.nat .i64 3),(.nat .i64 3),(.str
  [48]),(.nat .i64 2),(.nat .i64 4),(.nat .i64 4),(.str [48]),(.nat .i64 2)] 16 158 true 0 0 0) .lf))))))))))))) (tn (tl (tl (tr (tr (tl (tl (tl (tr (tl (tl (tl
  (.nd .lf (.row [(.str []),(.so k8751 4 0 1 0),(.str [48]),(.so k8758 16 0 4 0),(.str []),(.so k8770 4 0 1 0)] 6 163 true 0 0 0) .lf)))))))))))) (tr (tn (tr
  (tl (tl (tl (tr (tr (tr (tl (tr (.nd .lf (.row [(.nat .i64 5),(.nat .i64 1),(.nat .i64 5)] 3 3 false 0 0 0) .lf)))))))))) (tl (tr (tl (tl (tl (tr (tl (tl (tl
  (.nd .lf (.row [(.nat .i64 5),(.nat .i64 5),(.str [48]),(.nat .i64 1)] 4 158 true 0 0 0) .lf)))))))))))))), k14104⟩, (.bool true), ⟨.lf, k14611⟩⟩
def hk14 : Hook := ⟨11, [(.ls 0 [(.nat .i64 1),(.sl k14618 0 0 1 1),(.nat .i64 1),(.nat .i64 0),(.nat .i64 0),(.str []),(.nat .i64 0),(.nat .i64 0),(.nil
  1),(.nat .i64 1),(.nat .i64 0),(.nat .i64 0),(.str []),(.nat .i64 0),(.nat .i64 0),(.nil 1)]),(.nat .i64 4)], ⟨(tn (tr (tl (tr (tr (tl (tl (tl (tr (tl (tl (tr
  (tr (.nd .lf (.row [(.nat .i64 5),(.nat .i64 0),(.nat .i64 0),(.str []),(.nat .i64 0),(.nat .i64 0),(.sl k14613 0 0 2 2),(.bool false),(.sl k14615 0 0 1
  1),(.nil 1)] 10 39 false 0 0 0) .lf))))))))))))) (tn (tr (tl (tr (tl (tl (tl (tr (tl (tl (tr (tr (.nd .lf (.row [(.nat .i64 2),(.nat .i64 1),(.nat .i64
  1),(.str []),(.nat .i64 0),(.nat .i64 0),(.nil 1),(.nat .i64 2),(.nat .i64 2),(.nat .i64 2),(.str []),(.nat .i64 0),(.nat .i64 0),(.nil 1)] 14 31 false 0 0 0)
  .lf)))))))))))) (tr (tl (tr (tl (tl (tl (tr (tl (tl (tr (tr (.nd .lf (.row [(.nat .i64 4)] 1 3 false 0 0 0) .lf)))))))))))))), k14621⟩, (.ls 1 [(.ls 0 [(.nat
  .i64 1),(.nat .i64 0),(.str [48]),(.so k16898 10 0 5 0)]),(.nat .i64 0)]), ⟨(tn (tn (tl (tr (tn (tr (tl (tl (tl (tr (tl (tl (tl (tl (.nd .lf (.row [(.nat .i64
  2),(.nat .i64 0),(.str [48]),(.nat .i64 2)] 4 158 true 0 0 0) .lf)))))))))) (tr (tr (tr (tr (tl (tl (tl (tl (tl (.nd .lf (.row [(.nat .i64 1),(.nat .i64
  1),(.str [48]),(.nat .i64 1),(.nat .i64 2),(.nat .i64 2),(.str [48]),(.nat .i64 2),(.nat .i64 3),(.nat .i64 3),(.str [48]),(.nat .i64 2),(.nat .i64 4),(.nat
  .i64 4),(.str [48]),(.nat .i64 2),(.nat .i64 0),(.nat .i64 4),(.str [48]),(.nat .i64 3)] 20 158 true 0 0 0) .lf))))))))))))) (tl (tl (tl (tl (tl (tl (tl (tr
  (tl (tl (tl (tl (.nd .lf (.row [(.str [48]),(.so k16888 20 0 5 0),(.str [48]),(.so k16903 16 0 4 0),(.str [48]),(.so k16915 20 0 5 0),(.str []),(.so k16929 4
  0 1 0),(.str []),(.so k16936 4 0 1 0)] 10 163 true 0 0 0) .lf)))))))))))))) (tn (tl (tl (tl (tr (tl (tl (tl (tr (tl (tl (tl (tl (.nd .lf (.row [(.nat .i64
  1),(.nat .i64 0),(.str [48]),(.nat .i64 4)] 4 158 true 0 0 0) .lf))))))))))))) (tn (tl (tr (tl (tl (tl (tl (tr (tl (tl (tl (tl (.nd .lf (.row [(.nat .i64
  1),(.nat .i64 1),(.str [48]),(.nat .i64 1),(.nat .i64 2),(.nat .i64 2),(.str [48]),(.nat .i64 2),(.nat .i64 3),(.nat .i64 3),(.str [48]),(.nat .i64 2),(.nat
  .i64 4),(.nat .i64 4),(.str [48]),(.nat .i64 2),(.nat .i64 0),(.nat .i64 4),(.str [48]),(.nat .i64 3)] 20 158 true 0 0 0) .lf)))))))))))) (tl (tl (tl (tl (tl
  (tl (tr (tl (tl (tl (tl (.nd .lf (.row [(.nat .i64 1),(.nat .i64 1),(.str [48]),(.nat .i64 1),(.nat .i64 3),(.nat .i64 3),(.str [48]),(.nat .i64 2),(.nat .i64
  4),(.nat .i64 4),(.str [48]),(.nat .i64 2),(.nat .i64 0),(.nat .i64 4),(.str [48]),(.nat .i64 3)] 16 158 true 0 0 0) .lf))))))))))))))), k16938⟩⟩
def hk15 : Hook := ⟨15, [(.ls 0 [(.nat .i64 2),(.nat .i64 2),(.nat .i64 2),(.str []),(.nat .i64 0),(.nat .i64 0),(.nil 1)]),(.ls 0 [(.nat .i64 2),(.nat .i64
  3),(.nat .i64 3),(.str []),(.nat .i64 0),(.nat .i64 0),(.nil 1)]),(.nat .i64 4)], ⟨(tn (tn (tl (tr (tn (tr (tl (tl (tl (tr (tl (tl (tl (tl (.nd .lf (.row
  [(.nat .i64 2),(.nat .i64 0),(.str [48]),(.nat .i64 2)] 4 158 true 0 0 0) .lf)))))))))) (tr (tr (tr (tr (tl (tl (tl (tl (tl (.nd .lf (.row [(.nat .i64
  1),(.nat .i64 1),(.str [48]),(.nat .i64 1),(.nat .i64 2),(.nat .i64 2),(.str [48]),(.nat .i64 2),(.nat .i64 3),(.nat .i64 3),(.str [48]),(.nat .i64 2),(.nat
  .i64 4),(.nat .i64 4),(.str [48]),(.nat .i64 2),(.nat .i64 0),(.nat .i64 4),(.str [48]),(.nat .i64 3)] 20 158 true 0 0 0) .lf))))))))))))) (tl (tn (tl (tl (tl
  (tl (tl (tr (tl (tl (tl (tl (.nd .lf (.row [(.str [48]),(.so k16888 20 0 5 0),(.str [48]),(.so k16903 16 0 4 0),(.str [48]),(.so k16915 20 0 5 0),(.str
  []),(.so k16929 4 0 1 0),(.str []),(.so k16936 4 0 1 0)] 10 163 true 0 0 0) .lf))))))))))) (tl (tr (tl (tl (tl (tr (tl (tl (tl (tl (.nd .lf (.row [(.nat .i64
  1),(.nat .i64 0),(.str [48]),(.so k16898 10 0 5 0)] 4 24 false 0 0 0) .lf)))))))))))))) (tn (tl (tl (tl (tr (tl (tl (tl (tr (tl (tl (tl (tl (.nd .lf (.row
  [(.nat .i64 1),(.nat .i64 0),(.str [48]),(.nat .i64 4)] 4 158 true 0 0 0) .lf))))))))))))) (tn (tl (tr (tl (tl (tl (tl (tr (tl (tl (tl (tl (.nd .lf (.row
  [(.nat .i64 1),(.nat .i64 1),(.str [48]),(.nat .i64 1),(.nat .i64 2),(.nat .i64 2),(.str [48]),(.nat .i64 2),(.nat .i64 3),(.nat .i64 3),(.str [48]),(.nat
  .i64 2),(.nat .i64 4),(.nat .i64 4),(.str [48]),(.nat .i64 2),(.nat .i64 0),(.nat .i64 4),(.str [48]),(.nat .i64 3)] 20 158 true 0 0 0) .lf)))))))))))) (tl
  (tl (tl (tl (tl (tl (tr (tl (tl (tl (tl (.nd .lf (.row [(.nat .i64 1),(.nat .i64 1),(.str [48]),(.nat .i64 1),(.nat .i64 3),(.nat .i64 3),(.str [48]),(.nat
  .i64 2),(.nat .i64 4),(.nat .i64 4),(.str [48]),(.nat .i64 2),(.nat .i64 0),(.nat .i64 4),(.str [48]),(.nat .i64 3)] 16 158 true 0 0 0) .lf))))))))))))))),
  k16941⟩, (.ls 1 [(.ls 0 [(.nat .i64 1),(.nat .i64 0),(.str [48]),(.so k18493 12 0 6 0)]),(.nat .i64 0)]), ⟨(tn (tn (tl (tn (tr (tr (tr (tl (tl (tl (tl (tr (tl
  (tl (.nd .lf (.row [(.nat .i64 3),(.nat .i64 3),(.str [48]),(.nat .i64 1),(.nat .i64 3),(.nat .i64 3),(.str [48]),(.nat .i64 2)] 8 158 true 0 0 0)
  .lf))))))))))) (tn (tr (tl (tl (tl (tr (tl (tl (tl (tl (.nd .lf (.row [(.nat .i64 2),(.nat .i64 0),(.str [48]),(.nat .i64 2)] 4 158 true 0 0 0) .lf))))))))))
  (tr (tr (tr (tr (tl (tl (tl (tl (tl (.nd .lf (.row [(.nat .i64 1),(.nat .i64 1),(.str [48]),(.nat .i64 1),(.nat .i64 2),(.nat .i64 2),(.str [48]),(.nat .i64
  2),(.nat .i64 3),(.nat .i64 3),(.str [48]),(.nat .i64 2),(.nat .i64 4),(.nat .i64 4),(.str [48]),(.nat .i64 2),(.nat .i64 0),(.nat .i64 4),(.str [48]),(.nat
  .i64 3)] 20 158 true 0 0 0) .lf))))))))))))) (tl (tn (tn (tl (tn (tl (tl (tr (tl (tl (tl (tl (.nd .lf (.row [(.str [48]),(.so k16888 20 0 5 0),(.str
  [48]),(.so k16903 16 0 4 0),(.str [48]),(.so k16915 20 0 5 0),(.str []),(.so k16929 4 0 1 0),(.str []),(.so k16936 4 0 1 0)] 10 163 true 0 0 0) .lf))))))))
  (tl (tl (tl (tl (tr (tl (tl (.nd .lf (.row [(.nat .i64 1),(.nat .i64 1),(.str [48]),(.nat .i64 1),(.nat .i64 1),(.nat .i64 1),(.str [48]),(.nat .i64 2),(.nat
  .i64 2),(.nat .i64 2),(.str [48]),(.nat .i64 3),(.nat .i64 2),(.nat .i64 2),(.str [48]),(.nat .i64 4),(.nat .i64 4),(.nat .i64 4),(.str [48]),(.nat .i64
  1),(.nat .i64 4),(.nat .i64 4),(.str [48]),(.nat .i64 2)] 24 158 true 0 0 0) .lf)))))))))) (tl (tr (tl (tl (tl (tl (tr (tl (tl (.nd .lf (.row [(.nat .i64
  3),(.nat .i64 3),(.str [48]),(.nat .i64 1),(.nat .i64 3),(.nat .i64 3),(.str [48]),(.nat .i64 2)] 8 158 true 0 0 0) .lf))))))))))) (tn (tr (tn (tl (tl (tr (tl
  (tl (tl (tl (.nd .lf (.row [(.nat .i64 1),(.nat .i64 0),(.str [48]),(.so k16898 10 0 5 0)] 4 24 false 0 0 0) .lf)))))))) (tl (tl (tl (tl (tr (tl (tl (.nd .lf
  (.row [(.nat .i64 5),(.nat .i64 5),(.str [48]),(.nat .i64 5)] 4 158 true 0 0 0) .lf)))))))))) (tl (tr (tl (tl (tl (tl (tr (tl (tl (.nd .lf (.row [(.nat .i64
  1),(.nat .i64 1),(.str [48]),(.nat .i64 1),(.nat .i64 1),(.nat .i64 1),(.str [48]),(.nat .i64 2),(.nat .i64 2),(.nat .i64 2),(.str [48]),(.nat .i64 3),(.nat
  .i64 2),(.nat .i64 2),(.str [48]),(.nat .i64 4),(.nat .i64 4),(.nat .i64 4),(.str [48]),(.nat .i64 1),(.nat .i64 4),(.nat .i64 4),(.str [48]),(.nat .i64 2)]
  24 158 true 0 0 0) .lf)))))))))))))) (tn (tn (tl (tl (tr (tl (tl (tl (tr (tl (tl (tl (tl (.nd .lf (.row [(.nat .i64 1),(.nat .i64 0),(.str [48]),(.nat .i64
  4)] 4 158 true 0 0 0) .lf)))))))))))) (tr (tn (tr (tl (tl (tl (tl (tl (tr (tl (tl (.nd .lf (.row [(.nat .i64 1),(.nat .i64 1),(.str [48]),(.nat .i64 1),(.nat
  .i64 1),(.nat .i64 1),(.str [48]),(.nat .i64 2),(.nat .i64 2),(.nat .i64 2),(.str [48]),(.nat .i64 3),(.nat .i64 2),(.nat .i64 2),(.str [48]),(.nat .i64
  4),(.nat .i64 4),(.nat .i64 4),(.str [48]),(.nat .i64 1),(.nat .i64 4),(.nat .i64 4),(.str [48]),(.nat .i64 2),(.nat .i64 3),(.nat .i64 3),(.str [48]),(.nat
  .i64 1),(.nat .i64 3),(.nat .i64 3),(.str [48]),(.nat .i64 2)] 32 158 true 0 0 0) .lf)))))))))) (tr (tl (tl (tl (tl (tl (tr (tl (tl (.nd .lf (.row [(.str
  [48]),(.so k18477 32 0 8 0),(.str [48]),(.so k18498 24 0 6 0),(.str []),(.so k18514 8 0 2 0),(.str [48]),(.so k18522 24 0 6 0),(.str []),(.so k18538 4 0 1
  0),(.str []),(.so k18544 8 0 2 0)] 12 163 true 0 0 0) .lf))))))))))))) (tn (tl (tr (tl (tl (tl (tl (tr (tl (tl (tl (tl (.nd .lf (.row [(.nat .i64 1),(.nat
  .i64 1),(.str [48]),(.nat .i64 1),(.nat .i64 2),(.nat .i64 2),(.str [48]),(.nat .i64 2),(.nat .i64 3),(.nat .i64 3),(.str [48]),(.nat .i64 2),(.nat .i64
  4),(.nat .i64 4),(.str [48]),(.nat .i64 2),(.nat .i64 0),(.nat .i64 4),(.str [48]),(.nat .i64 3)] 20 158 true 0 0 0) .lf)))))))))))) (tl (tl (tl (tl (tl (tl
  (tr (tl (tl (tl (tl (.nd .lf (.row [(.nat .i64 1),(.nat .i64 1),(.str [48]),(.nat .i64 1),(.nat .i64 3),(.nat .i64 3),(.str [48]),(.nat .i64 2),(.nat .i64
  4),(.nat .i64 4),(.str [48]),(.nat .i64 2),(.nat .i64 0),(.nat .i64 4),(.str [48]),(.nat .i64 3)] 16 158 true 0 0 0) .lf))))))))))))))), k18548⟩⟩
def hk16 : Hook := ⟨17, [(.ls 0 [(.nat .i64 1),(.nat .i64 0),(.str [48]),(.so k16898 10 0 5 0)]),(.sl k18549 0 0 4 4),(.sl k18550 0 0 3 3),(.bool true)], ⟨(tn
  (tn (tn (tn (tr (tr (tr (tl (tl (tl (tl (tr (tl (tl (.nd .lf (.row [(.nat .i64 3),(.nat .i64 3),(.str [48]),(.nat .i64 1),(.nat .i64 3),(.nat .i64 3),(.str
  [48]),(.nat .i64 2)] 8 158 true 0 0 0) .lf))))))))))) (tn (tr (tl (tl (tl (tr (tl (tl (tl (tl (.nd .lf (.row [(.nat .i64 2),(.nat .i64 0),(.str [48]),(.nat
  .i64 2)] 4 158 true 0 0 0) .lf)))))))))) (tr (tr (tr (tr (tl (tl (tl (tl (tl (.nd .lf (.row [(.nat .i64 1),(.nat .i64 1),(.str [48]),(.nat .i64 1),(.nat .i64
  2),(.nat .i64 2),(.str [48]),(.nat .i64 2),(.nat .i64 3),(.nat .i64 3),(.str [48]),(.nat .i64 2),(.nat .i64 4),(.nat .i64 4),(.str [48]),(.nat .i64 2),(.nat
  .i64 0),(.nat .i64 4),(.str [48]),(.nat .i64 3)] 20 158 true 0 0 0) .lf)))))))))))) (tl (tr (tr (tr (tl (tl (tl (tl (tr (tl (tl (.nd .lf (.row [(.nat .i64
  1),(.nat .i64 0),(.str [48]),(.so k18493 12 0 6 0)] 4 24 false 0 0 0) .lf))))))))))))) (tn (tn (tn (tl (tn (tl (tl (tr (tl (tl (tl (tl (.nd .lf (.row [(.str
  [48]),(.so k16888 20 0 5 0),(.str [48]),(.so k16903 16 0 4 0),(.str [48]),(.so k16915 20 0 5 0),(.str []),(.so k16929 4 0 1 0),(.str []),(.so k16936 4 0 1 0)]
  10 163 true 0 0 0) .lf)))))))) (tl (tl (tl (tl (tr (tl (tl (.nd .lf (.row [(.nat .i64 1),(.nat .i64 1),(.str [48]),(.nat .i64 1),(.nat .i64 1),(.nat .i64
  1),(.str [48]),(.nat .i64 2),(.nat .i64 2),(.nat .i64 2),(.str [48]),(.nat .i64 3),(.nat .i64 2),(.nat .i64 2),(.str [48]),(.nat .i64 4),(.nat .i64 4),(.nat
  .i64 4),(.str [48]),(.nat .i64 1),(.nat .i64 4),(.nat .i64 4),(.str [48]),(.nat .i64 2)] 24 158 true 0 0 0) .lf)))))))))) (tl (tr (tl (tl (tl (tl (tr (tl (tl
  (.nd .lf (.row [(.nat .i64 3),(.nat .i64 3),(.str [48]),(.nat .i64 1),(.nat .i64 3),(.nat .i64 3),(.str [48]),(.nat .i64 2)] 8 158 true 0 0 0) .lf)))))))))))
  (tn (tr (tn (tl (tl (tr (tl (tl (tl (tl (.nd .lf (.row [(.nat .i64 1),(.nat .i64 0),(.str [48]),(.so k16898 10 0 5 0)] 4 24 false 0 0 0) .lf)))))))) (tl (tl
  (tl (tl (tr (tl (tl (.nd .lf (.row [(.nat .i64 5),(.nat .i64 5),(.str [48]),(.nat .i64 5)] 4 158 true 0 0 0) .lf)))))))))) (tl (tr (tl (tl (tl (tl (tr (tl (tl
  (.nd .lf (.row [(.nat .i64 1),(.nat .i64 1),(.str [48]),(.nat .i64 1),(.nat .i64 1),(.nat .i64 1),(.str [48]),(.nat .i64 2),(.nat .i64 2),(.nat .i64 2),(.str
  [48]),(.nat .i64 3),(.nat .i64 2),(.nat .i64 2),(.str [48]),(.nat .i64 4),(.nat .i64 4),(.nat .i64 4),(.str [48]),(.nat .i64 1),(.nat .i64 4),(.nat .i64
  4),(.str [48]),(.nat .i64 2)] 24 158 true 0 0 0) .lf)))))))))))) (tl (tr (tr (tr (tl (tl (tl (tl (tr (tl (tl (.nd .lf (.row [(.nat .i64 1),(.nat .i64 4),(.nat
  .i64 2)] 3 3 false 0 0 0) .lf)))))))))))))) (tn (tn (tl (tl (tr (tl (tl (tl (tr (tl (tl (tl (tl (.nd .lf (.row [(.nat .i64 1),(.nat .i64 0),(.str [48]),(.nat
  .i64 4)] 4 158 true 0 0 0) .lf)))))))))))) (tn (tr (tr (tr (tl (tl (tl (tl (tr (tl (tl (.nd .lf (.row [(.nat .i64 1),(.nat .i64 1),(.nat .i64 2),(.nat .i64
  2)] 4 3 false 0 0 0) .lf))))))))))) (tn (tr (tl (tl (tl (tl (tl (tr (tl (tl (.nd .lf (.row [(.nat .i64 1),(.nat .i64 1),(.str [48]),(.nat .i64 1),(.nat .i64
  1),(.nat .i64 1),(.str [48]),(.nat .i64 2),(.nat .i64 2),(.nat .i64 2),(.str [48]),(.nat .i64 3),(.nat .i64 2),(.nat .i64 2),(.str [48]),(.nat .i64 4),(.nat
  .i64 4),(.nat .i64 4),(.str [48]),(.nat .i64 1),(.nat .i64 4),(.nat .i64 4),(.str [48]),(.nat .i64 2),(.nat .i64 3),(.nat .i64 3),(.str [48]),(.nat .i64
  1),(.nat .i64 3),(.nat .i64 3),(.str [48]),(.nat .i64 2)] 32 158 true 0 0 0) .lf)))))))))) (tr (tl (tl (tl (tl (tl (tr (tl (tl (.nd .lf (.row [(.str
  [48]),(.so k18477 32 0 8 0),(.str [48]),(.so k18498 24 0 6 0),(.str []),(.so k18514 8 0 2 0),(.str [48]),(.so k18522 24 0 6 0),(.str []),(.so k18538 4 0 1
  0),(.str []),(.so k18544 8 0 2 0)] 12 163 true 0 0 0) .lf))))))))))))) (tn (tl (tr (tl (tl (tl (tl (tr (tl (tl (tl (tl (.nd .lf (.row [(.nat .i64 1),(.nat
  .i64 1),(.str [48]),(.nat .i64 1),(.nat .i64 2),(.nat .i64 2),(.str [48]),(.nat .i64 2),(.nat .i64 3),(.nat .i64 3),(.str [48]),(.nat .i64 2),(.nat .i64
  4),(.nat .i64 4),(.str [48]),(.nat .i64 2),(.nat .i64 0),(.nat .i64 4),(.str [48]),(.nat .i64 3)] 20 158 true 0 0 0) .lf)))))))))))) (tl (tl (tl (tl (tl (tl
  (tr (tl (tl (tl (tl (.nd .lf (.row [(.nat .i64 1),(.nat .i64 1),(.str [48]),(.nat .i64 1),(.nat .i64 3),(.nat .i64 3),(.str [48]),(.nat .i64 2),(.nat .i64
  4),(.nat .i64 4),(.str [48]),(.nat .i64 2),(.nat .i64 0),(.nat .i64 4),(.str [48]),(.nat .i64 3)] 16 158 true 0 0 0) .lf))))))))))))))), k18551⟩, (.bool
  true), ⟨(tn (tn (tn (tn (tr (tr (tr (tl (tl (tl (tl (tr (tl (tl (.nd .lf (.row [(.nat .i64 3),(.nat .i64 3),(.str [48]),(.nat .i64 1),(.nat .i64 3),(.nat .i64
  3),(.str [48]),(.nat .i64 2)] 8 158 true 0 0 0) .lf))))))))))) (tn (tr (tl (tl (tl (tr (tl (tl (tl (tl (.nd .lf (.row [(.nat .i64 2),(.nat .i64 0),(.str
  [48]),(.nat .i64 2)] 4 158 true 0 0 0) .lf)))))))))) (tr (tr (tr (tr (tl (tl (tl (tl (tl (.nd .lf (.row [(.nat .i64 1),(.nat .i64 1),(.str [48]),(.nat .i64
  1),(.nat .i64 2),(.nat .i64 2),(.str [48]),(.nat .i64 2),(.nat .i64 3),(.nat .i64 3),(.str [48]),(.nat .i64 2),(.nat .i64 4),(.nat .i64 4),(.str [48]),(.nat
  .i64 2),(.nat .i64 0),(.nat .i64 4),(.str [48]),(.nat .i64 3)] 20 158 true 0 0 0) .lf)))))))))))) (tl (tr (tr (tr (tl (tl (tl (tl (tr (tl (tl (.nd .lf (.row
  [(.nat .i64 1),(.nat .i64 0),(.str [48]),(.so k18493 12 0 6 0)] 4 24 false 0 0 0) .lf))))))))))))) (tl (tn (tn (tl (tn (tl (tl (tr (tl (tl (tl (tl (.nd .lf
  (.row [(.str [48]),(.so k16888 20 0 5 0),(.str [48]),(.so k16903 16 0 4 0),(.str [48]),(.so k16915 20 0 5 0),(.str []),(.so k16929 4 0 1 0),(.str []),(.so
  k16936 4 0 1 0)] 10 163 true 0 0 0) .lf)))))))) (tl (tl (tl (tl (tr (tl (tl (.nd .lf (.row [(.nat .i64 1),(.nat .i64 1),(.str [48]),(.nat .i64 1),(.nat .i64
  1),(.nat .i64 1),(.str [48]),(.nat .i64 2),(.nat .i64 2),(.nat .i64 2),(.str [48]),(.nat .i64 3),(.nat .i64 2),(.nat .i64 2),(.str [48]),(.nat .i64 4),(.nat
  .i64 4),(.nat .i64 4),(.str [48]),(.nat .i64 1),(.nat .i64 4),(.nat .i64 4),(.str [48]),(.nat .i64 2)] 24 158 true 0 0 0) .lf)))))))))) (tl (tr (tl (tl (tl
  (tl (tr (tl (tl (.nd .lf (.row [(.nat .i64 3),(.nat .i64 3),(.str [48]),(.nat .i64 1),(.nat .i64 3),(.nat .i64 3),(.str [48]),(.nat .i64 2)] 8 158 true 0 0 0)
  .lf))))))))))) (tn (tr (tn (tl (tl (tr (tl (tl (tl (tl (.nd .lf (.row [(.nat .i64 1),(.nat .i64 0),(.str [48]),(.so k16898 10 0 5 0)] 4 24 false 0 0 0)
  .lf)))))))) (tl (tl (tl (tl (tr (tl (tl (.nd .lf (.row [(.nat .i64 5),(.nat .i64 5),(.str [48]),(.nat .i64 5)] 4 158 true 0 0 0) .lf)))))))))) (tl (tr (tl (tl
  (tl (tl (tr (tl (tl (.nd .lf (.row [(.nat .i64 1),(.nat .i64 1),(.str [48]),(.nat .i64 1),(.nat .i64 1),(.nat .i64 1),(.str [48]),(.nat .i64 2),(.nat .i64
  2),(.nat .i64 2),(.str [48]),(.nat .i64 3),(.nat .i64 2),(.nat .i64 2),(.str [48]),(.nat .i64 4),(.nat .i64 4),(.nat .i64 4),(.str [48]),(.nat .i64 1),(.nat
  .i64 4),(.nat .i64 4),(.str [48]),(.nat .i64 2)] 24 158 true 0 0 0) .lf)))))))))))))) (tn (tn (tl (tl (tr (tl (tl (tl (tr (tl (tl (tl (tl (.nd .lf (.row
  [(.nat .i64 1),(.nat .i64 0),(.str [48]),(.nat .i64 4)] 4 158 true 0 0 0) .lf)))))))))))) (tr (tn (tr (tl (tl (tl (tl (tl (tr (tl (tl (.nd .lf (.row [(.nat
  .i64 1),(.nat .i64 1),(.str [48]),(.nat .i64 1),(.nat .i64 1),(.nat .i64 1),(.str [48]),(.nat .i64 2),(.nat .i64 2),(.nat .i64 2),(.str [48]),(.nat .i64
  3),(.nat .i64 2),(.nat .i64 2),(.str [48]),(.nat .i64 4),(.nat .i64 4),(.nat .i64 4),(.str [48]),(.nat .i64 1),(.nat .i64 4),(.nat .i64 4),(.str [48]),(.nat
  .i64 2),(.nat .i64 3),(.nat .i64 3),(.str [48]),(.nat .i64 1),(.nat .i64 3),(.nat .i64 3),(.str [48]),(.nat .i64 2)] 32 158 true 0 0 0) .lf)))))))))) (tr (tl
  (tl (tl (tl (tl (tr (tl (tl (.nd .lf (.row [(.str [48]),(.so k18477 32 0 8 0),(.str [48]),(.so k18498 24 0 6 0),(.str []),(.so k18514 8 0 2 0),(.str
  [48]),(.so k18522 24 0 6 0),(.str []),(.so k18538 4 0 1 0),(.str []),(.so k18544 8 0 2 0)] 12 163 true 0 0 0) .lf))))))))))))) (tn (tl (tr (tl (tl (tl (tl (tr
  (tl (tl (tl (tl (.nd .lf (.row [(.nat .i64 1),(.nat .i64 1),(.str [48]),(.nat .i64 1),(.nat .i64 2),(.nat .i64 2),(.str [48]),(.nat .i64 2),(.nat .i64
  3),(.nat .i64 3),(.str [48]),(.nat .i64 2),(.nat .i64 4),(.nat .i64 4),(.str [48]),(.nat .i64 2),(.nat .i64 0),(.nat .i64 4),(.str [48]),(.nat .i64 3)] 20 158
  true 0 0 0) .lf)))))))))))) (tl (tl (tl (tl (tl (tl (tr (tl (tl (tl (tl (.nd .lf (.row [(.nat .i64 1),(.nat .i64 1),(.str [48]),(.nat .i64 1),(.nat .i64
  3),(.nat .i64 3),(.str [48]),(.nat .i64 2),(.nat .i64 4),(.nat .i64 4),(.str [48]),(.nat .i64 2),(.nat .i64 0),(.nat .i64 4),(.str [48]),(.nat .i64 3)] 16 158
  true 0 0 0) .lf))))))))))))))), k19315⟩⟩
def hk17 : Hook := ⟨17, [(.ls 0 [(.nat .i64 1),(.nat .i64 0),(.str [48]),(.so k16898 10 0 5 0)]),(.sl k19315 0 0 2 2),(.sl k19316 0 0 2 2),(.bool false)], ⟨(tn
  (tn (tn (tn (tr (tr (tr (tl (tl (tl (tl (tr (tl (tl (.nd .lf (.row [(.nat .i64 3),(.nat .i64 3),(.str [48]),(.nat .i64 1),(.nat .i64 3),(.nat .i64 3),(.str
  [48]),(.nat .i64 2)] 8 158 true 0 0 0) .lf))))))))))) (tn (tr (tl (tl (tl (tr (tl (tl (tl (tl (.nd .lf (.row [(.nat .i64 2),(.nat .i64 0),(.str [48]),(.nat
  .i64 2)] 4 158 true 0 0 0) .lf)))))))))) (tr (tr (tr (tr (tl (tl (tl (tl (tl (.nd .lf (.row [(.nat .i64 1),(.nat .i64 1),(.str [48]),(.nat .i64 1),(.nat .i64
  2),(.nat .i64 2),(.str [48]),(.nat .i64 2),(.nat .i64 3),(.nat .i64 3),(.str [48]),(.nat .i64 2),(.nat .i64 4),(.nat .i64 4),(.str [48]),(.nat .i64 2),(.nat
  .i64 0),(.nat .i64 4),(.str [48]),(.nat .i64 3)] 20 158 true 0 0 0) .lf)))))))))))) (tl (tr (tr (tr (tl (tn (tl (tl (tr (tl (tl (.nd .lf (.row [(.nat .i64
  1),(.nat .i64 0),(.str [48]),(.so k18493 12 0 6 0)] 4 24 false 0 0 0) .lf)))))) (tr (tl (tr (tl (tl (.nd .lf (.row [(.nat .i64 1),(.nat .i64 2)] 2 3 false 0 0
  0) .lf))))))))))))) (tl (tn (tn (tl (tn (tl (tl (tr (tl (tl (tl (tl (.nd .lf (.row [(.str [48]),(.so k16888 20 0 5 0),(.str [48]),(.so k16903 16 0 4 0),(.str
  [48]),(.so k16915 20 0 5 0),(.str []),(.so k16929 4 0 1 0),(.str []),(.so k16936 4 0 1 0)] 10 163 true 0 0 0) .lf)))))))) (tl (tl (tl (tl (tr (tl (tl (.nd .lf
  (.row [(.nat .i64 1),(.nat .i64 1),(.str [48]),(.nat .i64 1),(.nat .i64 1),(.nat .i64 1),(.str [48]),(.nat .i64 2),(.nat .i64 2),(.nat .i64 2),(.str
  [48]),(.nat .i64 3),(.nat .i64 2),(.nat .i64 2),(.str [48]),(.nat .i64 4),(.nat .i64 4),(.nat .i64 4),(.str [48]),(.nat .i64 1),(.nat .i64 4),(.nat .i64
  4),(.str [48]),(.nat .i64 2)] 24 158 true 0 0 0) .lf)))))))))) (tl (tr (tl (tl (tl (tl (tr (tl (tl (.nd .lf (.row [(.nat .i64 3),(.nat .i64 3),(.str
  [48]),(.nat .i64 1),(.nat .i64 3),(.nat .i64 3),(.str [48]),(.nat .i64 2)] 8 158 true 0 0 0) .lf))))))))))) (tn (tr (tr (tl (tl (tl (tl (tr (tl (tl (.nd .lf
  (.row [(.nat .i64 5),(.nat .i64 5),(.str [48]),(.nat .i64 5)] 4 158 true 0 0 0) .lf)))))))))) (tl (tr (tl (tl (tl (tl (tr (tl (tl (.nd .lf (.row [(.nat .i64
  1),(.nat .i64 1),(.str [48]),(.nat .i64 1),(.nat .i64 1),(.nat .i64 1),(.str [48]),(.nat .i64 2),(.nat .i64 2),(.nat .i64 2),(.str [48]),(.nat .i64 3),(.nat
  .i64 2),(.nat .i64 2),(.str [48]),(.nat .i64 4),(.nat .i64 4),(.nat .i64 4),(.str [48]),(.nat .i64 1),(.nat .i64 4),(.nat .i64 4),(.str [48]),(.nat .i64 2)]
  24 158 true 0 0 0) .lf)))))))))))))) (tn (tn (tl (tl (tr (tl (tl (tl (tr (tl (tl (tl (tl (.nd .lf (.row [(.nat .i64 1),(.nat .i64 0),(.str [48]),(.nat .i64
  4)] 4 158 true 0 0 0) .lf)))))))))))) (tr (tn (tr (tl (tl (tl (tl (tl (tr (tl (tl (.nd .lf (.row [(.nat .i64 1),(.nat .i64 1),(.str [48]),(.nat .i64 1),(.nat
  .i64 1),(.nat .i64 1),(.str [48]),(.nat .i64 2),(.nat .i64 2),(.nat .i64 2),(.str [48]),(.nat .i64 3),(.nat .i64 2),(.nat .i64 2),(.str [48]),(.nat .i64
  4),(.nat .i64 4),(.nat .i64 4),(.str [48]),(.nat .i64 1),(.nat .i64 4),(.nat .i64 4),(.str [48]),(.nat .i64 2),(.nat .i64 3),(.nat .i64 3),(.str [48]),(.nat
  .i64 1),(.nat .i64 3),(.nat .i64 3),(.str [48]),(.nat .i64 2)] 32 158 true 0 0 0) .lf)))))))))) (tr (tl (tl (tl (tl (tl (tr (tl (tl (.nd .lf (.row [(.str
  [48]),(.so k18477 32 0 8 0),(.str [48]),(.so k18498 24 0 6 0),(.str []),(.so k18514 8 0 2 0),(.str [48]),(.so k18522 24 0 6 0),(.str []),(.so k18538 4 0 1
  0),(.str []),(.so k18544 8 0 2 0)] 12 163 true 0 0 0) .lf))))))))))))) (tn (tl (tr (tn (tl (tl (tl (tr (tl (tl (tl (tl (.nd .lf (.row [(.nat .i64 1),(.nat
  .i64 1),(.str [48]),(.nat .i64 1),(.nat .i64 2),(.nat .i64 2),(.str [48]),(.nat .i64 2),(.nat .i64 3),(.nat .i64 3),(.str [48]),(.nat .i64 2),(.nat .i64
  4),(.nat .i64 4),(.str [48]),(.nat .i64 2),(.nat .i64 0),(.nat .i64 4),(.str [48]),(.nat .i64 3)] 20 158 true 0 0 0) .lf))))))))) (tr (tl (tr (tr (tl (tr (tl
  (tl (.nd .lf (.row [(.nat .i64 1),(.nat .i64 2)] 2 3 false 0 0 0) .lf)))))))))))) (tl (tl (tl (tl (tl (tl (tr (tl (tl (tl (tl (.nd .lf (.row [(.nat .i64
  1),(.nat .i64 1),(.str [48]),(.nat .i64 1),(.nat .i64 3),(.nat .i64 3),(.str [48]),(.nat .i64 2),(.nat .i64 4),(.nat .i64 4),(.str [48]),(.nat .i64 2),(.nat
  .i64 0),(.nat .i64 4),(.str [48]),(.nat .i64 3)] 16 158 true 0 0 0) .lf))))))))))))))), k19317⟩, (.bool true), ⟨(tn (tn (tn (tl (tr (tr (tr (tl (tl (tl (tl
  (tr (tl (tl (.nd .lf (.row [(.nat .i64 3),(.nat .i64 3),(.str [48]),(.nat .i64 1),(.nat .i64 3),(.nat .i64 3),(.str [48]),(.nat .i64 2)] 8 158 true 0 0 0)
  .lf)))))))))))) (tl (tr (tr (tr (tl (tl (tl (tl (tr (tl (tl (.nd .lf (.row [(.nat .i64 1),(.nat .i64 0),(.str [48]),(.so k18493 12 0 6 0)] 4 24 false 0 0 0)
  .lf))))))))))))) (tl (tn (tn (tl (tr (tl (tl (tl (tl (tr (tl (tl (.nd .lf (.row [(.nat .i64 1),(.nat .i64 1),(.str [48]),(.nat .i64 1),(.nat .i64 1),(.nat
  .i64 1),(.str [48]),(.nat .i64 2),(.nat .i64 2),(.nat .i64 2),(.str [48]),(.nat .i64 3),(.nat .i64 2),(.nat .i64 2),(.str [48]),(.nat .i64 4),(.nat .i64
  4),(.nat .i64 4),(.str [48]),(.nat .i64 1),(.nat .i64 4),(.nat .i64 4),(.str [48]),(.nat .i64 2)] 24 158 true 0 0 0) .lf)))))))))) (tl (tr (tl (tl (tl (tl (tr
  (tl (tl (.nd .lf (.row [(.nat .i64 3),(.nat .i64 3),(.str [48]),(.nat .i64 1),(.nat .i64 3),(.nat .i64 3),(.str [48]),(.nat .i64 2)] 8 158 true 0 0 0)
  .lf))))))))))) (tn (tr (tr (tl (tl (tl (tl (tr (tl (tl (.nd .lf (.row [(.nat .i64 5),(.nat .i64 5),(.str [48]),(.nat .i64 5)] 4 158 true 0 0 0) .lf))))))))))
  (tl (tr (tl (tl (tl (tl (tr (tl (tl (.nd .lf (.row [(.nat .i64 1),(.nat .i64 1),(.str [48]),(.nat .i64 1),(.nat .i64 1),(.nat .i64 1),(.str [48]),(.nat .i64
  2),(.nat .i64 2),(.nat .i64 2),(.str [48]),(.nat .i64 3),(.nat .i64 2),(.nat .i64 2),(.str [48]),(.nat .i64 4),(.nat .i64 4),(.nat .i64 4),(.str [48]),(.nat
  .i64 1),(.nat .i64 4),(.nat .i64 4),(.str [48]),(.nat .i64 2)] 24 158 true 0 0 0) .lf)))))))))))))) (tl (tr (tr (tn (tr (tl (tl (tl (tl (tl (tr (tl (tl (.nd
  .lf (.row [(.nat .i64 1),(.nat .i64 1),(.str [48]),(.nat .i64 1),(.nat .i64 1),(.nat .i64 1),(.str [48]),(.nat .i64 2),(.nat .i64 2),(.nat .i64 2),(.str
  [48]),(.nat .i64 3),(.nat .i64 2),(.nat .i64 2),(.str [48]),(.nat .i64 4),(.nat .i64 4),(.nat .i64 4),(.str [48]),(.nat .i64 1),(.nat .i64 4),(.nat .i64
  4),(.str [48]),(.nat .i64 2),(.nat .i64 3),(.nat .i64 3),(.str [48]),(.nat .i64 1),(.nat .i64 3),(.nat .i64 3),(.str [48]),(.nat .i64 2)] 32 158 true 0 0 0)
  .lf)))))))))) (tr (tl (tl (tl (tl (tl (tr (tl (tl (.nd .lf (.row [(.str [48]),(.so k18477 32 0 8 0),(.str [48]),(.so k18498 24 0 6 0),(.str []),(.so k18514 8
  0 2 0),(.str [48]),(.so k18522 24 0 6 0),(.str []),(.so k18538 4 0 1 0),(.str []),(.so k18544 8 0 2 0)] 12 163 true 0 0 0) .lf))))))))))))))), k19607⟩⟩
def hk18 : Hook := ⟨17, [(.ls 0 [(.nat .i64 1),(.nat .i64 0),(.str [48]),(.so k18493 12 0 6 0)]),(.sl k19607 0 0 3 3),(.sl k19608 0 0 3 3),(.bool true)], ⟨(tn
  (tn (tn (tn (tr (tr (tr (tl (tl (tl (tl (tr (tl (tl (.nd .lf (.row [(.nat .i64 3),(.nat .i64 3),(.str [48]),(.nat .i64 1),(.nat .i64 3),(.nat .i64 3),(.str
  [48]),(.nat .i64 2)] 8 158 true 0 0 0) .lf))))))))))) (tr (tl (tl (tr (tl (tl (tr (tr (tl (tl (.nd .lf (.row [(.nat .i64 2),(.nat .i64 5),(.nat .i64 3)] 3 3
  false 0 0 0) .lf)))))))))))) (tl (tr (tr (tr (tl (tl (tl (tl (tr (tl (tl (.nd .lf (.row [(.nat .i64 1),(.nat .i64 0),(.str [48]),(.so k18493 12 0 6 0)] 4 24
  false 0 0 0) .lf))))))))))))) (tl (tn (tn (tl (tr (tl (tl (tl (tl (tr (tl (tl (.nd .lf (.row [(.nat .i64 1),(.nat .i64 1),(.str [48]),(.nat .i64 1),(.nat .i64
  1),(.nat .i64 1),(.str [48]),(.nat .i64 2),(.nat .i64 2),(.nat .i64 2),(.str [48]),(.nat .i64 3),(.nat .i64 2),(.nat .i64 2),(.str [48]),(.nat .i64 4),(.nat
  .i64 4),(.nat .i64 4),(.str [48]),(.nat .i64 1),(.nat .i64 4),(.nat .i64 4),(.str [48]),(.nat .i64 2)] 24 158 true 0 0 0) .lf)))))))))) (tl (tr (tl (tl (tl
  (tl (tr (tl (tl (.nd .lf (.row [(.nat .i64 3),(.nat .i64 3),(.str [48]),(.nat .i64 1),(.nat .i64 3),(.nat .i64 3),(.str [48]),(.nat .i64 2)] 8 158 true 0 0 0)
  .lf))))))))))) (tn (tr (tr (tl (tl (tl (tl (tr (tl (tl (.nd .lf (.row [(.nat .i64 5),(.nat .i64 5),(.str [48]),(.nat .i64 5)] 4 158 true 0 0 0) .lf))))))))))
  (tl (tr (tl (tl (tl (tl (tr (tl (tl (.nd .lf (.row [(.nat .i64 1),(.nat .i64 1),(.str [48]),(.nat .i64 1),(.nat .i64 1),(.nat .i64 1),(.str [48]),(.nat .i64
  2),(.nat .i64 2),(.nat .i64 2),(.str [48]),(.nat .i64 3),(.nat .i64 2),(.nat .i64 2),(.str [48]),(.nat .i64 4),(.nat .i64 4),(.nat .i64 4),(.str [48]),(.nat
  .i64 1),(.nat .i64 4),(.nat .i64 4),(.str [48]),(.nat .i64 2)] 24 158 true 0 0 0) .lf)))))))))))))) (tn (tr (tr (tn (tr (tl (tl (tl (tl (tl (tr (tl (tl (.nd
  .lf (.row [(.nat .i64 1),(.nat .i64 1),(.str [48]),(.nat .i64 1),(.nat .i64 1),(.nat .i64 1),(.str [48]),(.nat .i64 2),(.nat .i64 2),(.nat .i64 2),(.str
  [48]),(.nat .i64 3),(.nat .i64 2),(.nat .i64 2),(.str [48]),(.nat .i64 4),(.nat .i64 4),(.nat .i64 4),(.str [48]),(.nat .i64 1),(.nat .i64 4),(.nat .i64
  4),(.str [48]),(.nat .i64 2),(.nat .i64 3),(.nat .i64 3),(.str [48]),(.nat .i64 1),(.nat .i64 3),(.nat .i64 3),(.str [48]),(.nat .i64 2)] 32 158 true 0 0 0)
  .lf)))))))))) (tr (tl (tl (tl (tl (tl (tr (tl (tl (.nd .lf (.row [(.str [48]),(.so k18477 32 0 8 0),(.str [48]),(.so k18498 24 0 6 0),(.str []),(.so k18514 8
  0 2 0),(.str [48]),(.so k18522 24 0 6 0),(.str []),(.so k18538 4 0 1 0),(.str []),(.so k18544 8 0 2 0)] 12 163 true 0 0 0) .lf))))))))))))) (tr (tl (tr (tl
  (tl (tr (tl (tl (tr (tr (tl (tl (.nd .lf (.row [(.nat .i64 2),(.nat .i64 5),(.nat .i64 3)] 3 3 false 0 0 0) .lf))))))))))))))), k19609⟩, (.bool true), ⟨(tn
  (tn (tn (tl (tr (tr (tr (tl (tl (tl (tl (tr (tl (tl (.nd .lf (.row [(.nat .i64 3),(.nat .i64 3),(.str [48]),(.nat .i64 1),(.nat .i64 3),(.nat .i64 3),(.str
  [48]),(.nat .i64 2)] 8 158 true 0 0 0) .lf)))))))))))) (tl (tr (tr (tr (tl (tl (tl (tl (tr (tl (tl (.nd .lf (.row [(.nat .i64 1),(.nat .i64 0),(.str
  [48]),(.so k18493 12 0 6 0)] 4 24 false 0 0 0) .lf))))))))))))) (tl (tn (tn (tl (tr (tl (tl (tl (tl (tr (tl (tl (.nd .lf (.row [(.nat .i64 1),(.nat .i64
  1),(.str [48]),(.nat .i64 1),(.nat .i64 1),(.nat .i64 1),(.str [48]),(.nat .i64 2),(.nat .i64 2),(.nat .i64 2),(.str [48]),(.nat .i64 3),(.nat .i64 2),(.nat
  .i64 2),(.str [48]),(.nat .i64 4),(.nat .i64 4),(.nat .i64 4),(.str [48]),(.nat .i64 1),(.nat .i64 4),(.nat .i64 4),(.str [48]),(.nat .i64 2)] 24 158 true 0 0
  0) .lf)))))))))) (tl (tr (tl (tl (tl (tl (tr (tl (tl (.nd .lf (.row [(.nat .i64 3),(.nat .i64 3),(.str [48]),(.nat .i64 1),(.nat .i64 3),(.nat .i64 3),(.str
  [48]),(.nat .i64 2)] 8 158 true 0 0 0) .lf))))))))))) (tn (tr (tr (tl (tl (tl (tl (tr (tl (tl (.nd .lf (.row [(.nat .i64 5),(.nat .i64 5),(.str [48]),(.nat
  .i64 5)] 4 158 true 0 0 0) .lf)))))))))) (tl (tr (tl (tl (tl (tl (tr (tl (tl (.nd .lf (.row [(.nat .i64 1),(.nat .i64 1),(.str [48]),(.nat .i64 1),(.nat .i64
  1),(.nat .i64 1),(.str [48]),(.nat .i64 2),(.nat .i64 2),(.nat .i64 2),(.str [48]),(.nat .i64 3),(.nat .i64 2),(.nat .i64 2),(.str [48]),(.nat .i64 4),(.nat
  .i64 4),(.nat .i64 4),(.str [48]),(.nat .i64 1),(.nat .i64 4),(.nat .i64 4),(.str [48]),(.nat .i64 2)] 24 158 true 0 0 0) .lf)))))))))))))) (tl (tr (tr (tn
  (tr (tl (tl (tl (tl (tl (tr (tl (tl (.nd .lf (.row [(.nat .i64 1),(.nat .i64 1),(.str [48]),(.nat .i64 1),(.nat .i64 1),(.nat .i64 1),(.str [48]),(.nat .i64
  2),(.nat .i64 2),(.nat .i64 2),(.str [48]),(.nat .i64 3),(.nat .i64 2),(.nat .i64 2),(.str [48]),(.nat .i64 4),(.nat .i64 4),(.nat .i64 4),(.str [48]),(.nat
  .i64 1),(.nat .i64 4),(.nat .i64 4),(.str [48]),(.nat .i64 2),(.nat .i64 3),(.nat .i64 3),(.str [48]),(.nat .i64 1),(.nat .i64 3),(.nat .i64 3),(.str
  [48]),(.nat .i64 2)] 32 158 true 0 0 0) .lf)))))))))) (tr (tl (tl (tl (tl (tl (tr (tl (tl (.nd .lf (.row [(.str [48]),(.so k18477 32 0 8 0),(.str [48]),(.so
  k18498 24 0 6 0),(.str []),(.so k18514 8 0 2 0),(.str [48]),(.so k18522 24 0 6 0),(.str []),(.so k18538 4 0 1 0),(.str []),(.so k18544 8 0 2 0)] 12 163 true 0
  0 0) .lf))))))))))))))), k20382⟩⟩
def hk19 : Hook := ⟨17, [(.ls 0 [(.nat .i64 1),(.nat .i64 0),(.str [48]),(.so k18493 12 0 6 0)]),(.sl k20382 0 0 2 2),(.sl k20383 0 0 2 2),(.bool false)], ⟨(tn
  (tn (tl (tl (tr (tr (tr (tl (tl (tl (tl (tr (tl (tl (.nd .lf (.row [(.nat .i64 3),(.nat .i64 3),(.str [48]),(.nat .i64 1),(.nat .i64 3),(.nat .i64 3),(.str
  [48]),(.nat .i64 2)] 8 158 true 0 0 0) .lf))))))))))))) (tn (tn (tn (tl (tr (tl (tl (tl (tl (tr (tl (tl (.nd .lf (.row [(.nat .i64 1),(.nat .i64 1),(.str
  [48]),(.nat .i64 1),(.nat .i64 1),(.nat .i64 1),(.str [48]),(.nat .i64 2),(.nat .i64 2),(.nat .i64 2),(.str [48]),(.nat .i64 3),(.nat .i64 2),(.nat .i64
  2),(.str [48]),(.nat .i64 4),(.nat .i64 4),(.nat .i64 4),(.str [48]),(.nat .i64 1),(.nat .i64 4),(.nat .i64 4),(.str [48]),(.nat .i64 2)] 24 158 true 0 0 0)
  .lf)))))))))) (tl (tr (tl (tl (tl (tl (tr (tl (tl (.nd .lf (.row [(.nat .i64 3),(.nat .i64 3),(.str [48]),(.nat .i64 1),(.nat .i64 3),(.nat .i64 3),(.str
  [48]),(.nat .i64 2)] 8 158 true 0 0 0) .lf))))))))))) (tn (tr (tr (tl (tl (tl (tl (tr (tl (tl (.nd .lf (.row [(.nat .i64 5),(.nat .i64 5),(.str [48]),(.nat
  .i64 5)] 4 158 true 0 0 0) .lf)))))))))) (tl (tr (tl (tl (tl (tl (tr (tl (tl (.nd .lf (.row [(.nat .i64 1),(.nat .i64 1),(.str [48]),(.nat .i64 1),(.nat .i64
  1),(.nat .i64 1),(.str [48]),(.nat .i64 2),(.nat .i64 2),(.nat .i64 2),(.str [48]),(.nat .i64 3),(.nat .i64 2),(.nat .i64 2),(.str [48]),(.nat .i64 4),(.nat
  .i64 4),(.nat .i64 4),(.str [48]),(.nat .i64 1),(.nat .i64 4),(.nat .i64 4),(.str [48]),(.nat .i64 2)] 24 158 true 0 0 0) .lf)))))))))))) (tr (tr (tl (tl (tr
  (tr (tr (tr (tr (tl (tl (.nd .lf (.row [(.nat .i64 2),(.nat .i64 3)] 2 3 false 0 0 0) .lf)))))))))))))) (tn (tr (tr (tn (tr (tl (tl (tl (tl (tl (tr (tl (tl
  (.nd .lf (.row [(.nat .i64 1),(.nat .i64 1),(.str [48]),(.nat .i64 1),(.nat .i64 1),(.nat .i64 1),(.str [48]),(.nat .i64 2),(.nat .i64 2),(.nat .i64 2),(.str
  [48]),(.nat .i64 3),(.nat .i64 2),(.nat .i64 2),(.str [48]),(.nat .i64 4),(.nat .i64 4),(.nat .i64 4),(.str [48]),(.nat .i64 1),(.nat .i64 4),(.nat .i64
  4),(.str [48]),(.nat .i64 2),(.nat .i64 3),(.nat .i64 3),(.str [48]),(.nat .i64 1),(.nat .i64 3),(.nat .i64 3),(.str [48]),(.nat .i64 2)] 32 158 true 0 0 0)
  .lf)))))))))) (tr (tl (tl (tl (tl (tl (tr (tl (tl (.nd .lf (.row [(.str [48]),(.so k18477 32 0 8 0),(.str [48]),(.so k18498 24 0 6 0),(.str []),(.so k18514 8
  0 2 0),(.str [48]),(.so k18522 24 0 6 0),(.str []),(.so k18538 4 0 1 0),(.str []),(.so k18544 8 0 2 0)] 12 163 true 0 0 0) .lf))))))))))))) (tr (tr (tr (tl
  (tl (tr (tr (tr (tr (tr (tl (tl (.nd .lf (.row [(.nat .i64 2),(.nat .i64 3)] 2 3 false 0 0 0) .lf))))))))))))))), k20384⟩, (.bool true), ⟨.lf, k20799⟩⟩
def hk20 : Hook := ⟨18, [], ⟨.lf, k14611⟩, (.bool true), ⟨.lf, k20799⟩⟩
end Go.Proofs.YtblpelldffaodaaGreatDoor.replaceExamples
