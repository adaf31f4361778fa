/- The program as the evaluator takes it (three lists of hints, which the proofs need not trust), and some calls of the closed run of ClashKnown, each with what it is given and what it answers. No statement of the seat stands here. No condition. By an AI agent. -/
import Derived.Test.YthfipomomhlgnaaGreatDoorChecked
import Derived.KernelRfl
import Derived.Test.YthfipomomhlgnaaGreatDoorEvG
namespace Go.Proofs.YthfipomomhlgnaaGreatDoor.clashKnown
open Go.Ev Go.RowKit
set_option maxRecDepth 100000
noncomputable def pc (hooks : List Hook) : PC := PC.of Tryz.prog hooks [0, 0, 1, 1267650600228229401496703204992, 524272, 1016, 130560, 224, 2,
  146328507162900391886848, 524160, 2361182045166171586528, 562949953421296, 840267397791616, 1178285777708181815296, 1237940037047091259022114816, 134217696,
  73786448528657022976, 1008, 730745134248511395787384374164898329862184370176, 457792, 1152921504371957760, 41213222489320080182256466632413184, 2040, 240,
  147573952589676395456, 480, 496, 480, 2147483640, 216172773926502272, 17588155315712, 4122430242752, 2040, 8160, 17179868160, 4835629491482221859568640,
  16352, 4064, 224, 480, 1099511627712, 268434928, 16773120, 19807040610119262259319275520, 33536960, 457792, 457792, 1016, 24, 14680032, 31745151725696,
  129984, 79228162513074824341929064448, 524224, 24, 24, 16376, 7516192512, 125582848, 356811880641193946689691826088336933575983104, 248, 224, 457792,
  21772671167150814768411812042469146034176, 24, 6228864, 10384593407414639918073416691740640, 6228864, 2097144, 398655360, 12574592, 549755813824,
  140736414117888, 4543259750641845459761594177158656, 24, 12574592, 4080, 649037029945047576837886721114112, 16352, 4501336175669248, 3568, 524220, 24, 0,
  9007182074854400, 1152921496014807040, 147573917370944446464, 7890306461253730304, 17179835392, 2787571881499075797774052896007796375347200,
  1237938821800130672580354048, 383123885193474569774374055887950278561850630313328640, 524008, 33537768, 0, 8589657856, 224, 1048448, 480,
  36893487872536886784, 448, 480, 4064, 960, 8160, 134217664, 65472, 458720, 992, 2093536, 1073602816, 4194302, 504, 504, 103582791362410496, 8, 16328, 1952, 8,
  456, 134156032, 36, 4064, 4064, 104, 484, 65008, 8386568, 144114672678729728, 70368744168960, 17591682693120, 17179868864, 484, 34587645138138185600, 8164,
  65504, 590293839423849099264, 4503591037304448, 309182776060598402215280384, 532668352, 21778071482618506735861013308488957231104, 16328, 1008, 1008, 1008,
  34662321095378961161338743808, 16352, 2199023189888, 2194224446208, 262080, 504, 3114368, 248, 15856, 2040, 2305825412699119296, 480, 16368, 0,
  18014381321090304, 4835702990227041035218944, 120, 8589934584, 261632, 2199023247360, 457792, 224, 3220716544, 50301888, 8388480, 148754255977818640873472,
  17171475456, 928, 4835703260440209768046592, 2417851639198471889600512, 2, 56, 504, 4080, 33554400, 496, 8, 8589934528, 1056964592, 1032128, 132120064,
  18887160055355137835008, 0, 32, 16128, 268428272, 64, 19342813112848872164551680, 64, 132120064, 8935141660702932864,
  89794636423602880087156592636474722530567799319756800, 4294934272, 30, 79225895778352558100046659584, 158446644767534338890306928640, 480, 240, 30,
  21778061098346189844478291628122334298112, 457792, 32744, 32752, 184149205606795480238948490449146349755637850570752, 5050176389969560855884357697536,
  4290768896, 1984, 8064, 103048806384, 34342829312, 4186048, 258016, 260013824, 274877644160, 1504, 2080760, 2040, 7904, 24, 48640, 17996745120149504, 524224,
  16304, 16304, 288230376143288320, 56, 192, 192, 192, 35764913150590976, 240, 240, 281337470646784, 457792, 469761536, 1984, 48, 515848, 1984, 2064064, 1016,
  1016, 48, 562948879675136, 72057592963659776, 36893479342736111616, 123286018324422656, 4294958848, 10888952654262176519432384150372830132224, 131040,
  19342794090620444689299456, 374144419134252505651064520051920053992477580849152, 56, 0, 248, 248, 32192, 8384256, 20282409471425404962397755244544,
  17163084480, 224, 7696579557248, 224, 56, 7936, 2097120, 65264, 1073740800, 4177344, 4160745472, 4398046510976, 1030792150528, 134217696, 1984, 128960,
  75557859222245976505344, 32640, 68719474688, 56, 16360, 16360, 262112, 10448029773009037967681152029858612457160704, 224,
  182686308445276092278898780960839177993124249600, 224, 42524890909723710779775849120990470144, 9007190629408768, 261632, 444288, 444288, 1048064, 130944,
  2251799813668864, 2016, 240, 261952, 8796093022080, 134217696, 268172288, 224, 0, 56, 2266735911759287759665152, 523264, 4294961792, 224, 31457136, 248, 56,
  500, 520048, 2147155456, 0, 548648513024, 1073741792, 0, 0, 0, 0, 0, 0, 0, 0, 0, 0, 0, 0, 0, 0, 0, 0, 0, 0, 0, 0, 0, 0, 0, 0, 7] [(95, 3), (159, 1), (319, 2)]
  [(7, [7, 7, 0, 7]), (8, [7, 7, 0, 7]), (22, [7, 7]), (23, [7, 7]), (64, [7, 7]), (89, [7, 0, 7, 7]), (90, [7, 0, 7, 7]), (152, [7, 7, 8, 7]), (153, [7, 7, 8,
  7]), (177, [7, 7, 7]), (178, [7, 7, 7]), (182, [7]), (183, [7]), (206, [7]), (207, [7]), (231, [0, 8, 8]), (232, [0, 8, 8]), (267, [7, 7, 0]), (268, [7, 7,
  0]), (272, [7, 7]), (273, [7, 7]), (295, []), (296, []), (325, [8, 8, 8])] []
theorem pcOk (hooks : List Hook) : PcOk Tryz.prog (pc hooks) ∧ (pc hooks).hooks = hooks :=
  pcOk_of (by kernel_rfl) (by kernel_rfl) (by kernel_rfl) (by kernel_rfl) (by kernel_rfl)
theorem globals : Tryz.prog.globals.size = 4 := by kernel_rfl
/-- a hook out of its test, which looks at hooks that hold -/
theorem hook_of_test {hs : List Hook} (hh : ∀ h ∈ hs, HookOk Tryz.prog h) {h : Hook} (ht : hookB (pc hs) 1500 h = true) : HookOk Tryz.prog h :=
  hookB_ok (pcOk hs).1 (by rw [(pcOk hs).2]; exact hh) ht
def tl (t : Tr B) : Tr B := .nd t .none .lf
def tr (t : Tr B) : Tr B := .nd .lf .none t
def tn (t u : Tr B) : Tr B := .nd t .none u
def k1 : K := .h
def k2 : K := .o k1
def k3 : K := .i k1
def k4 : K := .o k2
def k5 : K := .i k2
def k6 : K := .o k3
def k7 : K := .i k3
def k8 : K := .o k4
def k9 : K := .i k4
def k10 : K := .o k5
def k11 : K := .i k5
def k12 : K := .o k6
def k13 : K := .i k6
def k14 : K := .o k7
def k15 : K := .i k7
def k16 : K := .o k8
def k17 : K := .i k8
def k18 : K := .o k9
def k19 : K := .i k9
def k20 : K := .o k10
def k21 : K := .i k10
def k22 : K := .o k11
def k23 : K := .i k11
def k24 : K := .o k12
def k25 : K := .i k12
def k26 : K := .o k13
def k27 : K := .i k13
def k28 : K := .o k14
def k29 : K := .i k14
def k30 : K := .o k15
def k31 : K := .i k15
def k32 : K := .o k16
def k33 : K := .i k16
def k34 : K := .o k17
def k35 : K := .i k17
def k36 : K := .o k18
def k37 : K := .i k18
def k38 : K := .o k19
def k39 : K := .i k19
def k40 : K := .o k20
def k42 : K := .o k21
def k43 : K := .i k21
def k45 : K := .i k22
def k46 : K := .o k23
def k47 : K := .i k23
def k48 : K := .o k24
def k49 : K := .i k24
def k50 : K := .o k25
def k51 : K := .i k25
def k52 : K := .o k26
def k53 : K := .i k26
def k55 : K := .i k27
def k56 : K := .o k28
def k57 : K := .i k28
def k59 : K := .i k29
def k60 : K := .o k30
def k61 : K := .i k30
def k62 : K := .o k31
def k64 : K := .o k32
def k65 : K := .i k32
def k66 : K := .o k33
def k67 : K := .i k33
def k68 : K := .o k34
def k69 : K := .i k34
def k70 : K := .o k35
def k71 : K := .i k35
def k73 : K := .i k36
def k74 : K := .o k37
def k75 : K := .i k37
def k77 : K := .i k38
def k79 : K := .i k39
def k80 : K := .o k40
def k81 : K := .i k40
def k84 : K := .o k42
def k85 : K := .i k42
def k86 : K := .o k43
def k90 : K := .o k45
def k92 : K := .o k46
def k93 : K := .i k46
def k94 : K := .o k47
def k95 : K := .i k47
def k98 : K := .o k49
def k99 : K := .i k49
def k101 : K := .i k50
def k103 : K := .i k51
def k105 : K := .i k52
def k106 : K := .o k53
def k107 : K := .i k53
def k110 : K := .o k55
def k111 : K := .i k55
def k113 : K := .i k56
def k114 : K := .o k57
def k118 : K := .o k59
def k120 : K := .o k60
def k121 : K := .i k60
def k122 : K := .o k61
def k124 : K := .o k62
def k125 : K := .i k62
def k128 : K := .o k64
def k130 : K := .o k65
def k132 : K := .o k66
def k135 : K := .i k67
def k136 : K := .o k68
def k139 : K := .i k69
def k140 : K := .o k70
def k147 : K := .i k73
def k148 : K := .o k74
def k151 : K := .i k75
def k154 : K := .o k77
def k155 : K := .i k77
def k158 : K := .o k79
def k160 : K := .o k80
def k161 : K := .i k80
def k162 : K := .o k81
def k163 : K := .i k81
def k168 : K := .o k84
def k169 : K := .i k84
def k171 : K := .i k85
def k172 : K := .o k86
def k173 : K := .i k86
def k181 : K := .i k90
def k184 : K := .o k92
def k185 : K := .i k92
def k186 : K := .o k93
def k187 : K := .i k93
def k188 : K := .o k94
def k189 : K := .i k94
def k190 : K := .o k95
def k196 : K := .o k98
def k198 : K := .o k99
def k202 : K := .o k101
def k203 : K := .i k101
def k206 : K := .o k103
def k207 : K := .i k103
def k211 : K := .i k105
def k212 : K := .o k106
def k213 : K := .i k106
def k214 : K := .o k107
def k215 : K := .i k107
def k221 : K := .i k110
def k222 : K := .o k111
def k223 : K := .i k111
def k227 : K := .i k113
def k228 : K := .o k114
def k236 : K := .o k118
def k237 : K := .i k118
def k240 : K := .o k120
def k241 : K := .i k120
def k242 : K := .o k121
def k244 : K := .o k122
def k245 : K := .i k122
def k248 : K := .o k124
def k249 : K := .i k124
def k250 : K := .o k125
def k256 : K := .o k128
def k257 : K := .i k128
def k260 : K := .o k130
def k265 : K := .i k132
def k270 : K := .o k135
def k271 : K := .i k135
def k272 : K := .o k136
def k278 : K := .o k139
def k280 : K := .o k140
def k294 : K := .o k147
def k295 : K := .i k147
def k308 : K := .o k154
def k311 : K := .i k155
def k316 : K := .o k158
def k317 : K := .i k158
def k321 : K := .i k160
def k322 : K := .o k161
def k323 : K := .i k161
def k324 : K := .o k162
def k326 : K := .o k163
def k337 : K := .i k168
def k338 : K := .o k169
def k339 : K := .i k169
def k343 : K := .i k171
def k344 : K := .o k172
def k346 : K := .o k173
def k362 : K := .o k181
def k363 : K := .i k181
def k369 : K := .i k184
def k370 : K := .o k185
def k371 : K := .i k185
def k372 : K := .o k186
def k375 : K := .i k187
def k376 : K := .o k188
def k377 : K := .i k188
def k378 : K := .o k189
def k379 : K := .i k189
def k380 : K := .o k190
def k392 : K := .o k196
def k393 : K := .i k196
def k396 : K := .o k198
def k397 : K := .i k198
def k405 : K := .i k202
def k406 : K := .o k203
def k413 : K := .i k206
def k414 : K := .o k207
def k423 : K := .i k211
def k424 : K := .o k212
def k425 : K := .i k212
def k427 : K := .i k213
def k429 : K := .i k214
def k430 : K := .o k215
def k442 : K := .o k221
def k443 : K := .i k221
def k444 : K := .o k222
def k446 : K := .o k223
def k454 : K := .o k227
def k455 : K := .i k227
def k457 : K := .i k228
def k473 : K := .i k236
def k474 : K := .o k237
def k475 : K := .i k237
def k481 : K := .i k240
def k482 : K := .o k241
def k485 : K := .i k242
def k489 : K := .i k244
def k491 : K := .i k245
def k497 : K := .i k248
def k498 : K := .o k249
def k499 : K := .i k249
def k500 : K := .o k250
def k501 : K := .i k250
def k513 : K := .i k256
def k514 : K := .o k257
def k515 : K := .i k257
def k521 : K := .i k260
def k530 : K := .o k265
def k540 : K := .o k270
def k541 : K := .i k270
def k542 : K := .o k271
def k545 : K := .i k272
def k556 : K := .o k278
def k557 : K := .i k278
def k560 : K := .o k280
def k588 : K := .o k294
def k589 : K := .i k294
def k590 : K := .o k295
def k616 : K := .o k308
def k617 : K := .i k308
def k623 : K := .i k311
def k632 : K := .o k316
def k635 : K := .i k317
def k643 : K := .i k321
def k644 : K := .o k322
def k647 : K := .i k323
def k648 : K := .o k324
def k652 : K := .o k326
def k675 : K := .i k337
def k676 : K := .o k338
def k677 : K := .i k338
def k678 : K := .o k339
def k679 : K := .i k339
def k686 : K := .o k343
def k687 : K := .i k343
def k688 : K := .o k344
def k692 : K := .o k346
def k693 : K := .i k346
def k724 : K := .o k362
def k725 : K := .i k362
def k726 : K := .o k363
def k739 : K := .i k369
def k740 : K := .o k370
def k741 : K := .i k370
def k742 : K := .o k371
def k745 : K := .i k372
def k751 : K := .i k375
def k752 : K := .o k376
def k753 : K := .i k376
def k754 : K := .o k377
def k757 : K := .i k378
def k758 : K := .o k379
def k760 : K := .o k380
def k761 : K := .i k380
def k784 : K := .o k392
def k785 : K := .i k392
def k786 : K := .o k393
def k793 : K := .i k396
def k795 : K := .i k397
def k811 : K := .i k405
def k812 : K := .o k406
def k813 : K := .i k406
def k827 : K := .i k413
def k829 : K := .i k414
def k847 : K := .i k423
def k848 : K := .o k424
def k850 : K := .o k425
def k855 : K := .i k427
def k858 : K := .o k429
def k859 : K := .i k429
def k860 : K := .o k430
def k861 : K := .i k430
def k884 : K := .o k442
def k887 : K := .i k443
def k888 : K := .o k444
def k889 : K := .i k444
def k892 : K := .o k446
def k908 : K := .o k454
def k909 : K := .i k454
def k910 : K := .o k455
def k914 : K := .o k457
def k915 : K := .i k457
def k946 : K := .o k473
def k947 : K := .i k473
def k948 : K := .o k474
def k949 : K := .i k474
def k950 : K := .o k475
def k962 : K := .o k481
def k964 : K := .o k482
def k971 : K := .i k485
def k979 : K := .i k489
def k982 : K := .o k491
def k995 : K := .i k497
def k997 : K := .i k498
def k998 : K := .o k499
def k1001 : K := .i k500
def k1002 : K := .o k501
def k1026 : K := .o k513
def k1027 : K := .i k513
def k1028 : K := .o k514
def k1030 : K := .o k515
def k1042 : K := .o k521
def k1043 : K := .i k521
def k1060 : K := .o k530
def k1081 : K := .i k540
def k1082 : K := .o k541
def k1083 : K := .i k541
def k1084 : K := .o k542
def k1091 : K := .i k545
def k1112 : K := .o k556
def k1113 : K := .i k556
def k1115 : K := .i k557
def k1121 : K := .i k560
def k1177 : K := .i k588
def k1178 : K := .o k589
def k1179 : K := .i k589
def k1181 : K := .i k590
def k1232 : K := .o k616
def k1233 : K := .i k616
def k1234 : K := .o k617
def k1235 : K := .i k617
def k1246 : K := .o k623
def k1264 : K := .o k632
def k1265 : K := .i k632
def k1270 : K := .o k635
def k1286 : K := .o k643
def k1288 : K := .o k644
def k1289 : K := .i k644
def k1295 : K := .i k647
def k1297 : K := .i k648
def k1304 : K := .o k652
def k1350 : K := .o k675
def k1352 : K := .o k676
def k1354 : K := .o k677
def k1356 : K := .o k678
def k1358 : K := .o k679
def k1372 : K := .o k686
def k1375 : K := .i k687
def k1376 : K := .o k688
def k1384 : K := .o k692
def k1386 : K := .o k693
def k1387 : K := .i k693
def k1448 : K := .o k724
def k1449 : K := .i k724
def k1450 : K := .o k725
def k1452 : K := .o k726
def k1479 : K := .i k739
def k1481 : K := .i k740
def k1482 : K := .o k741
def k1485 : K := .i k742
def k1491 : K := .i k745
def k1502 : K := .o k751
def k1503 : K := .i k751
def k1505 : K := .i k752
def k1506 : K := .o k753
def k1507 : K := .i k753
def k1509 : K := .i k754
def k1515 : K := .i k757
def k1517 : K := .i k758
def k1521 : K := .i k760
def k1523 : K := .i k761
def k1568 : K := .o k784
def k1570 : K := .o k785
def k1572 : K := .o k786
def k1587 : K := .i k793
def k1590 : K := .o k795
def k1591 : K := .i k795
def k1623 : K := .i k811
def k1625 : K := .i k812
def k1627 : K := .i k813
def k1655 : K := .i k827
def k1658 : K := .o k829
def k1694 : K := .o k847
def k1696 : K := .o k848
def k1697 : K := .i k848
def k1700 : K := .o k850
def k1710 : K := .o k855
def k1711 : K := .i k855
def k1716 : K := .o k858
def k1719 : K := .i k859
def k1721 : K := .i k860
def k1723 : K := .i k861
def k1769 : K := .i k884
def k1774 : K := .o k887
def k1775 : K := .i k887
def k1776 : K := .o k888
def k1777 : K := .i k888
def k1778 : K := .o k889
def k1785 : K := .i k892
def k1816 : K := .o k908
def k1819 : K := .i k909
def k1820 : K := .o k910
def k1829 : K := .i k914
def k1830 : K := .o k915
def k1831 : K := .i k915
def k1893 : K := .i k946
def k1894 : K := .o k947
def k1895 : K := .i k947
def k1897 : K := .i k948
def k1899 : K := .i k949
def k1900 : K := .o k950
def k1925 : K := .i k962
def k1929 : K := .i k964
def k1942 : K := .o k971
def k1958 : K := .o k979
def k1959 : K := .i k979
def k1964 : K := .o k982
def k1990 : K := .o k995
def k1995 : K := .i k997
def k1996 : K := .o k998
def k1997 : K := .i k998
def k2003 : K := .i k1001
def k2004 : K := .o k1002
def k2052 : K := .o k1026
def k2055 : K := .i k1027
def k2056 : K := .o k1028
def k2060 : K := .o k1030
def k2085 : K := .i k1042
def k2086 : K := .o k1043
def k2121 : K := .i k1060
def k2163 : K := .i k1081
def k2165 : K := .i k1082
def k2166 : K := .o k1083
def k2169 : K := .i k1084
def k2183 : K := .i k1091
def k2225 : K := .i k1112
def k2226 : K := .o k1113
def k2231 : K := .i k1115
def k2243 : K := .i k1121
def k2354 : K := .o k1177
def k2357 : K := .i k1178
def k2358 : K := .o k1179
def k2362 : K := .o k1181
def k2464 : K := .o k1232
def k2467 : K := .i k1233
def k2468 : K := .o k1234
def k2471 : K := .i k1235
def k2493 : K := .i k1246
def k2529 : K := .i k1264
def k2530 : K := .o k1265
def k2531 : K := .i k1265
def k2541 : K := .i k1270
def k2573 : K := .i k1286
def k2576 : K := .o k1288
def k2577 : K := .i k1288
def k2579 : K := .i k1289
def k2590 : K := .o k1295
def k2594 : K := .o k1297
def k2609 : K := .i k1304
def k2701 : K := .i k1350
def k2704 : K := .o k1352
def k2705 : K := .i k1352
def k2709 : K := .i k1354
def k2713 : K := .i k1356
def k2716 : K := .o k1358
def k2745 : K := .i k1372
def k2750 : K := .o k1375
def k2752 : K := .o k1376
def k2768 : K := .o k1384
def k2769 : K := .i k1384
def k2773 : K := .i k1386
def k2774 : K := .o k1387
def k2897 : K := .i k1448
def k2899 : K := .i k1449
def k2901 : K := .i k1450
def k2904 : K := .o k1452
def k2958 : K := .o k1479
def k2963 : K := .i k1481
def k2965 : K := .i k1482
def k2971 : K := .i k1485
def k2982 : K := .o k1491
def k3004 : K := .o k1502
def k3007 : K := .i k1503
def k3010 : K := .o k1505
def k3011 : K := .i k1505
def k3013 : K := .i k1506
def k3014 : K := .o k1507
def k3019 : K := .i k1509
def k3030 : K := .o k1515
def k3035 : K := .i k1517
def k3043 : K := .i k1521
def k3046 : K := .o k1523
def k3047 : K := .i k1523
def k3137 : K := .i k1568
def k3140 : K := .o k1570
def k3141 : K := .i k1570
def k3144 : K := .o k1572
def k3175 : K := .i k1587
def k3180 : K := .o k1590
def k3183 : K := .i k1591
def k3247 : K := .i k1623
def k3250 : K := .o k1625
def k3251 : K := .i k1625
def k3254 : K := .o k1627
def k3311 : K := .i k1655
def k3316 : K := .o k1658
def k3388 : K := .o k1694
def k3393 : K := .i k1696
def k3395 : K := .i k1697
def k3401 : K := .i k1700
def k3421 : K := .i k1710
def k3422 : K := .o k1711
def k3432 : K := .o k1716
def k3439 : K := .i k1719
def k3442 : K := .o k1721
def k3443 : K := .i k1721
def k3447 : K := .i k1723
def k3539 : K := .i k1769
def k3549 : K := .i k1774
def k3551 : K := .i k1775
def k3552 : K := .o k1776
def k3553 : K := .i k1776
def k3555 : K := .i k1777
def k3556 : K := .o k1778
def k3570 : K := .o k1785
def k3633 : K := .i k1816
def k3638 : K := .o k1819
def k3640 : K := .o k1820
def k3658 : K := .o k1829
def k3661 : K := .i k1830
def k3662 : K := .o k1831
def k3787 : K := .i k1893
def k3789 : K := .i k1894
def k3790 : K := .o k1895
def k3794 : K := .o k1897
def k3798 : K := .o k1899
def k3801 : K := .i k1900
def k3851 : K := .i k1925
def k3859 : K := .i k1929
def k3885 : K := .i k1942
def k3917 : K := .i k1958
def k3918 : K := .o k1959
def k3928 : K := .o k1964
def k3980 : K := .o k1990
def k3991 : K := .i k1995
def k3992 : K := .o k1996
def k3993 : K := .i k1996
def k3994 : K := .o k1997
def k3995 : K := .i k1997
def k4007 : K := .i k2003
def k4008 : K := .o k2004
def k4105 : K := .i k2052
def k4111 : K := .i k2055
def k4113 : K := .i k2056
def k4120 : K := .o k2060
def k4121 : K := .i k2060
def k4171 : K := .i k2085
def k4173 : K := .i k2086
def k4326 : K := .o k2163
def k4331 : K := .i k2165
def k4333 : K := .i k2166
def k4339 : K := .i k2169
def k4450 : K := .o k2225
def k4451 : K := .i k2225
def k4452 : K := .o k2226
def k4462 : K := .o k2231
def k4708 : K := .o k2354
def k4714 : K := .o k2357
def k4716 : K := .o k2358
def k4724 : K := .o k2362
def k4929 : K := .i k2464
def k4934 : K := .o k2467
def k4936 : K := .o k2468
def k4942 : K := .o k2471
def k4987 : K := .i k2493
def k5059 : K := .i k2529
def k5061 : K := .i k2530
def k5063 : K := .i k2531
def k5082 : K := .o k2541
def k5083 : K := .i k2541
def k5146 : K := .o k2573
def k5152 : K := .o k2576
def k5154 : K := .o k2577
def k5158 : K := .o k2579
def k5180 : K := .o k2590
def k5189 : K := .i k2594
def k5219 : K := .i k2609
def k5403 : K := .i k2701
def k5409 : K := .i k2704
def k5411 : K := .i k2705
def k5419 : K := .i k2709
def k5426 : K := .o k2713
def k5432 : K := .o k2716
def k5490 : K := .o k2745
def k5501 : K := .i k2750
def k5505 : K := .i k2752
def k5537 : K := .i k2768
def k5538 : K := .o k2769
def k5547 : K := .i k2773
def k5548 : K := .o k2774
def k5794 : K := .o k2897
def k5799 : K := .i k2899
def k5802 : K := .o k2901
def k5809 : K := .i k2904
def k5916 : K := .o k2958
def k5927 : K := .i k2963
def k5931 : K := .i k2965
def k5943 : K := .i k2971
def k5964 : K := .o k2982
def k6009 : K := .i k3004
def k6014 : K := .o k3007
def k6020 : K := .o k3010
def k6022 : K := .o k3011
def k6026 : K := .o k3013
def k6028 : K := .o k3014
def k6039 : K := .i k3019
def k6061 : K := .i k3030
def k6070 : K := .o k3035
def k6086 : K := .o k3043
def k6093 : K := .i k3046
def k6094 : K := .o k3047
def k6274 : K := .o k3137
def k6280 : K := .o k3140
def k6282 : K := .o k3141
def k6289 : K := .i k3144
def k6350 : K := .o k3175
def k6361 : K := .i k3180
def k6366 : K := .o k3183
def k6495 : K := .i k3247
def k6500 : K := .o k3250
def k6502 : K := .o k3251
def k6508 : K := .o k3254
def k6622 : K := .o k3311
def k6623 : K := .i k3311
def k6632 : K := .o k3316
def k6776 : K := .o k3388
def k6787 : K := .i k3393
def k6791 : K := .i k3395
def k6803 : K := .i k3401
def k6843 : K := .i k3421
def k6844 : K := .o k3422
def k6845 : K := .i k3422
def k6864 : K := .o k3432
def k6879 : K := .i k3439
def k6884 : K := .o k3442
def k6886 : K := .o k3443
def k6894 : K := .o k3447
def k7079 : K := .i k3539
def k7099 : K := .i k3549
def k7102 : K := .o k3551
def k7105 : K := .i k3552
def k7107 : K := .i k3553
def k7110 : K := .o k3555
def k7113 : K := .i k3556
def k7140 : K := .o k3570
def k7266 : K := .o k3633
def k7277 : K := .i k3638
def k7281 : K := .i k3640
def k7317 : K := .i k3658
def k7322 : K := .o k3661
def k7324 : K := .o k3662
def k7574 : K := .o k3787
def k7579 : K := .i k3789
def k7581 : K := .i k3790
def k7589 : K := .i k3794
def k7597 : K := .i k3798
def k7602 : K := .o k3801
def k7603 : K := .i k3801
def k7702 : K := .o k3851
def k7718 : K := .o k3859
def k7719 : K := .i k3859
def k7771 : K := .i k3885
def k7835 : K := .i k3917
def k7836 : K := .o k3918
def k7961 : K := .i k3980
def k7983 : K := .i k3991
def k7991 : K := .i k3995
def k8015 : K := .i k4007
def k8016 : K := .o k4008
def k8211 : K := .i k4105
def k8222 : K := .o k4111
def k8227 : K := .i k4113
def k8240 : K := .o k4120
def k8242 : K := .o k4121
def k8343 : K := .i k4171
def k8346 : K := .o k4173
def k8652 : K := .o k4326
def k8663 : K := .i k4331
def k8667 : K := .i k4333
def k8679 : K := .i k4339
def k8900 : K := .o k4450
def k8902 : K := .o k4451
def k8903 : K := .i k4451
def k8904 : K := .o k4452
def k8924 : K := .o k4462
def k8925 : K := .i k4462
def k9417 : K := .i k4708
def k9428 : K := .o k4714
def k9433 : K := .i k4716
def k9448 : K := .o k4724
def k9858 : K := .o k4929
def k9869 : K := .i k4934
def k9873 : K := .i k4936
def k9885 : K := .i k4942
def k9974 : K := .o k4987
def k9975 : K := .i k4987
def k10119 : K := .i k5059
def k10123 : K := .i k5061
def k10126 : K := .o k5063
def k10127 : K := .i k5063
def k10165 : K := .i k5082
def k10166 : K := .o k5083
def k10293 : K := .i k5146
def k10304 : K := .o k5152
def k10308 : K := .o k5154
def k10316 : K := .o k5158
def k10361 : K := .i k5180
def k10378 : K := .o k5189
def k10438 : K := .o k5219
def k10807 : K := .i k5403
def k10818 : K := .o k5409
def k10823 : K := .i k5411
def k10838 : K := .o k5419
def k10853 : K := .i k5426
def k10865 : K := .i k5432
def k10981 : K := .i k5490
def k11003 : K := .i k5501
def k11011 : K := .i k5505
def k11074 : K := .o k5537
def k11075 : K := .i k5537
def k11076 : K := .o k5538
def k11095 : K := .i k5547
def k11096 : K := .o k5548
def k11588 : K := .o k5794
def k11599 : K := .i k5799
def k11604 : K := .o k5802
def k11619 : K := .i k5809
def k11832 : K := .o k5916
def k11854 : K := .o k5927
def k11862 : K := .o k5931
def k11886 : K := .o k5943
def k11887 : K := .i k5943
def k12029 : K := .i k6014
def k12040 : K := .o k6020
def k12044 : K := .o k6022
def k12056 : K := .o k6028
def k12079 : K := .i k6039
def k12123 : K := .i k6061
def k12140 : K := .o k6070
def k12187 : K := .i k6093
def k12188 : K := .o k6094
def k12189 : K := .i k6094
def k12549 : K := .i k6274
def k12560 : K := .o k6280
def k12564 : K := .o k6282
def k12579 : K := .i k6289
def k12701 : K := .i k6350
def k12723 : K := .i k6361
def k12732 : K := .o k6366
def k12990 : K := .o k6495
def k13001 : K := .i k6500
def k13005 : K := .i k6502
def k13017 : K := .i k6508
def k13244 : K := .o k6622
def k13245 : K := .i k6622
def k13246 : K := .o k6623
def k13265 : K := .i k6632
def k13552 : K := .o k6776
def k13574 : K := .o k6787
def k13583 : K := .i k6791
def k13606 : K := .o k6803
def k13607 : K := .i k6803
def k13686 : K := .o k6843
def k13689 : K := .i k6844
def k13690 : K := .o k6845
def k13728 : K := .o k6864
def k13729 : K := .i k6864
def k13758 : K := .o k6879
def k13769 : K := .i k6884
def k13773 : K := .i k6886
def k13788 : K := .o k6894
def k14159 : K := .i k7079
def k14199 : K := .i k7099
def k14204 : K := .o k7102
def k14210 : K := .o k7105
def k14214 : K := .o k7107
def k14221 : K := .i k7110
def k14226 : K := .o k7113
def k14281 : K := .i k7140
def k14532 : K := .o k7266
def k14554 : K := .o k7277
def k14562 : K := .o k7281
def k14634 : K := .o k7317
def k14645 : K := .i k7322
def k14649 : K := .i k7324
def k15148 : K := .o k7574
def k15159 : K := .i k7579
def k15163 : K := .i k7581
def k15179 : K := .i k7589
def k15194 : K := .o k7597
def k15205 : K := .i k7602
def k15206 : K := .o k7603
def k15405 : K := .i k7702
def k15437 : K := .i k7718
def k15438 : K := .o k7719
def k15922 : K := .o k7961
def k15966 : K := .o k7983
def k15983 : K := .i k7991
def k16030 : K := .o k8015
def k16031 : K := .i k8015
def k16032 : K := .o k8016
def k16423 : K := .i k8211
def k16445 : K := .i k8222
def k16454 : K := .o k8227
def k16484 : K := .o k8242
def k17304 : K := .o k8652
def k17326 : K := .o k8663
def k17335 : K := .i k8667
def k17358 : K := .o k8679
def k17359 : K := .i k8679
def k17801 : K := .i k8900
def k17804 : K := .o k8902
def k17807 : K := .i k8903
def k17808 : K := .o k8904
def k17809 : K := .i k8904
def k17848 : K := .o k8924
def k17850 : K := .o k8925
def k18835 : K := .i k9417
def k18857 : K := .i k9428
def k18866 : K := .o k9433
def k18896 : K := .o k9448
def k19716 : K := .o k9858
def k19738 : K := .o k9869
def k19747 : K := .i k9873
def k19770 : K := .o k9885
def k19771 : K := .i k9885
def k19949 : K := .i k9974
def k19950 : K := .o k9975
def k20239 : K := .i k10119
def k20246 : K := .o k10123
def k20252 : K := .o k10126
def k20253 : K := .i k10126
def k20255 : K := .i k10127
def k20330 : K := .o k10165
def k20333 : K := .i k10166
def k20586 : K := .o k10293
def k20608 : K := .o k10304
def k20617 : K := .i k10308
def k21615 : K := .i k10807
def k21637 : K := .i k10818
def k21646 : K := .o k10823
def k21676 : K := .o k10838
def k21706 : K := .o k10853
def k21730 : K := .o k10865
def k21962 : K := .o k10981
def k22006 : K := .o k11003
def k22023 : K := .i k11011
def k22148 : K := .o k11074
def k22151 : K := .i k11075
def k22152 : K := .o k11076
def k22190 : K := .o k11095
def k22192 : K := .o k11096
def k23177 : K := .i k11588
def k23199 : K := .i k11599
def k23208 : K := .o k11604
def k23238 : K := .o k11619
def k23664 : K := .o k11832
def k23708 : K := .o k11854
def k23725 : K := .i k11862
def k23772 : K := .o k11886
def k23773 : K := .i k11886
def k23774 : K := .o k11887
def k24058 : K := .o k12029
def k24080 : K := .o k12040
def k24089 : K := .i k12044
def k24112 : K := .o k12056
def k24113 : K := .i k12056
def k25098 : K := .o k12549
def k25121 : K := .i k12560
def k25129 : K := .i k12564
def k25159 : K := .i k12579
def k25403 : K := .i k12701
def k25447 : K := .i k12723
def k25464 : K := .o k12732
def k25980 : K := .o k12990
def k26002 : K := .o k13001
def k26010 : K := .o k13005
def k26034 : K := .o k13017
def k26488 : K := .o k13244
def k26491 : K := .i k13245
def k26492 : K := .o k13246
def k26530 : K := .o k13265
def k26531 : K := .i k13265
def k27105 : K := .i k13552
def k27149 : K := .i k13574
def k27166 : K := .o k13583
def k27213 : K := .i k13606
def k27214 : K := .o k13607
def k27372 : K := .o k13686
def k27378 : K := .o k13689
def k27379 : K := .i k13689
def k27381 : K := .i k13690
def k27456 : K := .o k13728
def k27459 : K := .i k13729
def k27516 : K := .o k13758
def k27539 : K := .i k13769
def k27547 : K := .i k13773
def k27577 : K := .i k13788
def k28398 : K := .o k14199
def k28420 : K := .o k14210
def k28428 : K := .o k14214
def k28452 : K := .o k14226
def k28453 : K := .i k14226
def k29064 : K := .o k14532
def k29108 : K := .o k14554
def k29125 : K := .i k14562
def k29268 : K := .o k14634
def k29290 : K := .o k14645
def k29298 : K := .o k14649
def k30296 : K := .o k15148
def k30319 : K := .i k15159
def k30327 : K := .i k15163
def k30358 : K := .o k15179
def k30388 : K := .o k15194
def k30411 : K := .i k15205
def k30412 : K := .o k15206
def k30810 : K := .o k15405
def k30874 : K := .o k15437
def k30875 : K := .i k15437
def k30876 : K := .o k15438
def k32846 : K := .o k16423
def k32891 : K := .i k16445
def k32908 : K := .o k16454
def k32968 : K := .o k16484
def k34609 : K := .i k17304
def k34653 : K := .i k17326
def k34670 : K := .o k17335
def k34717 : K := .i k17358
def k34718 : K := .o k17359
def k35603 : K := .i k17801
def k35609 : K := .i k17804
def k35615 : K := .i k17807
def k35616 : K := .o k17808
def k35618 : K := .o k17809
def k35697 : K := .i k17848
def k35700 : K := .o k17850
def k37670 : K := .o k18835
def k37715 : K := .i k18857
def k37732 : K := .o k18866
def k37792 : K := .o k18896
def k39433 : K := .i k19716
def k39477 : K := .i k19738
def k39494 : K := .o k19747
def k39541 : K := .i k19770
def k39542 : K := .o k19771
def k39543 : K := .i k19771
def k41173 : K := .i k20586
def k41217 : K := .i k20608
def k41234 : K := .o k20617
def k43230 : K := .o k21615
def k43275 : K := .i k21637
def k43293 : K := .i k21646
def k43353 : K := .i k21676
def k43413 : K := .i k21706
def k43460 : K := .o k21730
def k43461 : K := .i k21730
def k44296 : K := .o k22148
def k44302 : K := .o k22151
def k44303 : K := .i k22151
def k44305 : K := .i k22152
def k44381 : K := .i k22190
def k44384 : K := .o k22192
def k46354 : K := .o k23177
def k46399 : K := .i k23199
def k46416 : K := .o k23208
def k46476 : K := .o k23238
def k48117 : K := .i k24058
def k48161 : K := .i k24080
def k48178 : K := .o k24089
def k48225 : K := .i k24112
def k48226 : K := .o k24113
def k48227 : K := .i k24113
def k50197 : K := .i k25098
def k50242 : K := .o k25121
def k50259 : K := .i k25129
def k50319 : K := .i k25159
def k51960 : K := .o k25980
def k52004 : K := .o k26002
def k52021 : K := .i k26010
def k52068 : K := .o k26034
def k52069 : K := .i k26034
def k52976 : K := .o k26488
def k52982 : K := .o k26491
def k52983 : K := .i k26491
def k52985 : K := .i k26492
def k53060 : K := .o k26530
def k53063 : K := .i k26531
def k55033 : K := .i k27516
def k55078 : K := .o k27539
def k55095 : K := .i k27547
def k55155 : K := .i k27577
def k56796 : K := .o k28398
def k56840 : K := .o k28420
def k56857 : K := .i k28428
def k56904 : K := .o k28452
def k56905 : K := .i k28452
def k56906 : K := .o k28453
def k58536 : K := .o k29268
def k58580 : K := .o k29290
def k58597 : K := .i k29298
def k60593 : K := .i k30296
def k60638 : K := .o k30319
def k60655 : K := .i k30327
def k60716 : K := .o k30358
def k60776 : K := .o k30388
def k60823 : K := .i k30411
def k60824 : K := .o k30412
def hk0 : Hook := ⟨14, [(.ls 0 [(.sl k73 0 0 4 4),(.sl k71 0 0 2 2)]),(.ls 0 [(.nat .i64 2),(.nat .i64 2),(.nat .i64 3),(.sl k64 0 0 1 1)])], ⟨(tn (tn (tn (tn
  (tn (tl (.nd .lf (.row [(.nat .i64 2),(.nat .i64 1),(.nat .i64 1),(.str []),(.nat .i64 0),(.nat .i64 0),(.nil 1),(.nat .i64 1),(.nat .i64 0),(.nat .i64
  0),(.str []),(.nat .i64 0),(.nat .i64 0),(.nil 1)] 14 50 false 0 0 0) .lf)) (.nd .lf (.row [(.nat .i64 1),(.nat .i64 0),(.nat .i64 0),(.str []),(.nat .i64
  0),(.nat .i64 0),(.nil 1),(.nat .i64 2),(.nat .i64 1),(.nat .i64 1),(.str []),(.nat .i64 0),(.nat .i64 0),(.nil 1)] 14 50 false 0 0 0) .lf)) (.nd .lf (.row
  [(.nat .i64 3),(.nat .i64 2),(.nat .i64 3),(.sl k17 0 0 1 1),(.nat .i64 2),(.nat .i64 2),(.nat .i64 0),(.sl k23 0 0 1 1)] 8 35 false 0 0 0) .lf)) (tn (tn (.nd
  .lf (.row [(.nat .i64 2),(.nat .i64 1),(.nat .i64 1),(.str []),(.nat .i64 0),(.nat .i64 0),(.nil 1),(.nat .i64 1),(.nat .i64 0),(.nat .i64 0),(.str []),(.nat
  .i64 0),(.nat .i64 0),(.nil 1)] 14 50 false 0 0 0) .lf) (.nd (tl (.nd .lf (.row [(.nil 1),(.nil 1)] 2 53 false 0 0 0) .lf)) (.row [(.sl k51 0 0 4 4),(.sl k49
  0 0 3 3)] 2 27 false 0 0 0) .lf)) (tl (tl (.nd .lf (.row [(.nil 1)] 1 42 false 0 0 0) .lf))))) (.nd (tr (.nd (.nd .lf (.row [(.nat .i64 2),(.nat .i64 1),(.nat
  .i64 1),(.str []),(.nat .i64 0),(.nat .i64 0),(.nil 1),(.nat .i64 1),(.nat .i64 0),(.nat .i64 0),(.str []),(.nat .i64 0),(.nat .i64 0),(.nil 1)] 14 50 false 0
  0 0) .lf) (.row [(.nat .i64 1),(.nat .i64 1),(.nat .i64 2),(.nat .i64 2),(.nat .i64 2),(.nat .i64 3),(.nat .i64 2),(.nat .i64 0)] 8 23 false 0 0 0) .lf))
  (.row [(.nat .i64 2),(.nat .i64 2)] 2 23 false 0 0 0) (tn (tl (tl (.nd .lf (.row [(.nat .i64 2),(.nat .i64 2),(.nat .i64 2),(.str []),(.nat .i64 0),(.nat .i64
  0),(.nil 1),(.nat .i64 1),(.nat .i64 0),(.nat .i64 0),(.str []),(.nat .i64 0),(.nat .i64 0),(.nil 1)] 14 50 false 0 0 0) .lf))) (.nd .lf (.row [(.nat .i64
  2),(.nat .i64 2),(.nat .i64 2),(.nat .i64 2),(.nat .i64 1),(.nat .i64 1)] 6 23 false 0 0 0) .lf)))) (tn (.nd (tn (.nd .lf (.row [(.nat .i64 2),(.nat .i64
  1),(.nat .i64 1),(.str []),(.nat .i64 0),(.nat .i64 0),(.nil 1),(.nat .i64 1),(.nat .i64 0),(.nat .i64 0),(.str []),(.nat .i64 0),(.nat .i64 0),(.nil 1)] 14
  50 false 0 0 0) (.nd .lf (.row [(.nat .i64 3),(.nat .i64 2),(.nat .i64 3),(.sl k36 0 0 1 1),(.nat .i64 3),(.nat .i64 2),(.nat .i64 0),(.sl k42 0 0 1 1),(.nat
  .i64 1),(.nat .i64 2),(.nat .i64 2),(.sl k48 0 0 1 1)] 12 35 false 0 0 0) .lf)) (tl (tl (.nd .lf (.row [(.nat .i64 1),(.nat .i64 1),(.nat .i64 2),(.nat .i64
  2),(.nat .i64 2),(.nat .i64 3),(.nat .i64 2),(.nat .i64 0)] 8 23 false 0 0 0) .lf)))) (.row [(.nat .i64 1),(.nat .i64 1)] 2 23 false 0 0 0) (tn (tr (tl (tl
  (.nd .lf (.row [(.sl k148 0 0 2 2)] 1 52 false 0 0 0) .lf)))) (.nd .lf (.row [(.nat .i64 0),(.nat .i64 1),(.sl k30 0 0 3 3),(.nat .i64 1)] 4 29 false 0 0 0)
  .lf))) (tn (tn (tr (.nd .lf (.row [(.nat .i64 1),(.nat .i64 1),(.nat .i64 2),(.nat .i64 2),(.nat .i64 2),(.nat .i64 3),(.nat .i64 2),(.nat .i64 0)] 8 23 false
  0 0 0) .lf)) (.nd (tl (.nd .lf (.row [(.sl k73 0 0 4 4),(.sl k71 0 0 2 2)] 2 27 false 0 0 0) .lf)) (.row [(.sl k26 0 0 4 4),(.sl k24 0 0 2 2)] 2 27 false 0 0
  0) .lf)) (tl (.nd (tl (.nd .lf (.row [(.nat .i64 2),(.nat .i64 2),(.nat .i64 3),(.sl k64 0 0 1 1),(.nat .i64 2),(.nat .i64 2),(.nat .i64 0),(.sl k70 0 0 1 1)]
  8 35 false 0 0 0) .lf)) (.row [(.nat .i64 1),(.nat .i64 0),(.nat .i64 0),(.str []),(.nat .i64 0),(.nat .i64 0),(.nil 1),(.nat .i64 2),(.nat .i64 1),(.nat .i64
  1),(.str []),(.nat .i64 0),(.nat .i64 0),(.nil 1)] 14 50 false 0 0 0) .lf))))), k151⟩, (.ls 1 [(.so k3992 8 0 1 0),(.nat .i64 0)]), ⟨(tn (tn (tn (tn (tr (.nd
  .lf (.row [(.nat .i64 1),(.nat .i64 0),(.nat .i64 0),(.str []),(.nat .i64 0),(.nat .i64 0),(.nil 1),(.nat .i64 2),(.nat .i64 1),(.nat .i64 1),(.str []),(.nat
  .i64 0),(.nat .i64 0),(.nil 1)] 14 50 false 0 0 0) .lf)) (.nd .lf (.row [(.nat .i64 3),(.nat .i64 2),(.nat .i64 3),(.sl k17 0 0 1 1),(.nat .i64 2),(.nat .i64
  2),(.nat .i64 0),(.sl k23 0 0 1 1)] 8 35 false 0 0 0) (tl (tl (tr (tr (tr (tr (.nd .lf (.row [(.nat .i64 1),(.nat .i64 0),(.str [48]),(.so k2166 6 0 3
  0),(.nat .i64 1),(.nat .i64 0),(.str [48]),(.so k3928 4 0 2 0)] 8 82 true 0 0 0) .lf))))))))) (tn (tn (.nd .lf (.row [(.nat .i64 2),(.nat .i64 1),(.nat .i64
  1),(.str []),(.nat .i64 0),(.nat .i64 0),(.nil 1),(.nat .i64 1),(.nat .i64 0),(.nat .i64 0),(.str []),(.nat .i64 0),(.nat .i64 0),(.nil 1)] 14 50 false 0 0 0)
  .lf) (.nd (tl (.nd .lf (.row [(.nil 1),(.nil 1)] 2 53 false 0 0 0) .lf)) (.row [(.sl k51 0 0 4 4),(.sl k49 0 0 3 3)] 2 27 false 0 0 0) .lf)) (tl (tl (.nd .lf
  (.row [(.nil 1)] 1 42 false 0 0 0) .lf))))) (.nd (tr (.nd (.nd .lf (.row [(.nat .i64 2),(.nat .i64 1),(.nat .i64 1),(.str []),(.nat .i64 0),(.nat .i64
  0),(.nil 1),(.nat .i64 1),(.nat .i64 0),(.nat .i64 0),(.str []),(.nat .i64 0),(.nat .i64 0),(.nil 1)] 14 50 false 0 0 0) .lf) (.row [(.nat .i64 1),(.nat .i64
  1),(.nat .i64 2),(.nat .i64 2),(.nat .i64 2),(.nat .i64 3),(.nat .i64 2),(.nat .i64 0)] 8 23 false 0 0 0) .lf)) (.row [(.nat .i64 2),(.nat .i64 2)] 2 23 false
  0 0 0) (tn (tn (tl (.nd .lf (.row [(.nat .i64 2),(.nat .i64 2),(.nat .i64 2),(.str []),(.nat .i64 0),(.nat .i64 0),(.nil 1),(.nat .i64 1),(.nat .i64 0),(.nat
  .i64 0),(.str []),(.nat .i64 0),(.nat .i64 0),(.nil 1)] 14 50 false 0 0 0) .lf)) (tr (tr (tl (tl (tl (tl (.nd .lf (.row [(.str []),(.so k2121 16 0 4 0),(.str
  [48]),(.so k2183 16 0 4 0),(.str []),(.so k2243 16 0 4 0)] 6 128 true 0 0 0) .lf)))))))) (.nd .lf (.row [(.nat .i64 2),(.nat .i64 2),(.nat .i64 2),(.nat .i64
  2),(.nat .i64 1),(.nat .i64 1)] 6 23 false 0 0 0) .lf)))) (tn (.nd (tn (.nd .lf (.row [(.nat .i64 2),(.nat .i64 1),(.nat .i64 1),(.str []),(.nat .i64 0),(.nat
  .i64 0),(.nil 1),(.nat .i64 1),(.nat .i64 0),(.nat .i64 0),(.str []),(.nat .i64 0),(.nat .i64 0),(.nil 1)] 14 50 false 0 0 0) (.nd .lf (.row [(.nat .i64
  3),(.nat .i64 2),(.nat .i64 3),(.sl k36 0 0 1 1),(.nat .i64 3),(.nat .i64 2),(.nat .i64 0),(.sl k42 0 0 1 1),(.nat .i64 1),(.nat .i64 2),(.nat .i64 2),(.sl
  k48 0 0 1 1)] 12 35 false 0 0 0) .lf)) (tl (tl (.nd .lf (.row [(.nat .i64 1),(.nat .i64 1),(.nat .i64 2),(.nat .i64 2),(.nat .i64 2),(.nat .i64 3),(.nat .i64
  2),(.nat .i64 0)] 8 23 false 0 0 0) (tl (tl (tl (tl (.nd .lf (.row [(.nat .i64 1),(.nat .i64 1),(.str [48]),(.nat .i64 1),(.nat .i64 2),(.nat .i64 2),(.str
  [48]),(.nat .i64 2),(.nat .i64 3),(.nat .i64 3),(.str [48]),(.nat .i64 2),(.nat .i64 4),(.nat .i64 4),(.str [48]),(.nat .i64 2)] 16 153 true 0 0 0)
  .lf))))))))) (.row [(.nat .i64 1),(.nat .i64 1)] 2 23 false 0 0 0) (tn (tr (tl (tl (.nd .lf (.row [(.sl k148 0 0 2 2)] 1 52 false 0 0 0) .lf)))) (.nd .lf
  (.row [(.nat .i64 0),(.nat .i64 1),(.sl k30 0 0 3 3),(.nat .i64 1)] 4 29 false 0 0 0) .lf))) (tn (tn (tn (tl (tr (tr (tl (tl (tl (.nd .lf (.row [(.nat .i64
  1),(.nat .i64 1),(.str [48]),(.nat .i64 1),(.nat .i64 2),(.nat .i64 2),(.str [48]),(.nat .i64 2),(.nat .i64 3),(.nat .i64 3),(.str [48]),(.nat .i64 2),(.nat
  .i64 4),(.nat .i64 4),(.str [48]),(.nat .i64 2)] 16 153 true 0 0 0) .lf))))))) (.nd .lf (.row [(.nat .i64 1),(.nat .i64 1),(.nat .i64 2),(.nat .i64 2),(.nat
  .i64 2),(.nat .i64 3),(.nat .i64 2),(.nat .i64 0)] 8 23 false 0 0 0) .lf)) (.nd (tl (.nd .lf (.row [(.sl k73 0 0 4 4),(.sl k71 0 0 2 2)] 2 27 false 0 0 0)
  .lf)) (.row [(.sl k26 0 0 4 4),(.sl k24 0 0 2 2)] 2 27 false 0 0 0) .lf)) (tl (.nd (tl (.nd (tr (tl (tl (tl (.nd .lf (.row [(.nat .i64 1),(.nat .i64 1),(.str
  [48]),(.nat .i64 1),(.nat .i64 2),(.nat .i64 2),(.str [48]),(.nat .i64 2),(.nat .i64 3),(.nat .i64 3),(.str [48]),(.nat .i64 2),(.nat .i64 4),(.nat .i64
  4),(.str [48]),(.nat .i64 2)] 16 153 true 0 0 0) .lf))))) (.row [(.nat .i64 2),(.nat .i64 2),(.nat .i64 3),(.sl k64 0 0 1 1),(.nat .i64 2),(.nat .i64 2),(.nat
  .i64 0),(.sl k70 0 0 1 1)] 8 35 false 0 0 0) .lf)) (.row [(.nat .i64 1),(.nat .i64 0),(.nat .i64 0),(.str []),(.nat .i64 0),(.nat .i64 0),(.nil 1),(.nat .i64
  2),(.nat .i64 1),(.nat .i64 1),(.str []),(.nat .i64 0),(.nat .i64 0),(.nil 1)] 14 50 false 0 0 0) .lf))))), k3993⟩⟩
def hk1 : Hook := ⟨14, [(.ls 0 [(.sl k73 0 0 4 4),(.sl k71 0 0 2 2)]),(.ls 0 [(.nat .i64 2),(.nat .i64 2),(.nat .i64 0),(.sl k70 0 0 1 1)])], ⟨(tn (tn (tn (tn
  (tr (.nd .lf (.row [(.nat .i64 1),(.nat .i64 0),(.nat .i64 0),(.str []),(.nat .i64 0),(.nat .i64 0),(.nil 1),(.nat .i64 2),(.nat .i64 1),(.nat .i64 1),(.str
  []),(.nat .i64 0),(.nat .i64 0),(.nil 1)] 14 50 false 0 0 0) .lf)) (.nd .lf (.row [(.nat .i64 3),(.nat .i64 2),(.nat .i64 3),(.sl k17 0 0 1 1),(.nat .i64
  2),(.nat .i64 2),(.nat .i64 0),(.sl k23 0 0 1 1)] 8 35 false 0 0 0) (tl (tl (tr (tr (tr (tr (.nd .lf (.row [(.nat .i64 1),(.nat .i64 0),(.str [48]),(.so k2166
  6 0 3 0),(.nat .i64 1),(.nat .i64 0),(.str [48]),(.so k3928 4 0 2 0)] 8 82 true 0 0 0) .lf))))))))) (tn (tn (.nd .lf (.row [(.nat .i64 2),(.nat .i64 1),(.nat
  .i64 1),(.str []),(.nat .i64 0),(.nat .i64 0),(.nil 1),(.nat .i64 1),(.nat .i64 0),(.nat .i64 0),(.str []),(.nat .i64 0),(.nat .i64 0),(.nil 1)] 14 50 false 0
  0 0) .lf) (.nd (tl (.nd .lf (.row [(.so k3992 8 0 1 0),(.nil 1)] 2 53 false 0 0 0) .lf)) (.row [(.sl k51 0 0 4 4),(.sl k49 0 0 3 3)] 2 27 false 0 0 0) .lf))
  (tl (tl (.nd .lf (.row [(.nil 1)] 1 42 false 0 0 0) .lf))))) (.nd (tr (.nd (.nd .lf (.row [(.nat .i64 2),(.nat .i64 1),(.nat .i64 1),(.str []),(.nat .i64
  0),(.nat .i64 0),(.nil 1),(.nat .i64 1),(.nat .i64 0),(.nat .i64 0),(.str []),(.nat .i64 0),(.nat .i64 0),(.nil 1)] 14 50 false 0 0 0) .lf) (.row [(.nat .i64
  1),(.nat .i64 1),(.nat .i64 2),(.nat .i64 2),(.nat .i64 2),(.nat .i64 3),(.nat .i64 2),(.nat .i64 0)] 8 23 false 0 0 0) .lf)) (.row [(.nat .i64 2),(.nat .i64
  2)] 2 23 false 0 0 0) (tn (tn (tl (.nd .lf (.row [(.nat .i64 2),(.nat .i64 2),(.nat .i64 2),(.str []),(.nat .i64 0),(.nat .i64 0),(.nil 1),(.nat .i64 1),(.nat
  .i64 0),(.nat .i64 0),(.str []),(.nat .i64 0),(.nat .i64 0),(.nil 1)] 14 50 false 0 0 0) .lf)) (tr (tr (tl (tl (tl (tl (.nd .lf (.row [(.str []),(.so k2121 16
  0 4 0),(.str [48]),(.so k2183 16 0 4 0),(.str []),(.so k2243 16 0 4 0)] 6 128 true 0 0 0) .lf)))))))) (.nd .lf (.row [(.nat .i64 2),(.nat .i64 2),(.nat .i64
  2),(.nat .i64 2),(.nat .i64 1),(.nat .i64 1)] 6 23 false 0 0 0) .lf)))) (tn (.nd (tn (.nd .lf (.row [(.nat .i64 2),(.nat .i64 1),(.nat .i64 1),(.str []),(.nat
  .i64 0),(.nat .i64 0),(.nil 1),(.nat .i64 1),(.nat .i64 0),(.nat .i64 0),(.str []),(.nat .i64 0),(.nat .i64 0),(.nil 1)] 14 50 false 0 0 0) (.nd .lf (.row
  [(.nat .i64 3),(.nat .i64 2),(.nat .i64 3),(.sl k36 0 0 1 1),(.nat .i64 3),(.nat .i64 2),(.nat .i64 0),(.sl k42 0 0 1 1),(.nat .i64 1),(.nat .i64 2),(.nat
  .i64 2),(.sl k48 0 0 1 1)] 12 35 false 0 0 0) .lf)) (tl (tl (.nd .lf (.row [(.nat .i64 1),(.nat .i64 1),(.nat .i64 2),(.nat .i64 2),(.nat .i64 2),(.nat .i64
  3),(.nat .i64 2),(.nat .i64 0)] 8 23 false 0 0 0) (tl (tl (tl (tl (.nd .lf (.row [(.nat .i64 1),(.nat .i64 1),(.str [48]),(.nat .i64 1),(.nat .i64 2),(.nat
  .i64 2),(.str [48]),(.nat .i64 2),(.nat .i64 3),(.nat .i64 3),(.str [48]),(.nat .i64 2),(.nat .i64 4),(.nat .i64 4),(.str [48]),(.nat .i64 2)] 16 153 true 0 0
  0) .lf))))))))) (.row [(.nat .i64 1),(.nat .i64 1)] 2 23 false 0 0 0) (tn (tr (tl (tl (.nd .lf (.row [(.sl k148 0 0 2 2)] 1 52 false 0 0 0) .lf)))) (.nd .lf
  (.row [(.nat .i64 0),(.nat .i64 1),(.sl k30 0 0 3 3),(.nat .i64 1)] 4 29 false 0 0 0) .lf))) (tn (tn (tn (tl (tr (tr (tl (tl (tl (.nd .lf (.row [(.nat .i64
  1),(.nat .i64 1),(.str [48]),(.nat .i64 1),(.nat .i64 2),(.nat .i64 2),(.str [48]),(.nat .i64 2),(.nat .i64 3),(.nat .i64 3),(.str [48]),(.nat .i64 2),(.nat
  .i64 4),(.nat .i64 4),(.str [48]),(.nat .i64 2)] 16 153 true 0 0 0) .lf))))))) (.nd .lf (.row [(.nat .i64 1),(.nat .i64 1),(.nat .i64 2),(.nat .i64 2),(.nat
  .i64 2),(.nat .i64 3),(.nat .i64 2),(.nat .i64 0)] 8 23 false 0 0 0) .lf)) (.nd (tl (.nd .lf (.row [(.sl k73 0 0 4 4),(.sl k71 0 0 2 2)] 2 27 false 0 0 0)
  .lf)) (.row [(.sl k26 0 0 4 4),(.sl k24 0 0 2 2)] 2 27 false 0 0 0) .lf)) (tl (.nd (tl (.nd (tr (tl (tl (tl (.nd .lf (.row [(.nat .i64 1),(.nat .i64 1),(.str
  [48]),(.nat .i64 1),(.nat .i64 2),(.nat .i64 2),(.str [48]),(.nat .i64 2),(.nat .i64 3),(.nat .i64 3),(.str [48]),(.nat .i64 2),(.nat .i64 4),(.nat .i64
  4),(.str [48]),(.nat .i64 2)] 16 153 true 0 0 0) .lf))))) (.row [(.nat .i64 2),(.nat .i64 2),(.nat .i64 3),(.sl k64 0 0 1 1),(.nat .i64 2),(.nat .i64 2),(.nat
  .i64 0),(.sl k70 0 0 1 1)] 8 35 false 0 0 0) .lf)) (.row [(.nat .i64 1),(.nat .i64 0),(.nat .i64 0),(.str []),(.nat .i64 0),(.nat .i64 0),(.nil 1),(.nat .i64
  2),(.nat .i64 1),(.nat .i64 1),(.str []),(.nat .i64 0),(.nat .i64 0),(.nil 1)] 14 50 false 0 0 0) .lf))))), k3994⟩, (.ls 1 [(.so k7835 8 0 1 0),(.nat .i64
  0)]), ⟨(tn (tn (tn (tn (tr (.nd .lf (.row [(.nat .i64 1),(.nat .i64 0),(.nat .i64 0),(.str []),(.nat .i64 0),(.nat .i64 0),(.nil 1),(.nat .i64 2),(.nat .i64
  1),(.nat .i64 1),(.str []),(.nat .i64 0),(.nat .i64 0),(.nil 1)] 14 50 false 0 0 0) .lf)) (.nd .lf (.row [(.nat .i64 3),(.nat .i64 2),(.nat .i64 3),(.sl k17 0
  0 1 1),(.nat .i64 2),(.nat .i64 2),(.nat .i64 0),(.sl k23 0 0 1 1)] 8 35 false 0 0 0) (tl (tl (tr (tr (tr (tr (.nd .lf (.row [(.nat .i64 1),(.nat .i64
  0),(.str [48]),(.so k2166 6 0 3 0),(.nat .i64 1),(.nat .i64 0),(.str [48]),(.so k3928 4 0 2 0)] 8 82 true 0 0 0) .lf))))))))) (tn (tn (.nd .lf (.row [(.nat
  .i64 2),(.nat .i64 1),(.nat .i64 1),(.str []),(.nat .i64 0),(.nat .i64 0),(.nil 1),(.nat .i64 1),(.nat .i64 0),(.nat .i64 0),(.str []),(.nat .i64 0),(.nat
  .i64 0),(.nil 1)] 14 50 false 0 0 0) .lf) (.nd (tl (.nd .lf (.row [(.so k3992 8 0 1 0),(.nil 1)] 2 53 false 0 0 0) .lf)) (.row [(.sl k51 0 0 4 4),(.sl k49 0 0
  3 3)] 2 27 false 0 0 0) .lf)) (tl (tl (.nd .lf (.row [(.nil 1)] 1 42 false 0 0 0) (tl (tr (tr (tr (tl (.nd .lf (.row [(.nat .i64 1),(.nat .i64 1),(.str
  [48]),(.nat .i64 1),(.nat .i64 2),(.nat .i64 2),(.str [48]),(.nat .i64 2),(.nat .i64 3),(.nat .i64 3),(.str [48]),(.nat .i64 1),(.nat .i64 4),(.nat .i64
  4),(.str [48]),(.nat .i64 1)] 16 153 true 0 0 0) .lf))))))))))) (.nd (tr (.nd (.nd (tl (tr (tr (tr (tr (tl (.nd .lf (.row [(.nat .i64 1),(.nat .i64 1),(.str
  [48]),(.nat .i64 1),(.nat .i64 2),(.nat .i64 2),(.str [48]),(.nat .i64 2),(.nat .i64 3),(.nat .i64 3),(.str [48]),(.nat .i64 1),(.nat .i64 4),(.nat .i64
  4),(.str [48]),(.nat .i64 1)] 16 153 true 0 0 0) .lf))))))) (.row [(.nat .i64 2),(.nat .i64 1),(.nat .i64 1),(.str []),(.nat .i64 0),(.nat .i64 0),(.nil
  1),(.nat .i64 1),(.nat .i64 0),(.nat .i64 0),(.str []),(.nat .i64 0),(.nat .i64 0),(.nil 1)] 14 50 false 0 0 0) .lf) (.row [(.nat .i64 1),(.nat .i64 1),(.nat
  .i64 2),(.nat .i64 2),(.nat .i64 2),(.nat .i64 3),(.nat .i64 2),(.nat .i64 0)] 8 23 false 0 0 0) .lf)) (.row [(.nat .i64 2),(.nat .i64 2)] 2 23 false 0 0 0)
  (tn (tn (tl (tr (tr (tr (tr (tr (tl (.nd .lf (.row [(.nat .i64 1),(.nat .i64 1),(.str [48]),(.nat .i64 1),(.nat .i64 2),(.nat .i64 2),(.str [48]),(.nat .i64
  2),(.nat .i64 3),(.nat .i64 3),(.str [48]),(.nat .i64 1),(.nat .i64 4),(.nat .i64 4),(.str [48]),(.nat .i64 1)] 16 153 true 0 0 0) .lf)))))))) (tr (tr (tl (tl
  (tl (tl (.nd .lf (.row [(.str []),(.so k2121 16 0 4 0),(.str [48]),(.so k2183 16 0 4 0),(.str []),(.so k2243 16 0 4 0)] 6 128 true 0 0 0) .lf)))))))) (.nd .lf
  (.row [(.nat .i64 2),(.nat .i64 2),(.nat .i64 2),(.nat .i64 2),(.nat .i64 1),(.nat .i64 1)] 6 23 false 0 0 0) .lf)))) (tn (.nd (tn (.nd .lf (.row [(.nat .i64
  2),(.nat .i64 1),(.nat .i64 1),(.str []),(.nat .i64 0),(.nat .i64 0),(.nil 1),(.nat .i64 1),(.nat .i64 0),(.nat .i64 0),(.str []),(.nat .i64 0),(.nat .i64
  0),(.nil 1)] 14 50 false 0 0 0) (.nd .lf (.row [(.nat .i64 3),(.nat .i64 2),(.nat .i64 3),(.sl k36 0 0 1 1),(.nat .i64 3),(.nat .i64 2),(.nat .i64 0),(.sl k42
  0 0 1 1),(.nat .i64 1),(.nat .i64 2),(.nat .i64 2),(.sl k48 0 0 1 1)] 12 35 false 0 0 0) .lf)) (tn (tl (.nd .lf (.row [(.nat .i64 1),(.nat .i64 1),(.nat .i64
  2),(.nat .i64 2),(.nat .i64 2),(.nat .i64 3),(.nat .i64 2),(.nat .i64 0)] 8 23 false 0 0 0) (tl (tl (tl (tl (.nd .lf (.row [(.nat .i64 1),(.nat .i64 1),(.str
  [48]),(.nat .i64 1),(.nat .i64 2),(.nat .i64 2),(.str [48]),(.nat .i64 2),(.nat .i64 3),(.nat .i64 3),(.str [48]),(.nat .i64 2),(.nat .i64 4),(.nat .i64
  4),(.str [48]),(.nat .i64 2)] 16 153 true 0 0 0) .lf))))))) (tr (tr (tl (tr (tr (tr (tl (.nd .lf (.row [(.str []),(.so k5964 16 0 4 0),(.str []),(.so k6026 16
  0 4 0),(.str [48]),(.so k6086 16 0 4 0)] 6 128 true 0 0 0) .lf)))))))))) (.row [(.nat .i64 1),(.nat .i64 1)] 2 23 false 0 0 0) (tn (tr (tl (tl (.nd .lf (.row
  [(.sl k148 0 0 2 2)] 1 52 false 0 0 0) .lf)))) (.nd .lf (.row [(.nat .i64 0),(.nat .i64 1),(.sl k30 0 0 3 3),(.nat .i64 1)] 4 29 false 0 0 0) .lf))) (tn (tn
  (tn (tl (tr (tr (tl (tl (tl (.nd .lf (.row [(.nat .i64 1),(.nat .i64 1),(.str [48]),(.nat .i64 1),(.nat .i64 2),(.nat .i64 2),(.str [48]),(.nat .i64 2),(.nat
  .i64 3),(.nat .i64 3),(.str [48]),(.nat .i64 2),(.nat .i64 4),(.nat .i64 4),(.str [48]),(.nat .i64 2)] 16 153 true 0 0 0) .lf))))))) (.nd .lf (.row [(.nat
  .i64 1),(.nat .i64 1),(.nat .i64 2),(.nat .i64 2),(.nat .i64 2),(.nat .i64 3),(.nat .i64 2),(.nat .i64 0)] 8 23 false 0 0 0) .lf)) (.nd (tl (.nd .lf (.row
  [(.sl k73 0 0 4 4),(.sl k71 0 0 2 2)] 2 27 false 0 0 0) .lf)) (.row [(.sl k26 0 0 4 4),(.sl k24 0 0 2 2)] 2 27 false 0 0 0) (tl (tl (tr (tl (tr (tr (tr (.nd
  .lf (.row [(.nat .i64 1),(.nat .i64 0),(.str [48]),(.so k6009 6 0 3 0),(.nat .i64 1),(.nat .i64 0),(.str [48]),(.so k7771 4 0 2 0)] 8 82 true 0 0 0)
  .lf)))))))))) (tl (.nd (tl (.nd (tr (tl (tl (tl (.nd .lf (.row [(.nat .i64 1),(.nat .i64 1),(.str [48]),(.nat .i64 1),(.nat .i64 2),(.nat .i64 2),(.str
  [48]),(.nat .i64 2),(.nat .i64 3),(.nat .i64 3),(.str [48]),(.nat .i64 2),(.nat .i64 4),(.nat .i64 4),(.str [48]),(.nat .i64 2)] 16 153 true 0 0 0) .lf)))))
  (.row [(.nat .i64 2),(.nat .i64 2),(.nat .i64 3),(.sl k64 0 0 1 1),(.nat .i64 2),(.nat .i64 2),(.nat .i64 0),(.sl k70 0 0 1 1)] 8 35 false 0 0 0) .lf)) (.row
  [(.nat .i64 1),(.nat .i64 0),(.nat .i64 0),(.str []),(.nat .i64 0),(.nat .i64 0),(.nil 1),(.nat .i64 2),(.nat .i64 1),(.nat .i64 1),(.str []),(.nat .i64
  0),(.nat .i64 0),(.nil 1)] 14 50 false 0 0 0) .lf))))), k7836⟩⟩
def hk2 : Hook := ⟨14, [(.ls 0 [(.sl k51 0 0 4 4),(.sl k49 0 0 3 3)]),(.ls 0 [(.nat .i64 3),(.nat .i64 2),(.nat .i64 3),(.sl k36 0 0 1 1)])], ⟨(tn (tn (tn (tn
  (tr (.nd .lf (.row [(.nat .i64 1),(.nat .i64 0),(.nat .i64 0),(.str []),(.nat .i64 0),(.nat .i64 0),(.nil 1),(.nat .i64 2),(.nat .i64 1),(.nat .i64 1),(.str
  []),(.nat .i64 0),(.nat .i64 0),(.nil 1)] 14 50 false 0 0 0) (tl (tl (tl (tl (tl (tl (tl (.nd .lf (.row [(.nat .i64 1),(.nat .i64 1),(.nat .i64 2),(.nat .i64
  2)] 4 23 false 0 0 0) .lf)))))))))) (.nd .lf (.row [(.nat .i64 3),(.nat .i64 2),(.nat .i64 3),(.sl k17 0 0 1 1),(.nat .i64 2),(.nat .i64 2),(.nat .i64 0),(.sl
  k23 0 0 1 1)] 8 35 false 0 0 0) (tl (tl (tr (tl (tl (tl (tl (tl (.nd .lf (.row [(.sl k8343 0 0 3 3)] 1 52 false 0 0 0) .lf))))))))))) (tl (tn (.nd .lf (.row
  [(.nat .i64 2),(.nat .i64 1),(.nat .i64 1),(.str []),(.nat .i64 0),(.nat .i64 0),(.nil 1),(.nat .i64 1),(.nat .i64 0),(.nat .i64 0),(.str []),(.nat .i64
  0),(.nat .i64 0),(.nil 1)] 14 50 false 0 0 0) .lf) (tr (tl (tl (tl (tl (tl (tl (tl (.nd .lf (.row [(.nil 1)] 1 42 false 0 0 0) .lf)))))))))))) (.nd (tr (.nd
  (.nd .lf (.row [(.nat .i64 2),(.nat .i64 1),(.nat .i64 1),(.str []),(.nat .i64 0),(.nat .i64 0),(.nil 1),(.nat .i64 1),(.nat .i64 0),(.nat .i64 0),(.str
  []),(.nat .i64 0),(.nat .i64 0),(.nil 1)] 14 50 false 0 0 0) .lf) (.row [(.nat .i64 1),(.nat .i64 1),(.nat .i64 2),(.nat .i64 2),(.nat .i64 2),(.nat .i64
  3),(.nat .i64 2),(.nat .i64 0)] 8 23 false 0 0 0) .lf)) (.row [(.nat .i64 2),(.nat .i64 2)] 2 23 false 0 0 0) (tr (.nd .lf (.row [(.nat .i64 2),(.nat .i64
  2),(.nat .i64 2),(.nat .i64 2),(.nat .i64 1),(.nat .i64 1)] 6 23 false 0 0 0) .lf)))) (tn (tn (tl (.nd .lf (.row [(.nat .i64 2),(.nat .i64 1),(.nat .i64
  1),(.str []),(.nat .i64 0),(.nat .i64 0),(.nil 1),(.nat .i64 1),(.nat .i64 0),(.nat .i64 0),(.str []),(.nat .i64 0),(.nat .i64 0),(.nil 1)] 14 50 false 0 0 0)
  (.nd .lf (.row [(.nat .i64 3),(.nat .i64 2),(.nat .i64 3),(.sl k36 0 0 1 1),(.nat .i64 3),(.nat .i64 2),(.nat .i64 0),(.sl k42 0 0 1 1),(.nat .i64 1),(.nat
  .i64 2),(.nat .i64 2),(.sl k48 0 0 1 1)] 12 35 false 0 0 0) (tl (tl (tl (tl (tl (tl (tl (.nd .lf (.row [(.nat .i64 0),(.nat .i64 1),(.sl k8240 0 0 2 2),(.nat
  .i64 1)] 4 29 false 0 0 0) .lf))))))))))) (tr (.nd .lf (.row [(.nat .i64 0),(.nat .i64 1),(.sl k30 0 0 3 3),(.nat .i64 1)] 4 29 false 0 0 0) .lf))) (tn (tn
  (tr (.nd .lf (.row [(.nat .i64 1),(.nat .i64 1),(.nat .i64 2),(.nat .i64 2),(.nat .i64 2),(.nat .i64 3),(.nat .i64 2),(.nat .i64 0)] 8 23 false 0 0 0) (tl (tl
  (tl (tl (tl (tl (tl (.nd .lf (.row [(.sl k51 0 0 4 4),(.sl k49 0 0 3 3)] 2 27 false 0 0 0) .lf)))))))))) (.nd .lf (.row [(.sl k26 0 0 4 4),(.sl k24 0 0 2 2)]
  2 27 false 0 0 0) .lf)) (tl (.nd .lf (.row [(.nat .i64 1),(.nat .i64 0),(.nat .i64 0),(.str []),(.nat .i64 0),(.nat .i64 0),(.nil 1),(.nat .i64 2),(.nat .i64
  1),(.nat .i64 1),(.str []),(.nat .i64 0),(.nat .i64 0),(.nil 1)] 14 50 false 0 0 0) (tl (tl (tr (tl (tl (tl (tl (tl (.nd .lf (.row [(.nil 1),(.nil 1),(.nil
  1)] 3 53 false 0 0 0) .lf)))))))))))))), k8346⟩, (.ls 1 [(.so k12187 8 0 1 0),(.nat .i64 0)]), ⟨(tn (tn (tn (tn (tr (.nd .lf (.row [(.nat .i64 1),(.nat .i64
  0),(.nat .i64 0),(.str []),(.nat .i64 0),(.nat .i64 0),(.nil 1),(.nat .i64 2),(.nat .i64 1),(.nat .i64 1),(.str []),(.nat .i64 0),(.nat .i64 0),(.nil 1)] 14
  50 false 0 0 0) (tl (tl (tl (tl (tl (tl (tl (.nd .lf (.row [(.nat .i64 1),(.nat .i64 1),(.nat .i64 2),(.nat .i64 2)] 4 23 false 0 0 0) .lf)))))))))) (.nd .lf
  (.row [(.nat .i64 3),(.nat .i64 2),(.nat .i64 3),(.sl k17 0 0 1 1),(.nat .i64 2),(.nat .i64 2),(.nat .i64 0),(.sl k23 0 0 1 1)] 8 35 false 0 0 0) (tl (tl (tr
  (tl (tl (tl (tl (tl (.nd .lf (.row [(.sl k8343 0 0 3 3)] 1 52 false 0 0 0) .lf))))))))))) (tn (tn (.nd .lf (.row [(.nat .i64 2),(.nat .i64 1),(.nat .i64
  1),(.str []),(.nat .i64 0),(.nat .i64 0),(.nil 1),(.nat .i64 1),(.nat .i64 0),(.nat .i64 0),(.str []),(.nat .i64 0),(.nat .i64 0),(.nil 1)] 14 50 false 0 0 0)
  .lf) (tr (tl (tl (tl (tl (tl (tl (tl (.nd .lf (.row [(.nil 1)] 1 42 false 0 0 0) .lf)))))))))) (tl (tl (tr (tl (tl (tl (tl (tr (tl (.nd .lf (.row [(.nat .i64
  1),(.nat .i64 1),(.str [48]),(.nat .i64 1),(.nat .i64 2),(.nat .i64 2),(.str [48]),(.nat .i64 2),(.nat .i64 3),(.nat .i64 3),(.str [48]),(.nat .i64 2),(.nat
  .i64 4),(.nat .i64 4),(.str [48]),(.nat .i64 2)] 16 153 true 0 0 0) .lf)))))))))))) (.nd (tr (.nd (.nd (tl (tr (tl (tl (tl (tr (tl (.nd .lf (.row [(.nat .i64
  1),(.nat .i64 1),(.str [48]),(.nat .i64 1),(.nat .i64 2),(.nat .i64 2),(.str [48]),(.nat .i64 2),(.nat .i64 3),(.nat .i64 3),(.str [48]),(.nat .i64 2),(.nat
  .i64 4),(.nat .i64 4),(.str [48]),(.nat .i64 2)] 16 153 true 0 0 0) .lf)))))))) (.row [(.nat .i64 2),(.nat .i64 1),(.nat .i64 1),(.str []),(.nat .i64 0),(.nat
  .i64 0),(.nil 1),(.nat .i64 1),(.nat .i64 0),(.nat .i64 0),(.str []),(.nat .i64 0),(.nat .i64 0),(.nil 1)] 14 50 false 0 0 0) .lf) (.row [(.nat .i64 1),(.nat
  .i64 1),(.nat .i64 2),(.nat .i64 2),(.nat .i64 2),(.nat .i64 3),(.nat .i64 2),(.nat .i64 0)] 8 23 false 0 0 0) .lf)) (.row [(.nat .i64 2),(.nat .i64 2)] 2 23
  false 0 0 0) (tr (.nd .lf (.row [(.nat .i64 2),(.nat .i64 2),(.nat .i64 2),(.nat .i64 2),(.nat .i64 1),(.nat .i64 1)] 6 23 false 0 0 0) .lf)))) (tn (tn (tn
  (.nd .lf (.row [(.nat .i64 2),(.nat .i64 1),(.nat .i64 1),(.str []),(.nat .i64 0),(.nat .i64 0),(.nil 1),(.nat .i64 1),(.nat .i64 0),(.nat .i64 0),(.str
  []),(.nat .i64 0),(.nat .i64 0),(.nil 1)] 14 50 false 0 0 0) (.nd .lf (.row [(.nat .i64 3),(.nat .i64 2),(.nat .i64 3),(.sl k36 0 0 1 1),(.nat .i64 3),(.nat
  .i64 2),(.nat .i64 0),(.sl k42 0 0 1 1),(.nat .i64 1),(.nat .i64 2),(.nat .i64 2),(.sl k48 0 0 1 1)] 12 35 false 0 0 0) (tl (tl (tl (tl (tl (tl (tl (.nd .lf
  (.row [(.nat .i64 0),(.nat .i64 1),(.sl k8240 0 0 2 2),(.nat .i64 1)] 4 29 false 0 0 0) .lf)))))))))) (tr (tr (tr (tl (tl (tl (tl (tr (tl (.nd .lf (.row
  [(.str []),(.so k10316 16 0 4 0),(.str [48]),(.so k10378 16 0 4 0),(.str []),(.so k10438 16 0 4 0)] 6 128 true 0 0 0) .lf))))))))))) (tr (.nd .lf (.row [(.nat
  .i64 0),(.nat .i64 1),(.sl k30 0 0 3 3),(.nat .i64 1)] 4 29 false 0 0 0) .lf))) (tn (tn (tr (.nd .lf (.row [(.nat .i64 1),(.nat .i64 1),(.nat .i64 2),(.nat
  .i64 2),(.nat .i64 2),(.nat .i64 3),(.nat .i64 2),(.nat .i64 0)] 8 23 false 0 0 0) (tl (tl (tl (tl (tl (tl (tl (.nd .lf (.row [(.sl k51 0 0 4 4),(.sl k49 0 0
  3 3)] 2 27 false 0 0 0) .lf)))))))))) (.nd .lf (.row [(.sl k26 0 0 4 4),(.sl k24 0 0 2 2)] 2 27 false 0 0 0) (tl (tn (tr (tr (tr (tr (tr (tl (.nd .lf (.row
  [(.nat .i64 1),(.nat .i64 0),(.str [48]),(.so k10361 6 0 3 0),(.nat .i64 1),(.nat .i64 0),(.str [48]),(.so k12123 4 0 2 0)] 8 82 true 0 0 0) .lf))))))) (tl
  (tr (tr (tr (tr (tl (.nd .lf (.row [(.str [48]),(.so k12079 16 0 4 0),(.str [48]),(.so k12140 16 0 4 0)] 4 128 true 0 0 0) .lf))))))))))) (tl (.nd .lf (.row
  [(.nat .i64 1),(.nat .i64 0),(.nat .i64 0),(.str []),(.nat .i64 0),(.nat .i64 0),(.nil 1),(.nat .i64 2),(.nat .i64 1),(.nat .i64 1),(.str []),(.nat .i64
  0),(.nat .i64 0),(.nil 1)] 14 50 false 0 0 0) (tl (tl (tr (tl (tl (tl (tl (tl (.nd .lf (.row [(.nil 1),(.nil 1),(.nil 1)] 3 53 false 0 0 0) .lf)))))))))))))),
  k12188⟩⟩
def hk3 : Hook := ⟨14, [(.ls 0 [(.sl k51 0 0 4 4),(.sl k49 0 0 3 3)]),(.ls 0 [(.nat .i64 3),(.nat .i64 2),(.nat .i64 0),(.sl k42 0 0 1 1)])], ⟨(tn (tn (tn (tn
  (tr (.nd .lf (.row [(.nat .i64 1),(.nat .i64 0),(.nat .i64 0),(.str []),(.nat .i64 0),(.nat .i64 0),(.nil 1),(.nat .i64 2),(.nat .i64 1),(.nat .i64 1),(.str
  []),(.nat .i64 0),(.nat .i64 0),(.nil 1)] 14 50 false 0 0 0) (tl (tl (tl (tl (tl (tl (tl (.nd .lf (.row [(.nat .i64 1),(.nat .i64 1),(.nat .i64 2),(.nat .i64
  2)] 4 23 false 0 0 0) .lf)))))))))) (.nd .lf (.row [(.nat .i64 3),(.nat .i64 2),(.nat .i64 3),(.sl k17 0 0 1 1),(.nat .i64 2),(.nat .i64 2),(.nat .i64 0),(.sl
  k23 0 0 1 1)] 8 35 false 0 0 0) (tl (tl (tr (tl (tl (tl (tl (tl (.nd .lf (.row [(.sl k8343 0 0 3 3)] 1 52 false 0 0 0) .lf))))))))))) (tn (tn (.nd .lf (.row
  [(.nat .i64 2),(.nat .i64 1),(.nat .i64 1),(.str []),(.nat .i64 0),(.nat .i64 0),(.nil 1),(.nat .i64 1),(.nat .i64 0),(.nat .i64 0),(.str []),(.nat .i64
  0),(.nat .i64 0),(.nil 1)] 14 50 false 0 0 0) .lf) (tr (tl (tl (tl (tl (tl (tl (tl (.nd .lf (.row [(.nil 1)] 1 42 false 0 0 0) .lf)))))))))) (tl (tl (tr (tl
  (tl (tl (tl (tr (tl (.nd .lf (.row [(.nat .i64 1),(.nat .i64 1),(.str [48]),(.nat .i64 1),(.nat .i64 2),(.nat .i64 2),(.str [48]),(.nat .i64 2),(.nat .i64
  3),(.nat .i64 3),(.str [48]),(.nat .i64 2),(.nat .i64 4),(.nat .i64 4),(.str [48]),(.nat .i64 2)] 16 153 true 0 0 0) .lf)))))))))))) (.nd (tr (.nd (.nd (tl
  (tr (tl (tl (tl (tr (tl (.nd .lf (.row [(.nat .i64 1),(.nat .i64 1),(.str [48]),(.nat .i64 1),(.nat .i64 2),(.nat .i64 2),(.str [48]),(.nat .i64 2),(.nat .i64
  3),(.nat .i64 3),(.str [48]),(.nat .i64 2),(.nat .i64 4),(.nat .i64 4),(.str [48]),(.nat .i64 2)] 16 153 true 0 0 0) .lf)))))))) (.row [(.nat .i64 2),(.nat
  .i64 1),(.nat .i64 1),(.str []),(.nat .i64 0),(.nat .i64 0),(.nil 1),(.nat .i64 1),(.nat .i64 0),(.nat .i64 0),(.str []),(.nat .i64 0),(.nat .i64 0),(.nil 1)]
  14 50 false 0 0 0) .lf) (.row [(.nat .i64 1),(.nat .i64 1),(.nat .i64 2),(.nat .i64 2),(.nat .i64 2),(.nat .i64 3),(.nat .i64 2),(.nat .i64 0)] 8 23 false 0 0
  0) .lf)) (.row [(.nat .i64 2),(.nat .i64 2)] 2 23 false 0 0 0) (tr (.nd .lf (.row [(.nat .i64 2),(.nat .i64 2),(.nat .i64 2),(.nat .i64 2),(.nat .i64 1),(.nat
  .i64 1)] 6 23 false 0 0 0) .lf)))) (tn (tn (tn (.nd .lf (.row [(.nat .i64 2),(.nat .i64 1),(.nat .i64 1),(.str []),(.nat .i64 0),(.nat .i64 0),(.nil 1),(.nat
  .i64 1),(.nat .i64 0),(.nat .i64 0),(.str []),(.nat .i64 0),(.nat .i64 0),(.nil 1)] 14 50 false 0 0 0) (.nd .lf (.row [(.nat .i64 3),(.nat .i64 2),(.nat .i64
  3),(.sl k36 0 0 1 1),(.nat .i64 3),(.nat .i64 2),(.nat .i64 0),(.sl k42 0 0 1 1),(.nat .i64 1),(.nat .i64 2),(.nat .i64 2),(.sl k48 0 0 1 1)] 12 35 false 0 0
  0) (tl (tl (tl (tl (tl (tl (tl (.nd .lf (.row [(.nat .i64 0),(.nat .i64 1),(.sl k8240 0 0 2 2),(.nat .i64 1)] 4 29 false 0 0 0) .lf)))))))))) (tr (tr (tr (tl
  (tl (tl (tl (tr (tl (.nd .lf (.row [(.str []),(.so k10316 16 0 4 0),(.str [48]),(.so k10378 16 0 4 0),(.str []),(.so k10438 16 0 4 0)] 6 128 true 0 0 0)
  .lf))))))))))) (tr (.nd .lf (.row [(.nat .i64 0),(.nat .i64 1),(.sl k30 0 0 3 3),(.nat .i64 1)] 4 29 false 0 0 0) .lf))) (tn (tn (tr (.nd .lf (.row [(.nat
  .i64 1),(.nat .i64 1),(.nat .i64 2),(.nat .i64 2),(.nat .i64 2),(.nat .i64 3),(.nat .i64 2),(.nat .i64 0)] 8 23 false 0 0 0) (tl (tl (tl (tl (tl (tl (tl (.nd
  .lf (.row [(.sl k51 0 0 4 4),(.sl k49 0 0 3 3)] 2 27 false 0 0 0) .lf)))))))))) (.nd .lf (.row [(.sl k26 0 0 4 4),(.sl k24 0 0 2 2)] 2 27 false 0 0 0) (tl (tn
  (tr (tr (tr (tr (tr (tl (.nd .lf (.row [(.nat .i64 1),(.nat .i64 0),(.str [48]),(.so k10361 6 0 3 0),(.nat .i64 1),(.nat .i64 0),(.str [48]),(.so k12123 4 0 2
  0)] 8 82 true 0 0 0) .lf))))))) (tl (tr (tr (tr (tr (tl (.nd .lf (.row [(.str [48]),(.so k12079 16 0 4 0),(.str [48]),(.so k12140 16 0 4 0)] 4 128 true 0 0 0)
  .lf))))))))))) (tl (.nd .lf (.row [(.nat .i64 1),(.nat .i64 0),(.nat .i64 0),(.str []),(.nat .i64 0),(.nat .i64 0),(.nil 1),(.nat .i64 2),(.nat .i64 1),(.nat
  .i64 1),(.str []),(.nat .i64 0),(.nat .i64 0),(.nil 1)] 14 50 false 0 0 0) (tl (tl (tr (tl (tl (tl (tl (tl (.nd .lf (.row [(.so k12187 8 0 1 0),(.nil 1),(.nil
  1)] 3 53 false 0 0 0) .lf)))))))))))))), k12189⟩, (.ls 1 [(.so k16030 8 0 1 0),(.nat .i64 0)]), ⟨(tn (tn (tn (tn (tr (.nd .lf (.row [(.nat .i64 1),(.nat .i64
  0),(.nat .i64 0),(.str []),(.nat .i64 0),(.nat .i64 0),(.nil 1),(.nat .i64 2),(.nat .i64 1),(.nat .i64 1),(.str []),(.nat .i64 0),(.nat .i64 0),(.nil 1)] 14
  50 false 0 0 0) (tl (tl (tl (tl (tl (tl (tl (.nd .lf (.row [(.nat .i64 1),(.nat .i64 1),(.nat .i64 2),(.nat .i64 2)] 4 23 false 0 0 0) .lf)))))))))) (.nd .lf
  (.row [(.nat .i64 3),(.nat .i64 2),(.nat .i64 3),(.sl k17 0 0 1 1),(.nat .i64 2),(.nat .i64 2),(.nat .i64 0),(.sl k23 0 0 1 1)] 8 35 false 0 0 0) (tl (tl (tr
  (tl (tl (tl (tl (tl (.nd .lf (.row [(.sl k8343 0 0 3 3)] 1 52 false 0 0 0) .lf))))))))))) (tn (tn (.nd .lf (.row [(.nat .i64 2),(.nat .i64 1),(.nat .i64
  1),(.str []),(.nat .i64 0),(.nat .i64 0),(.nil 1),(.nat .i64 1),(.nat .i64 0),(.nat .i64 0),(.str []),(.nat .i64 0),(.nat .i64 0),(.nil 1)] 14 50 false 0 0 0)
  .lf) (tr (tl (tl (tl (tl (tl (tl (tl (.nd .lf (.row [(.nil 1)] 1 42 false 0 0 0) .lf)))))))))) (tn (tl (tr (tl (tl (tl (tl (tr (tl (.nd .lf (.row [(.nat .i64
  1),(.nat .i64 1),(.str [48]),(.nat .i64 1),(.nat .i64 2),(.nat .i64 2),(.str [48]),(.nat .i64 2),(.nat .i64 3),(.nat .i64 3),(.str [48]),(.nat .i64 2),(.nat
  .i64 4),(.nat .i64 4),(.str [48]),(.nat .i64 2)] 16 153 true 0 0 0) .lf))))))))) (tr (tr (tl (tr (tr (tr (tl (tr (.nd .lf (.row [(.str []),(.so k14159 16 0 4
  0),(.str [48]),(.so k14221 16 0 4 0),(.str []),(.so k14281 16 0 4 0)] 6 128 true 0 0 0) .lf)))))))))))) (.nd (tr (.nd (.nd (tl (tr (tl (tl (tl (tr (tl (.nd
  .lf (.row [(.nat .i64 1),(.nat .i64 1),(.str [48]),(.nat .i64 1),(.nat .i64 2),(.nat .i64 2),(.str [48]),(.nat .i64 2),(.nat .i64 3),(.nat .i64 3),(.str
  [48]),(.nat .i64 2),(.nat .i64 4),(.nat .i64 4),(.str [48]),(.nat .i64 2)] 16 153 true 0 0 0) .lf)))))))) (.row [(.nat .i64 2),(.nat .i64 1),(.nat .i64
  1),(.str []),(.nat .i64 0),(.nat .i64 0),(.nil 1),(.nat .i64 1),(.nat .i64 0),(.nat .i64 0),(.str []),(.nat .i64 0),(.nat .i64 0),(.nil 1)] 14 50 false 0 0 0)
  .lf) (.row [(.nat .i64 1),(.nat .i64 1),(.nat .i64 2),(.nat .i64 2),(.nat .i64 2),(.nat .i64 3),(.nat .i64 2),(.nat .i64 0)] 8 23 false 0 0 0) .lf)) (.row
  [(.nat .i64 2),(.nat .i64 2)] 2 23 false 0 0 0) (tr (.nd .lf (.row [(.nat .i64 2),(.nat .i64 2),(.nat .i64 2),(.nat .i64 2),(.nat .i64 1),(.nat .i64 1)] 6 23
  false 0 0 0) (tl (tn (tr (tl (tr (tr (tr (tr (.nd .lf (.row [(.nat .i64 1),(.nat .i64 0),(.str [48]),(.so k14204 6 0 3 0),(.nat .i64 1),(.nat .i64 0),(.str
  [48]),(.so k15966 4 0 2 0)] 8 82 true 0 0 0) .lf))))))) (tl (tl (tr (tr (tr (tr (.nd .lf (.row [(.str [48]),(.so k15922 16 0 4 0),(.str [48]),(.so k15983 16 0
  4 0)] 4 128 true 0 0 0) .lf))))))))))))) (tn (tn (tn (.nd .lf (.row [(.nat .i64 2),(.nat .i64 1),(.nat .i64 1),(.str []),(.nat .i64 0),(.nat .i64 0),(.nil
  1),(.nat .i64 1),(.nat .i64 0),(.nat .i64 0),(.str []),(.nat .i64 0),(.nat .i64 0),(.nil 1)] 14 50 false 0 0 0) (.nd .lf (.row [(.nat .i64 3),(.nat .i64
  2),(.nat .i64 3),(.sl k36 0 0 1 1),(.nat .i64 3),(.nat .i64 2),(.nat .i64 0),(.sl k42 0 0 1 1),(.nat .i64 1),(.nat .i64 2),(.nat .i64 2),(.sl k48 0 0 1 1)] 12
  35 false 0 0 0) (tl (tl (tl (tl (tl (tl (tl (.nd .lf (.row [(.nat .i64 0),(.nat .i64 1),(.sl k8240 0 0 2 2),(.nat .i64 1)] 4 29 false 0 0 0) .lf)))))))))) (tr
  (tr (tr (tl (tl (tl (tl (tr (tl (.nd .lf (.row [(.str []),(.so k10316 16 0 4 0),(.str [48]),(.so k10378 16 0 4 0),(.str []),(.so k10438 16 0 4 0)] 6 128 true
  0 0 0) .lf))))))))))) (tr (.nd (tl (tl (tr (tr (tr (tr (tl (tr (.nd .lf (.row [(.nat .i64 1),(.nat .i64 1),(.str [48]),(.nat .i64 1),(.nat .i64 2),(.nat .i64
  2),(.str [48]),(.nat .i64 2),(.nat .i64 3),(.nat .i64 3),(.str [48]),(.nat .i64 2),(.nat .i64 4),(.nat .i64 4),(.str [48]),(.nat .i64 2)] 16 153 true 0 0 0)
  .lf))))))))) (.row [(.nat .i64 0),(.nat .i64 1),(.sl k30 0 0 3 3),(.nat .i64 1)] 4 29 false 0 0 0) .lf))) (tn (tn (tr (.nd .lf (.row [(.nat .i64 1),(.nat .i64
  1),(.nat .i64 2),(.nat .i64 2),(.nat .i64 2),(.nat .i64 3),(.nat .i64 2),(.nat .i64 0)] 8 23 false 0 0 0) (tl (tl (tl (tl (tl (tl (tl (.nd .lf (.row [(.sl k51
  0 0 4 4),(.sl k49 0 0 3 3)] 2 27 false 0 0 0) .lf)))))))))) (.nd .lf (.row [(.sl k26 0 0 4 4),(.sl k24 0 0 2 2)] 2 27 false 0 0 0) (tl (tn (tr (tr (tr (tr (tr
  (tl (.nd .lf (.row [(.nat .i64 1),(.nat .i64 0),(.str [48]),(.so k10361 6 0 3 0),(.nat .i64 1),(.nat .i64 0),(.str [48]),(.so k12123 4 0 2 0)] 8 82 true 0 0
  0) .lf))))))) (tl (tr (tr (tr (tr (tl (.nd .lf (.row [(.str [48]),(.so k12079 16 0 4 0),(.str [48]),(.so k12140 16 0 4 0)] 4 128 true 0 0 0) .lf)))))))))))
  (tn (.nd .lf (.row [(.nat .i64 1),(.nat .i64 0),(.nat .i64 0),(.str []),(.nat .i64 0),(.nat .i64 0),(.nil 1),(.nat .i64 2),(.nat .i64 1),(.nat .i64 1),(.str
  []),(.nat .i64 0),(.nat .i64 0),(.nil 1)] 14 50 false 0 0 0) (tl (tl (tr (tl (tl (tl (tl (tl (.nd .lf (.row [(.so k12187 8 0 1 0),(.nil 1),(.nil 1)] 3 53
  false 0 0 0) .lf)))))))))) (tl (tl (tr (tl (tr (tr (tr (tl (tr (.nd .lf (.row [(.nat .i64 1),(.nat .i64 1),(.str [48]),(.nat .i64 1),(.nat .i64 2),(.nat .i64
  2),(.str [48]),(.nat .i64 2),(.nat .i64 3),(.nat .i64 3),(.str [48]),(.nat .i64 2),(.nat .i64 4),(.nat .i64 4),(.str [48]),(.nat .i64 2)] 16 153 true 0 0 0)
  .lf)))))))))))))), k16031⟩⟩
def hk4 : Hook := ⟨14, [(.ls 0 [(.sl k51 0 0 4 4),(.sl k49 0 0 3 3)]),(.ls 0 [(.nat .i64 1),(.nat .i64 2),(.nat .i64 2),(.sl k48 0 0 1 1)])], ⟨(tn (tn (tn (tn
  (tr (.nd .lf (.row [(.nat .i64 1),(.nat .i64 0),(.nat .i64 0),(.str []),(.nat .i64 0),(.nat .i64 0),(.nil 1),(.nat .i64 2),(.nat .i64 1),(.nat .i64 1),(.str
  []),(.nat .i64 0),(.nat .i64 0),(.nil 1)] 14 50 false 0 0 0) (tl (tl (tl (tl (tl (tl (tl (.nd .lf (.row [(.nat .i64 1),(.nat .i64 1),(.nat .i64 2),(.nat .i64
  2)] 4 23 false 0 0 0) .lf)))))))))) (.nd .lf (.row [(.nat .i64 3),(.nat .i64 2),(.nat .i64 3),(.sl k17 0 0 1 1),(.nat .i64 2),(.nat .i64 2),(.nat .i64 0),(.sl
  k23 0 0 1 1)] 8 35 false 0 0 0) (tl (tl (tr (tl (tl (tl (tl (tl (.nd .lf (.row [(.sl k8343 0 0 3 3)] 1 52 false 0 0 0) .lf))))))))))) (tn (tn (.nd .lf (.row
  [(.nat .i64 2),(.nat .i64 1),(.nat .i64 1),(.str []),(.nat .i64 0),(.nat .i64 0),(.nil 1),(.nat .i64 1),(.nat .i64 0),(.nat .i64 0),(.str []),(.nat .i64
  0),(.nat .i64 0),(.nil 1)] 14 50 false 0 0 0) .lf) (tr (tl (tl (tl (tl (tl (tl (tl (.nd .lf (.row [(.nil 1)] 1 42 false 0 0 0) .lf)))))))))) (tn (tl (tr (tl
  (tl (tl (tl (tr (tl (.nd .lf (.row [(.nat .i64 1),(.nat .i64 1),(.str [48]),(.nat .i64 1),(.nat .i64 2),(.nat .i64 2),(.str [48]),(.nat .i64 2),(.nat .i64
  3),(.nat .i64 3),(.str [48]),(.nat .i64 2),(.nat .i64 4),(.nat .i64 4),(.str [48]),(.nat .i64 2)] 16 153 true 0 0 0) .lf))))))))) (tr (tr (tl (tr (tr (tr (tl
  (tr (.nd .lf (.row [(.str []),(.so k14159 16 0 4 0),(.str [48]),(.so k14221 16 0 4 0),(.str []),(.so k14281 16 0 4 0)] 6 128 true 0 0 0) .lf)))))))))))) (.nd
  (tr (.nd (.nd (tl (tr (tl (tl (tl (tr (tl (.nd .lf (.row [(.nat .i64 1),(.nat .i64 1),(.str [48]),(.nat .i64 1),(.nat .i64 2),(.nat .i64 2),(.str [48]),(.nat
  .i64 2),(.nat .i64 3),(.nat .i64 3),(.str [48]),(.nat .i64 2),(.nat .i64 4),(.nat .i64 4),(.str [48]),(.nat .i64 2)] 16 153 true 0 0 0) .lf)))))))) (.row
  [(.nat .i64 2),(.nat .i64 1),(.nat .i64 1),(.str []),(.nat .i64 0),(.nat .i64 0),(.nil 1),(.nat .i64 1),(.nat .i64 0),(.nat .i64 0),(.str []),(.nat .i64
  0),(.nat .i64 0),(.nil 1)] 14 50 false 0 0 0) .lf) (.row [(.nat .i64 1),(.nat .i64 1),(.nat .i64 2),(.nat .i64 2),(.nat .i64 2),(.nat .i64 3),(.nat .i64
  2),(.nat .i64 0)] 8 23 false 0 0 0) .lf)) (.row [(.nat .i64 2),(.nat .i64 2)] 2 23 false 0 0 0) (tr (.nd .lf (.row [(.nat .i64 2),(.nat .i64 2),(.nat .i64
  2),(.nat .i64 2),(.nat .i64 1),(.nat .i64 1)] 6 23 false 0 0 0) (tl (tn (tr (tl (tr (tr (tr (tr (.nd .lf (.row [(.nat .i64 1),(.nat .i64 0),(.str [48]),(.so
  k14204 6 0 3 0),(.nat .i64 1),(.nat .i64 0),(.str [48]),(.so k15966 4 0 2 0)] 8 82 true 0 0 0) .lf))))))) (tl (tl (tr (tr (tr (tr (.nd .lf (.row [(.str
  [48]),(.so k15922 16 0 4 0),(.str [48]),(.so k15983 16 0 4 0)] 4 128 true 0 0 0) .lf))))))))))))) (tn (tn (tn (.nd .lf (.row [(.nat .i64 2),(.nat .i64
  1),(.nat .i64 1),(.str []),(.nat .i64 0),(.nat .i64 0),(.nil 1),(.nat .i64 1),(.nat .i64 0),(.nat .i64 0),(.str []),(.nat .i64 0),(.nat .i64 0),(.nil 1)] 14
  50 false 0 0 0) (.nd .lf (.row [(.nat .i64 3),(.nat .i64 2),(.nat .i64 3),(.sl k36 0 0 1 1),(.nat .i64 3),(.nat .i64 2),(.nat .i64 0),(.sl k42 0 0 1 1),(.nat
  .i64 1),(.nat .i64 2),(.nat .i64 2),(.sl k48 0 0 1 1)] 12 35 false 0 0 0) (tl (tl (tl (tl (tl (tl (tl (.nd .lf (.row [(.nat .i64 0),(.nat .i64 1),(.sl k8240 0
  0 2 2),(.nat .i64 1)] 4 29 false 0 0 0) .lf)))))))))) (tr (tr (tr (tl (tl (tl (tl (tr (tl (.nd .lf (.row [(.str []),(.so k10316 16 0 4 0),(.str [48]),(.so
  k10378 16 0 4 0),(.str []),(.so k10438 16 0 4 0)] 6 128 true 0 0 0) .lf))))))))))) (tr (.nd (tl (tl (tr (tr (tr (tr (tl (tr (.nd .lf (.row [(.nat .i64
  1),(.nat .i64 1),(.str [48]),(.nat .i64 1),(.nat .i64 2),(.nat .i64 2),(.str [48]),(.nat .i64 2),(.nat .i64 3),(.nat .i64 3),(.str [48]),(.nat .i64 2),(.nat
  .i64 4),(.nat .i64 4),(.str [48]),(.nat .i64 2)] 16 153 true 0 0 0) .lf))))))))) (.row [(.nat .i64 0),(.nat .i64 1),(.sl k30 0 0 3 3),(.nat .i64 1)] 4 29
  false 0 0 0) .lf))) (tn (tn (tr (.nd .lf (.row [(.nat .i64 1),(.nat .i64 1),(.nat .i64 2),(.nat .i64 2),(.nat .i64 2),(.nat .i64 3),(.nat .i64 2),(.nat .i64
  0)] 8 23 false 0 0 0) (tl (tl (tl (tl (tl (tl (tl (.nd .lf (.row [(.sl k51 0 0 4 4),(.sl k49 0 0 3 3)] 2 27 false 0 0 0) .lf)))))))))) (.nd .lf (.row [(.sl
  k26 0 0 4 4),(.sl k24 0 0 2 2)] 2 27 false 0 0 0) (tl (tn (tr (tr (tr (tr (tr (tl (.nd .lf (.row [(.nat .i64 1),(.nat .i64 0),(.str [48]),(.so k10361 6 0 3
  0),(.nat .i64 1),(.nat .i64 0),(.str [48]),(.so k12123 4 0 2 0)] 8 82 true 0 0 0) .lf))))))) (tl (tr (tr (tr (tr (tl (.nd .lf (.row [(.str [48]),(.so k12079
  16 0 4 0),(.str [48]),(.so k12140 16 0 4 0)] 4 128 true 0 0 0) .lf))))))))))) (tn (.nd .lf (.row [(.nat .i64 1),(.nat .i64 0),(.nat .i64 0),(.str []),(.nat
  .i64 0),(.nat .i64 0),(.nil 1),(.nat .i64 2),(.nat .i64 1),(.nat .i64 1),(.str []),(.nat .i64 0),(.nat .i64 0),(.nil 1)] 14 50 false 0 0 0) (tl (tl (tr (tl
  (tl (tl (tl (tl (.nd .lf (.row [(.so k12187 8 0 1 0),(.so k16030 8 0 1 0),(.nil 1)] 3 53 false 0 0 0) .lf)))))))))) (tl (tl (tr (tl (tr (tr (tr (tl (tr (.nd
  .lf (.row [(.nat .i64 1),(.nat .i64 1),(.str [48]),(.nat .i64 1),(.nat .i64 2),(.nat .i64 2),(.str [48]),(.nat .i64 2),(.nat .i64 3),(.nat .i64 3),(.str
  [48]),(.nat .i64 2),(.nat .i64 4),(.nat .i64 4),(.str [48]),(.nat .i64 2)] 16 153 true 0 0 0) .lf)))))))))))))), k16032⟩, (.ls 1 [(.so k19949 8 0 1 0),(.nat
  .i64 0)]), ⟨(tn (tn (tn (tn (tr (tr (tl (tl (tl (tl (tl (tl (tl (.nd .lf (.row [(.nat .i64 1),(.nat .i64 1),(.nat .i64 2),(.nat .i64 2)] 4 23 false 0 0 0)
  .lf)))))))))) (.nd .lf (.row [(.nat .i64 3),(.nat .i64 2),(.nat .i64 3),(.sl k17 0 0 1 1),(.nat .i64 2),(.nat .i64 2),(.nat .i64 0),(.sl k23 0 0 1 1)] 8 35
  false 0 0 0) (tl (tl (tr (tl (tl (tl (tl (tl (.nd .lf (.row [(.sl k8343 0 0 3 3)] 1 52 false 0 0 0) .lf))))))))))) (tn (tn (.nd .lf (.row [(.nat .i64 2),(.nat
  .i64 1),(.nat .i64 1),(.str []),(.nat .i64 0),(.nat .i64 0),(.nil 1),(.nat .i64 1),(.nat .i64 0),(.nat .i64 0),(.str []),(.nat .i64 0),(.nat .i64 0),(.nil 1)]
  14 50 false 0 0 0) .lf) (tr (tl (tl (tl (tl (tl (tl (tl (.nd .lf (.row [(.nil 1)] 1 42 false 0 0 0) .lf)))))))))) (tn (tl (tr (tl (tl (tl (tl (tr (tl (.nd .lf
  (.row [(.nat .i64 1),(.nat .i64 1),(.str [48]),(.nat .i64 1),(.nat .i64 2),(.nat .i64 2),(.str [48]),(.nat .i64 2),(.nat .i64 3),(.nat .i64 3),(.str
  [48]),(.nat .i64 2),(.nat .i64 4),(.nat .i64 4),(.str [48]),(.nat .i64 2)] 16 153 true 0 0 0) .lf))))))))) (tr (tr (tl (tr (tr (tr (tl (tr (.nd .lf (.row
  [(.str []),(.so k14159 16 0 4 0),(.str [48]),(.so k14221 16 0 4 0),(.str []),(.so k14281 16 0 4 0)] 6 128 true 0 0 0) .lf)))))))))))) (.nd (tr (.nd (.nd (tl
  (tr (tl (tl (tl (tr (tl (.nd .lf (.row [(.nat .i64 1),(.nat .i64 1),(.str [48]),(.nat .i64 1),(.nat .i64 2),(.nat .i64 2),(.str [48]),(.nat .i64 2),(.nat .i64
  3),(.nat .i64 3),(.str [48]),(.nat .i64 2),(.nat .i64 4),(.nat .i64 4),(.str [48]),(.nat .i64 2)] 16 153 true 0 0 0) .lf)))))))) (.row [(.nat .i64 2),(.nat
  .i64 1),(.nat .i64 1),(.str []),(.nat .i64 0),(.nat .i64 0),(.nil 1),(.nat .i64 1),(.nat .i64 0),(.nat .i64 0),(.str []),(.nat .i64 0),(.nat .i64 0),(.nil 1)]
  14 50 false 0 0 0) .lf) (.row [(.nat .i64 1),(.nat .i64 1),(.nat .i64 2),(.nat .i64 2),(.nat .i64 2),(.nat .i64 3),(.nat .i64 2),(.nat .i64 0)] 8 23 false 0 0
  0) .lf)) (.row [(.nat .i64 2),(.nat .i64 2)] 2 23 false 0 0 0) (tr (.nd .lf (.row [(.nat .i64 2),(.nat .i64 2),(.nat .i64 2),(.nat .i64 2),(.nat .i64 1),(.nat
  .i64 1)] 6 23 false 0 0 0) (tl (tn (tr (tl (tr (tr (tr (tr (.nd .lf (.row [(.nat .i64 1),(.nat .i64 0),(.str [48]),(.so k14204 6 0 3 0),(.nat .i64 1),(.nat
  .i64 0),(.str [48]),(.so k15966 4 0 2 0)] 8 82 true 0 0 0) .lf))))))) (tl (tl (tr (tr (tr (tr (.nd .lf (.row [(.str [48]),(.so k15922 16 0 4 0),(.str
  [48]),(.so k15983 16 0 4 0)] 4 128 true 0 0 0) .lf))))))))))))) (tn (tn (tn (.nd .lf (.row [(.nat .i64 2),(.nat .i64 1),(.nat .i64 1),(.str []),(.nat .i64
  0),(.nat .i64 0),(.nil 1),(.nat .i64 1),(.nat .i64 0),(.nat .i64 0),(.str []),(.nat .i64 0),(.nat .i64 0),(.nil 1)] 14 50 false 0 0 0) (.nd .lf (.row [(.nat
  .i64 3),(.nat .i64 2),(.nat .i64 3),(.sl k36 0 0 1 1),(.nat .i64 3),(.nat .i64 2),(.nat .i64 0),(.sl k42 0 0 1 1),(.nat .i64 1),(.nat .i64 2),(.nat .i64
  2),(.sl k48 0 0 1 1)] 12 35 false 0 0 0) (tl (tl (tl (tl (tl (tl (tl (.nd .lf (.row [(.nat .i64 0),(.nat .i64 1),(.sl k8240 0 0 2 2),(.nat .i64 1)] 4 29 false
  0 0 0) .lf)))))))))) (tr (tr (tr (tl (tl (tl (tl (tr (tl (.nd .lf (.row [(.str []),(.so k10316 16 0 4 0),(.str [48]),(.so k10378 16 0 4 0),(.str []),(.so
  k10438 16 0 4 0)] 6 128 true 0 0 0) .lf))))))))))) (tr (.nd (tl (tl (tr (tr (tr (tr (tl (tr (.nd .lf (.row [(.nat .i64 1),(.nat .i64 1),(.str [48]),(.nat .i64
  1),(.nat .i64 2),(.nat .i64 2),(.str [48]),(.nat .i64 2),(.nat .i64 3),(.nat .i64 3),(.str [48]),(.nat .i64 2),(.nat .i64 4),(.nat .i64 4),(.str [48]),(.nat
  .i64 2)] 16 153 true 0 0 0) .lf))))))))) (.row [(.nat .i64 0),(.nat .i64 1),(.sl k30 0 0 3 3),(.nat .i64 1)] 4 29 false 0 0 0) .lf))) (tn (tn (tr (.nd .lf
  (.row [(.nat .i64 1),(.nat .i64 1),(.nat .i64 2),(.nat .i64 2),(.nat .i64 2),(.nat .i64 3),(.nat .i64 2),(.nat .i64 0)] 8 23 false 0 0 0) (tl (tl (tl (tl (tl
  (tl (tl (.nd .lf (.row [(.sl k51 0 0 4 4),(.sl k49 0 0 3 3)] 2 27 false 0 0 0) .lf)))))))))) (.nd .lf (.row [(.sl k26 0 0 4 4),(.sl k24 0 0 2 2)] 2 27 false 0
  0 0) (tl (tn (tr (tr (tr (tr (tr (tl (.nd .lf (.row [(.nat .i64 1),(.nat .i64 0),(.str [48]),(.so k10361 6 0 3 0),(.nat .i64 1),(.nat .i64 0),(.str [48]),(.so
  k12123 4 0 2 0)] 8 82 true 0 0 0) .lf))))))) (tl (tr (tr (tr (tr (tl (.nd .lf (.row [(.str [48]),(.so k12079 16 0 4 0),(.str [48]),(.so k12140 16 0 4 0)] 4
  128 true 0 0 0) .lf))))))))))) (tn (.nd .lf (.row [(.nat .i64 1),(.nat .i64 0),(.nat .i64 0),(.str []),(.nat .i64 0),(.nat .i64 0),(.nil 1),(.nat .i64
  2),(.nat .i64 1),(.nat .i64 1),(.str []),(.nat .i64 0),(.nat .i64 0),(.nil 1)] 14 50 false 0 0 0) (tl (tl (tr (tl (tl (tl (tl (tl (.nd .lf (.row [(.so k12187
  8 0 1 0),(.so k16030 8 0 1 0),(.nil 1)] 3 53 false 0 0 0) .lf)))))))))) (tl (tl (tr (tl (tr (tr (tr (tl (tr (.nd .lf (.row [(.nat .i64 1),(.nat .i64 1),(.str
  [48]),(.nat .i64 1),(.nat .i64 2),(.nat .i64 2),(.str [48]),(.nat .i64 2),(.nat .i64 3),(.nat .i64 3),(.str [48]),(.nat .i64 2),(.nat .i64 4),(.nat .i64
  4),(.str [48]),(.nat .i64 2)] 16 153 true 0 0 0) .lf)))))))))))))), k19950⟩⟩
def hk5 : Hook := ⟨14, [(.ls 0 [(.sl k20255 0 0 4 4),(.sl k20253 0 0 2 2)]),(.ls 0 [(.nat .i64 2),(.nat .i64 2),(.nat .i64 3),(.sl k20246 0 0 1 1)])], ⟨(tn (tn
  (tn (tn (tr (tl (tl (tl (tr (tr (tr (tr (tl (tl (.nd .lf (.row [(.nat .i64 0),(.nat .i64 1),(.sl k20239 0 0 1 1),(.nat .i64 0)] 4 29 false 0 0 0)
  .lf))))))))))) (.nd .lf (.row [(.nat .i64 3),(.nat .i64 2),(.nat .i64 3),(.sl k17 0 0 1 1),(.nat .i64 2),(.nat .i64 2),(.nat .i64 0),(.sl k23 0 0 1 1)] 8 35
  false 0 0 0) .lf)) (tr (tr (tl (tl (tl (tr (tr (tr (tr (tl (tl (.nd .lf (.row [(.nat .i64 1),(.nat .i64 0),(.nat .i64 0),(.str []),(.nat .i64 0),(.nat .i64
  0),(.nil 1),(.nat .i64 1),(.nat .i64 0),(.nat .i64 0),(.str []),(.nat .i64 0),(.nat .i64 0),(.nil 1)] 14 50 false 0 0 0) .lf))))))))))))) (tn (tn (tl (tr (tl
  (tl (tr (tr (tr (tr (tl (tl (.nd .lf (.row [(.nil 1)] 1 42 false 0 0 0) .lf))))))))))) (.nd (tr (tr (tl (tr (tr (tr (tr (tl (tl (.nd .lf (.row [(.nil 1),(.nil
  1)] 2 53 false 0 0 0) .lf)))))))))) (.row [(.nat .i64 1),(.nat .i64 1),(.nat .i64 2),(.nat .i64 2),(.nat .i64 2),(.nat .i64 3),(.nat .i64 2),(.nat .i64 0)] 8
  23 false 0 0 0) .lf)) (tn (tr (tl (tl (tl (tr (tr (tr (tr (tl (tl (.nd .lf (.row [(.nat .i64 1),(.nat .i64 0),(.nat .i64 0),(.str []),(.nat .i64 0),(.nat .i64
  0),(.nil 1),(.nat .i64 1),(.nat .i64 0),(.nat .i64 0),(.str []),(.nat .i64 0),(.nat .i64 0),(.nil 1)] 14 50 false 0 0 0) .lf))))))))))) (.nd .lf (.row [(.nat
  .i64 2),(.nat .i64 2),(.nat .i64 2),(.nat .i64 2),(.nat .i64 1),(.nat .i64 1)] 6 23 false 0 0 0) .lf)))) (tn (tn (tl (.nd (tr (tl (tl (tr (tr (tr (tr (tl (tl
  (.nd .lf (.row [(.sl k20255 0 0 4 4),(.sl k20253 0 0 2 2)] 2 27 false 0 0 0) .lf)))))))))) (.row [(.nat .i64 2),(.nat .i64 1),(.nat .i64 1),(.str []),(.nat
  .i64 0),(.nat .i64 0),(.nil 1),(.nat .i64 1),(.nat .i64 0),(.nat .i64 0),(.str []),(.nat .i64 0),(.nat .i64 0),(.nil 1)] 14 50 false 0 0 0) .lf)) (tr (.nd .lf
  (.row [(.nat .i64 0),(.nat .i64 1),(.sl k30 0 0 3 3),(.nat .i64 1)] 4 29 false 0 0 0) (tl (tl (tl (tr (tr (tr (tr (tl (tl (.nd .lf (.row [(.nat .i64 2),(.nat
  .i64 2),(.nat .i64 3),(.sl k20246 0 0 1 1),(.nat .i64 2),(.nat .i64 2),(.nat .i64 2),(.sl k20252 0 0 1 1)] 8 35 false 0 0 0) .lf))))))))))))) (tn (tr (.nd (tr
  (tr (tl (tr (tr (tr (tr (tl (tl (.nd .lf (.row [(.sl k20330 0 0 2 2)] 1 52 false 0 0 0) .lf)))))))))) (.row [(.sl k26 0 0 4 4),(.sl k24 0 0 2 2)] 2 27 false 0
  0 0) .lf)) (tn (.nd .lf (.row [(.nat .i64 1),(.nat .i64 0),(.nat .i64 0),(.str []),(.nat .i64 0),(.nat .i64 0),(.nil 1),(.nat .i64 2),(.nat .i64 1),(.nat .i64
  1),(.str []),(.nat .i64 0),(.nat .i64 0),(.nil 1)] 14 50 false 0 0 0) .lf) (tn (tl (tl (tl (tr (tr (tr (tr (tl (tl (.nd .lf (.row [(.nat .i64 2),(.nat .i64
  2)] 2 23 false 0 0 0) .lf)))))))))) (tl (tl (tl (tr (tr (tr (tr (tl (tl (.nd .lf (.row [(.nat .i64 1),(.nat .i64 1),(.nat .i64 2),(.nat .i64 2),(.nat .i64
  2),(.nat .i64 3),(.nat .i64 2),(.nat .i64 0)] 8 23 false 0 0 0) .lf))))))))))))))), k20333⟩, (.ls 1 [(.so k23772 8 0 1 0),(.nat .i64 0)]), ⟨(tn (tn (tn (tn
  (tr (tl (tl (tl (tr (tr (tr (tr (tl (tl (.nd .lf (.row [(.nat .i64 0),(.nat .i64 1),(.sl k20239 0 0 1 1),(.nat .i64 0)] 4 29 false 0 0 0) .lf))))))))))) (.nd
  .lf (.row [(.nat .i64 3),(.nat .i64 2),(.nat .i64 3),(.sl k17 0 0 1 1),(.nat .i64 2),(.nat .i64 2),(.nat .i64 0),(.sl k23 0 0 1 1)] 8 35 false 0 0 0) .lf))
  (tr (tr (tl (tn (tn (tr (tr (tr (tr (tl (tl (.nd .lf (.row [(.nat .i64 1),(.nat .i64 0),(.nat .i64 0),(.str []),(.nat .i64 0),(.nat .i64 0),(.nil 1),(.nat
  .i64 1),(.nat .i64 0),(.nat .i64 0),(.str []),(.nat .i64 0),(.nat .i64 0),(.nil 1)] 14 50 false 0 0 0) .lf))))))) (tl (tl (tr (tr (tr (tl (.nd .lf (.row
  [(.str [48]),(.so k23664 16 0 4 0),(.str [48]),(.so k23725 16 0 4 0)] 4 128 true 0 0 0) .lf)))))))) (tr (tl (tl (tr (tr (tr (tl (.nd .lf (.row [(.nat .i64
  1),(.nat .i64 0),(.str [48]),(.so k22006 4 0 2 0),(.nat .i64 1),(.nat .i64 0),(.str [48]),(.so k23708 4 0 2 0)] 8 82 true 0 0 0) .lf))))))))))))) (tn (tn (tl
  (tr (tl (tl (tr (tr (tr (tr (tl (tl (.nd .lf (.row [(.nil 1)] 1 42 false 0 0 0) .lf))))))))))) (.nd (tn (tr (tr (tr (tl (tr (tl (tr (tl (.nd .lf (.row [(.nat
  .i64 1),(.nat .i64 1),(.str [48]),(.nat .i64 1),(.nat .i64 2),(.nat .i64 2),(.str [48]),(.nat .i64 1),(.nat .i64 3),(.nat .i64 3),(.str [48]),(.nat .i64
  1),(.nat .i64 4),(.nat .i64 4),(.str [48]),(.nat .i64 1)] 16 153 true 0 0 0) .lf))))))))) (tr (tl (tr (tr (tr (tr (tl (tl (.nd .lf (.row [(.nil 1),(.nil 1)] 2
  53 false 0 0 0) .lf)))))))))) (.row [(.nat .i64 1),(.nat .i64 1),(.nat .i64 2),(.nat .i64 2),(.nat .i64 2),(.nat .i64 3),(.nat .i64 2),(.nat .i64 0)] 8 23
  false 0 0 0) .lf)) (tn (tr (tn (tl (tl (tr (tr (tr (tr (tl (tl (.nd .lf (.row [(.nat .i64 1),(.nat .i64 0),(.nat .i64 0),(.str []),(.nat .i64 0),(.nat .i64
  0),(.nil 1),(.nat .i64 1),(.nat .i64 0),(.nat .i64 0),(.str []),(.nat .i64 0),(.nat .i64 0),(.nil 1)] 14 50 false 0 0 0) .lf))))))))) (tr (tr (tr (tl (tr (tl
  (tr (tl (.nd .lf (.row [(.str [48]),(.so k21962 16 0 4 0),(.str [48]),(.so k22023 16 0 4 0)] 4 128 true 0 0 0) .lf))))))))))) (.nd .lf (.row [(.nat .i64
  2),(.nat .i64 2),(.nat .i64 2),(.nat .i64 2),(.nat .i64 1),(.nat .i64 1)] 6 23 false 0 0 0) .lf)))) (tn (tn (tl (.nd (tr (tl (tl (tr (tr (tr (tr (tl (tl (.nd
  .lf (.row [(.sl k20255 0 0 4 4),(.sl k20253 0 0 2 2)] 2 27 false 0 0 0) .lf)))))))))) (.row [(.nat .i64 2),(.nat .i64 1),(.nat .i64 1),(.str []),(.nat .i64
  0),(.nat .i64 0),(.nil 1),(.nat .i64 1),(.nat .i64 0),(.nat .i64 0),(.str []),(.nat .i64 0),(.nat .i64 0),(.nil 1)] 14 50 false 0 0 0) .lf)) (tr (.nd .lf
  (.row [(.nat .i64 0),(.nat .i64 1),(.sl k30 0 0 3 3),(.nat .i64 1)] 4 29 false 0 0 0) (tl (tl (tl (tr (tr (tr (tr (tl (tl (.nd .lf (.row [(.nat .i64 2),(.nat
  .i64 2),(.nat .i64 3),(.sl k20246 0 0 1 1),(.nat .i64 2),(.nat .i64 2),(.nat .i64 2),(.sl k20252 0 0 1 1)] 8 35 false 0 0 0) .lf))))))))))))) (tn (tr (.nd (tr
  (tr (tl (tr (tr (tr (tr (tl (tl (.nd .lf (.row [(.sl k20330 0 0 2 2)] 1 52 false 0 0 0) .lf)))))))))) (.row [(.sl k26 0 0 4 4),(.sl k24 0 0 2 2)] 2 27 false 0
  0 0) .lf)) (tn (.nd .lf (.row [(.nat .i64 1),(.nat .i64 0),(.nat .i64 0),(.str []),(.nat .i64 0),(.nat .i64 0),(.nil 1),(.nat .i64 2),(.nat .i64 1),(.nat .i64
  1),(.str []),(.nat .i64 0),(.nat .i64 0),(.nil 1)] 14 50 false 0 0 0) .lf) (tn (tl (tl (tl (tr (tr (tr (tr (tl (tl (.nd .lf (.row [(.nat .i64 2),(.nat .i64
  2)] 2 23 false 0 0 0) .lf)))))))))) (tl (tl (tl (tr (tr (tr (tr (tl (tl (.nd .lf (.row [(.nat .i64 1),(.nat .i64 1),(.nat .i64 2),(.nat .i64 2),(.nat .i64
  2),(.nat .i64 3),(.nat .i64 2),(.nat .i64 0)] 8 23 false 0 0 0) .lf))))))))))))))), k23773⟩⟩
def hk6 : Hook := ⟨14, [(.ls 0 [(.sl k20255 0 0 4 4),(.sl k20253 0 0 2 2)]),(.ls 0 [(.nat .i64 2),(.nat .i64 2),(.nat .i64 2),(.sl k20252 0 0 1 1)])], ⟨(tn (tn
  (tn (tn (tr (tl (tl (tl (tr (tr (tr (tr (tl (tl (.nd .lf (.row [(.nat .i64 0),(.nat .i64 1),(.sl k20239 0 0 1 1),(.nat .i64 0)] 4 29 false 0 0 0)
  .lf))))))))))) (.nd .lf (.row [(.nat .i64 3),(.nat .i64 2),(.nat .i64 3),(.sl k17 0 0 1 1),(.nat .i64 2),(.nat .i64 2),(.nat .i64 0),(.sl k23 0 0 1 1)] 8 35
  false 0 0 0) .lf)) (tr (tr (tl (tn (tn (tr (tr (tr (tr (tl (tl (.nd .lf (.row [(.nat .i64 1),(.nat .i64 0),(.nat .i64 0),(.str []),(.nat .i64 0),(.nat .i64
  0),(.nil 1),(.nat .i64 1),(.nat .i64 0),(.nat .i64 0),(.str []),(.nat .i64 0),(.nat .i64 0),(.nil 1)] 14 50 false 0 0 0) .lf))))))) (tl (tl (tr (tr (tr (tl
  (.nd .lf (.row [(.str [48]),(.so k23664 16 0 4 0),(.str [48]),(.so k23725 16 0 4 0)] 4 128 true 0 0 0) .lf)))))))) (tr (tl (tl (tr (tr (tr (tl (.nd .lf (.row
  [(.nat .i64 1),(.nat .i64 0),(.str [48]),(.so k22006 4 0 2 0),(.nat .i64 1),(.nat .i64 0),(.str [48]),(.so k23708 4 0 2 0)] 8 82 true 0 0 0) .lf)))))))))))))
  (tn (tn (tl (tr (tl (tl (tr (tr (tr (tr (tl (tl (.nd .lf (.row [(.nil 1)] 1 42 false 0 0 0) .lf))))))))))) (.nd (tn (tr (tr (tr (tl (tr (tl (tr (tl (.nd .lf
  (.row [(.nat .i64 1),(.nat .i64 1),(.str [48]),(.nat .i64 1),(.nat .i64 2),(.nat .i64 2),(.str [48]),(.nat .i64 1),(.nat .i64 3),(.nat .i64 3),(.str
  [48]),(.nat .i64 1),(.nat .i64 4),(.nat .i64 4),(.str [48]),(.nat .i64 1)] 16 153 true 0 0 0) .lf))))))))) (tr (tl (tr (tr (tr (tr (tl (tl (.nd .lf (.row
  [(.so k23772 8 0 1 0),(.nil 1)] 2 53 false 0 0 0) .lf)))))))))) (.row [(.nat .i64 1),(.nat .i64 1),(.nat .i64 2),(.nat .i64 2),(.nat .i64 2),(.nat .i64
  3),(.nat .i64 2),(.nat .i64 0)] 8 23 false 0 0 0) .lf)) (tn (tr (tn (tl (tl (tr (tr (tr (tr (tl (tl (.nd .lf (.row [(.nat .i64 1),(.nat .i64 0),(.nat .i64
  0),(.str []),(.nat .i64 0),(.nat .i64 0),(.nil 1),(.nat .i64 1),(.nat .i64 0),(.nat .i64 0),(.str []),(.nat .i64 0),(.nat .i64 0),(.nil 1)] 14 50 false 0 0 0)
  .lf))))))))) (tr (tr (tr (tl (tr (tl (tr (tl (.nd .lf (.row [(.str [48]),(.so k21962 16 0 4 0),(.str [48]),(.so k22023 16 0 4 0)] 4 128 true 0 0 0)
  .lf))))))))))) (.nd .lf (.row [(.nat .i64 2),(.nat .i64 2),(.nat .i64 2),(.nat .i64 2),(.nat .i64 1),(.nat .i64 1)] 6 23 false 0 0 0) .lf)))) (tn (tn (tl (.nd
  (tr (tl (tl (tr (tr (tr (tr (tl (tl (.nd .lf (.row [(.sl k20255 0 0 4 4),(.sl k20253 0 0 2 2)] 2 27 false 0 0 0) .lf)))))))))) (.row [(.nat .i64 2),(.nat .i64
  1),(.nat .i64 1),(.str []),(.nat .i64 0),(.nat .i64 0),(.nil 1),(.nat .i64 1),(.nat .i64 0),(.nat .i64 0),(.str []),(.nat .i64 0),(.nat .i64 0),(.nil 1)] 14
  50 false 0 0 0) .lf)) (tr (.nd .lf (.row [(.nat .i64 0),(.nat .i64 1),(.sl k30 0 0 3 3),(.nat .i64 1)] 4 29 false 0 0 0) (tl (tl (tl (tr (tr (tr (tr (tl (tl
  (.nd .lf (.row [(.nat .i64 2),(.nat .i64 2),(.nat .i64 3),(.sl k20246 0 0 1 1),(.nat .i64 2),(.nat .i64 2),(.nat .i64 2),(.sl k20252 0 0 1 1)] 8 35 false 0 0
  0) .lf))))))))))))) (tn (tr (.nd (tr (tr (tl (tr (tr (tr (tr (tl (tl (.nd .lf (.row [(.sl k20330 0 0 2 2)] 1 52 false 0 0 0) .lf)))))))))) (.row [(.sl k26 0 0
  4 4),(.sl k24 0 0 2 2)] 2 27 false 0 0 0) .lf)) (tn (.nd .lf (.row [(.nat .i64 1),(.nat .i64 0),(.nat .i64 0),(.str []),(.nat .i64 0),(.nat .i64 0),(.nil
  1),(.nat .i64 2),(.nat .i64 1),(.nat .i64 1),(.str []),(.nat .i64 0),(.nat .i64 0),(.nil 1)] 14 50 false 0 0 0) .lf) (tn (tl (tl (tl (tr (tr (tr (tr (tl (tl
  (.nd .lf (.row [(.nat .i64 2),(.nat .i64 2)] 2 23 false 0 0 0) .lf)))))))))) (tl (tl (tl (tr (tr (tr (tr (tl (tl (.nd .lf (.row [(.nat .i64 1),(.nat .i64
  1),(.nat .i64 2),(.nat .i64 2),(.nat .i64 2),(.nat .i64 3),(.nat .i64 2),(.nat .i64 0)] 8 23 false 0 0 0) .lf))))))))))))))), k23774⟩, (.ls 1 [(.so k27213 8 0
  1 0),(.nat .i64 0)]), ⟨(tn (tn (tn (tn (tr (tl (tl (tl (tr (tr (tr (tr (tl (tl (.nd .lf (.row [(.nat .i64 0),(.nat .i64 1),(.sl k20239 0 0 1 1),(.nat .i64 0)]
  4 29 false 0 0 0) .lf))))))))))) (.nd .lf (.row [(.nat .i64 3),(.nat .i64 2),(.nat .i64 3),(.sl k17 0 0 1 1),(.nat .i64 2),(.nat .i64 2),(.nat .i64 0),(.sl
  k23 0 0 1 1)] 8 35 false 0 0 0) .lf)) (tr (tr (tl (tn (tn (tr (tr (tr (tr (tl (tl (.nd .lf (.row [(.nat .i64 1),(.nat .i64 0),(.nat .i64 0),(.str []),(.nat
  .i64 0),(.nat .i64 0),(.nil 1),(.nat .i64 1),(.nat .i64 0),(.nat .i64 0),(.str []),(.nat .i64 0),(.nat .i64 0),(.nil 1)] 14 50 false 0 0 0) .lf))))))) (tl (tl
  (tr (tr (tr (tl (.nd .lf (.row [(.str [48]),(.so k23664 16 0 4 0),(.str [48]),(.so k23725 16 0 4 0)] 4 128 true 0 0 0) .lf)))))))) (tr (tl (tl (tr (tr (tr (tl
  (.nd .lf (.row [(.nat .i64 1),(.nat .i64 0),(.str [48]),(.so k22006 4 0 2 0),(.nat .i64 1),(.nat .i64 0),(.str [48]),(.so k23708 4 0 2 0)] 8 82 true 0 0 0)
  .lf))))))))))))) (tn (tn (tl (tr (tl (tl (tr (tr (tr (tr (tl (tl (.nd .lf (.row [(.nil 1)] 1 42 false 0 0 0) .lf))))))))))) (.nd (tn (tr (tr (tr (tl (tr (tl
  (tr (tl (.nd .lf (.row [(.nat .i64 1),(.nat .i64 1),(.str [48]),(.nat .i64 1),(.nat .i64 2),(.nat .i64 2),(.str [48]),(.nat .i64 1),(.nat .i64 3),(.nat .i64
  3),(.str [48]),(.nat .i64 1),(.nat .i64 4),(.nat .i64 4),(.str [48]),(.nat .i64 1)] 16 153 true 0 0 0) .lf))))))))) (tr (tl (tr (tr (tr (tr (tl (tl (.nd .lf
  (.row [(.so k23772 8 0 1 0),(.nil 1)] 2 53 false 0 0 0) .lf)))))))))) (.row [(.nat .i64 1),(.nat .i64 1),(.nat .i64 2),(.nat .i64 2),(.nat .i64 2),(.nat .i64
  3),(.nat .i64 2),(.nat .i64 0)] 8 23 false 0 0 0) .lf)) (tn (tr (tn (tl (tl (tr (tr (tr (tr (tl (tl (.nd .lf (.row [(.nat .i64 1),(.nat .i64 0),(.nat .i64
  0),(.str []),(.nat .i64 0),(.nat .i64 0),(.nil 1),(.nat .i64 1),(.nat .i64 0),(.nat .i64 0),(.str []),(.nat .i64 0),(.nat .i64 0),(.nil 1)] 14 50 false 0 0 0)
  .lf))))))))) (tr (tr (tr (tl (tr (tl (tr (tl (.nd .lf (.row [(.str [48]),(.so k21962 16 0 4 0),(.str [48]),(.so k22023 16 0 4 0)] 4 128 true 0 0 0)
  .lf))))))))))) (.nd .lf (.row [(.nat .i64 2),(.nat .i64 2),(.nat .i64 2),(.nat .i64 2),(.nat .i64 1),(.nat .i64 1)] 6 23 false 0 0 0) .lf)))) (tn (tn (tl (.nd
  (tr (tl (tl (tr (tr (tr (tr (tl (tl (.nd .lf (.row [(.sl k20255 0 0 4 4),(.sl k20253 0 0 2 2)] 2 27 false 0 0 0) .lf)))))))))) (.row [(.nat .i64 2),(.nat .i64
  1),(.nat .i64 1),(.str []),(.nat .i64 0),(.nat .i64 0),(.nil 1),(.nat .i64 1),(.nat .i64 0),(.nat .i64 0),(.str []),(.nat .i64 0),(.nat .i64 0),(.nil 1)] 14
  50 false 0 0 0) .lf)) (tr (.nd (tl (tn (tl (tl (tr (tl (tr (tl (tr (.nd .lf (.row [(.str [48]),(.so k27105 16 0 4 0),(.str [48]),(.so k27166 16 0 4 0)] 4 128
  true 0 0 0) .lf)))))))) (tl (tl (tr (tl (tr (tl (tr (.nd .lf (.row [(.nat .i64 1),(.nat .i64 0),(.str [48]),(.so k25447 4 0 2 0),(.nat .i64 1),(.nat .i64
  0),(.str [48]),(.so k27149 4 0 2 0)] 8 82 true 0 0 0) .lf)))))))))) (.row [(.nat .i64 0),(.nat .i64 1),(.sl k30 0 0 3 3),(.nat .i64 1)] 4 29 false 0 0 0) (tl
  (tl (tl (tr (tr (tr (tr (tl (tl (.nd .lf (.row [(.nat .i64 2),(.nat .i64 2),(.nat .i64 3),(.sl k20246 0 0 1 1),(.nat .i64 2),(.nat .i64 2),(.nat .i64 2),(.sl
  k20252 0 0 1 1)] 8 35 false 0 0 0) .lf))))))))))))) (tn (tr (.nd (tr (tr (tl (tr (tr (tr (tr (tl (tl (.nd .lf (.row [(.sl k20330 0 0 2 2)] 1 52 false 0 0 0)
  .lf)))))))))) (.row [(.sl k26 0 0 4 4),(.sl k24 0 0 2 2)] 2 27 false 0 0 0) (tr (tl (tl (tr (tr (tl (tl (tl (tr (.nd .lf (.row [(.nat .i64 1),(.nat .i64
  1),(.str [48]),(.nat .i64 1),(.nat .i64 2),(.nat .i64 2),(.str [48]),(.nat .i64 1),(.nat .i64 3),(.nat .i64 3),(.str [48]),(.nat .i64 1),(.nat .i64 4),(.nat
  .i64 4),(.str [48]),(.nat .i64 1)] 16 153 true 0 0 0) .lf)))))))))))) (tn (.nd (tr (tr (tl (tr (tr (tl (tl (tl (tr (.nd .lf (.row [(.str [48]),(.so k25403 16
  0 4 0),(.str [48]),(.so k25464 16 0 4 0)] 4 128 true 0 0 0) .lf)))))))))) (.row [(.nat .i64 1),(.nat .i64 0),(.nat .i64 0),(.str []),(.nat .i64 0),(.nat .i64
  0),(.nil 1),(.nat .i64 2),(.nat .i64 1),(.nat .i64 1),(.str []),(.nat .i64 0),(.nat .i64 0),(.nil 1)] 14 50 false 0 0 0) .lf) (tn (tl (tl (tl (tr (tr (tr (tr
  (tl (tl (.nd .lf (.row [(.nat .i64 2),(.nat .i64 2)] 2 23 false 0 0 0) .lf)))))))))) (tl (tl (tl (tr (tr (tr (tr (tl (tl (.nd .lf (.row [(.nat .i64 1),(.nat
  .i64 1),(.nat .i64 2),(.nat .i64 2),(.nat .i64 2),(.nat .i64 3),(.nat .i64 2),(.nat .i64 0)] 8 23 false 0 0 0) .lf))))))))))))))), k27214⟩⟩
def hk7 : Hook := ⟨14, [(.ls 0 [(.sl k27381 0 0 4 4),(.sl k27379 0 0 2 2)]),(.ls 0 [(.nat .i64 1),(.nat .i64 2),(.nat .i64 3),(.sl k27372 0 0 1 1)])], ⟨(tn (tn
  (tn (tn (tl (tl (tr (tl (tr (tr (tl (tr (tl (tr (.nd .lf (.row [(.nil 1),(.nil 1)] 2 53 false 0 0 0) .lf))))))))))) (.nd .lf (.row [(.nat .i64 3),(.nat .i64
  2),(.nat .i64 3),(.sl k17 0 0 1 1),(.nat .i64 2),(.nat .i64 2),(.nat .i64 0),(.sl k23 0 0 1 1)] 8 35 false 0 0 0) (tr (tr (tr (tl (tr (tl (tr (tl (tr (.nd .lf
  (.row [(.nil 1)] 1 42 false 0 0 0) .lf)))))))))))) (tr (tl (tr (tr (tr (tl (tr (tl (tr (tl (tr (.nd .lf (.row [(.nat .i64 4),(.nat .i64 0),(.nat .i64 0),(.str
  []),(.nat .i64 0),(.nat .i64 0),(.nil 1),(.nat .i64 1),(.nat .i64 0),(.nat .i64 0),(.str []),(.nat .i64 0),(.nat .i64 0),(.nil 1)] 14 50 false 0 0 0)
  .lf))))))))))))) (tn (tn (tr (tr (tr (tr (tl (tr (tl (tr (tl (tr (.nd .lf (.row [(.nat .i64 2),(.nat .i64 1),(.nat .i64 1),(.str []),(.nat .i64 0),(.nat .i64
  0),(.nil 1),(.nat .i64 1),(.nat .i64 0),(.nat .i64 0),(.str []),(.nat .i64 0),(.nat .i64 0),(.nil 1)] 14 50 false 0 0 0) .lf))))))))))) (.nd .lf (.row [(.nat
  .i64 1),(.nat .i64 1),(.nat .i64 2),(.nat .i64 2),(.nat .i64 2),(.nat .i64 3),(.nat .i64 2),(.nat .i64 0)] 8 23 false 0 0 0) .lf)) (tr (.nd .lf (.row [(.nat
  .i64 2),(.nat .i64 2),(.nat .i64 2),(.nat .i64 2),(.nat .i64 1),(.nat .i64 1)] 6 23 false 0 0 0) .lf)))) (tn (tn (tl (.nd (tl (tr (tl (tr (tr (tl (tr (tl (tr
  (.nd .lf (.row [(.sl k27456 0 0 2 2)] 1 52 false 0 0 0) .lf)))))))))) (.row [(.nat .i64 2),(.nat .i64 1),(.nat .i64 1),(.str []),(.nat .i64 0),(.nat .i64
  0),(.nil 1),(.nat .i64 1),(.nat .i64 0),(.nat .i64 0),(.str []),(.nat .i64 0),(.nat .i64 0),(.nil 1)] 14 50 false 0 0 0) .lf)) (tn (tr (tr (tr (tr (tl (tr (tl
  (tr (tl (tr (.nd .lf (.row [(.nat .i64 1),(.nat .i64 1),(.nat .i64 2),(.nat .i64 2),(.nat .i64 2),(.nat .i64 3),(.nat .i64 2),(.nat .i64 0)] 8 23 false 0 0 0)
  .lf))))))))))) (.nd .lf (.row [(.nat .i64 0),(.nat .i64 1),(.sl k30 0 0 3 3),(.nat .i64 1)] 4 29 false 0 0 0) .lf))) (tn (tn (tr (tr (tr (tr (tl (tr (tl (tr
  (tl (tr (.nd .lf (.row [(.nat .i64 1),(.nat .i64 2),(.nat .i64 3),(.sl k27372 0 0 1 1),(.nat .i64 1),(.nat .i64 2),(.nat .i64 3),(.sl k27378 0 0 1 1)] 8 35
  false 0 0 0) .lf))))))))))) (.nd .lf (.row [(.sl k26 0 0 4 4),(.sl k24 0 0 2 2)] 2 27 false 0 0 0) .lf)) (tl (.nd .lf (.row [(.nat .i64 1),(.nat .i64 0),(.nat
  .i64 0),(.str []),(.nat .i64 0),(.nat .i64 0),(.nil 1),(.nat .i64 2),(.nat .i64 1),(.nat .i64 1),(.str []),(.nat .i64 0),(.nat .i64 0),(.nil 1)] 14 50 false 0
  0 0) (tr (tr (tr (tl (tr (tl (tr (tl (tr (.nd .lf (.row [(.sl k27381 0 0 4 4),(.sl k27379 0 0 2 2)] 2 27 false 0 0 0) .lf))))))))))))))), k27459⟩, (.ls 1
  [(.so k30874 8 0 1 0),(.nat .i64 0)]), ⟨(tn (tn (tn (tn (tl (tl (tr (tl (tr (tr (tl (tr (tl (tr (.nd .lf (.row [(.nil 1),(.nil 1)] 2 53 false 0 0 0)
  .lf))))))))))) (.nd (tl (tl (tr (tr (tl (tl (tl (tr (tr (.nd .lf (.row [(.nat .i64 1),(.nat .i64 1),(.str [48]),(.nat .i64 1),(.nat .i64 2),(.nat .i64
  2),(.str [48]),(.nat .i64 1),(.nat .i64 3),(.nat .i64 3),(.str [48]),(.nat .i64 1),(.nat .i64 4),(.nat .i64 4),(.str [48]),(.nat .i64 1)] 16 153 true 0 0 0)
  .lf)))))))))) (.row [(.nat .i64 3),(.nat .i64 2),(.nat .i64 3),(.sl k17 0 0 1 1),(.nat .i64 2),(.nat .i64 2),(.nat .i64 0),(.sl k23 0 0 1 1)] 8 35 false 0 0
  0) (tr (tr (tr (tl (tr (tl (tr (tl (tr (.nd .lf (.row [(.nil 1)] 1 42 false 0 0 0) .lf)))))))))))) (tl (tr (tr (tl (tr (tr (tl (tl (tl (tr (tr (.nd .lf (.row
  [(.str []),(.so k29064 16 0 4 0),(.str []),(.so k29125 16 0 4 0)] 4 128 true 0 0 0) .lf))))))))))))) (tn (tn (tr (tr (tr (tr (tl (tr (tl (tr (tl (tr (.nd .lf
  (.row [(.nat .i64 2),(.nat .i64 1),(.nat .i64 1),(.str []),(.nat .i64 0),(.nat .i64 0),(.nil 1),(.nat .i64 1),(.nat .i64 0),(.nat .i64 0),(.str []),(.nat .i64
  0),(.nat .i64 0),(.nil 1)] 14 50 false 0 0 0) .lf))))))))))) (.nd .lf (.row [(.nat .i64 1),(.nat .i64 1),(.nat .i64 2),(.nat .i64 2),(.nat .i64 2),(.nat .i64
  3),(.nat .i64 2),(.nat .i64 0)] 8 23 false 0 0 0) (tl (tl (tr (tl (tl (tl (tr (tr (tr (.nd .lf (.row [(.nat .i64 1),(.nat .i64 0),(.str [48]),(.so k29108 4 0
  2 0),(.nat .i64 1),(.nat .i64 0),(.str [48]),(.so k30810 4 0 2 0)] 8 82 true 0 0 0) .lf)))))))))))) (tr (.nd .lf (.row [(.nat .i64 2),(.nat .i64 2),(.nat .i64
  2),(.nat .i64 2),(.nat .i64 1),(.nat .i64 1)] 6 23 false 0 0 0) .lf)))) (tn (tn (tl (.nd (tl (tr (tl (tr (tr (tl (tr (tl (tr (.nd .lf (.row [(.sl k27456 0 0 2
  2)] 1 52 false 0 0 0) .lf)))))))))) (.row [(.nat .i64 2),(.nat .i64 1),(.nat .i64 1),(.str []),(.nat .i64 0),(.nat .i64 0),(.nil 1),(.nat .i64 1),(.nat .i64
  0),(.nat .i64 0),(.str []),(.nat .i64 0),(.nat .i64 0),(.nil 1)] 14 50 false 0 0 0) .lf)) (tn (tn (tl (tr (tr (tr (tl (tl (tl (tr (tr (.nd .lf (.row [(.nat
  .i64 1),(.nat .i64 1),(.str [48]),(.nat .i64 1),(.nat .i64 2),(.nat .i64 2),(.str [48]),(.nat .i64 1),(.nat .i64 3),(.nat .i64 3),(.str [48]),(.nat .i64
  1),(.nat .i64 4),(.nat .i64 4),(.str [48]),(.nat .i64 1)] 16 153 true 0 0 0) .lf)))))))))) (tr (tr (tr (tl (tr (tl (tr (tl (tr (.nd .lf (.row [(.nat .i64
  1),(.nat .i64 1),(.nat .i64 2),(.nat .i64 2),(.nat .i64 2),(.nat .i64 3),(.nat .i64 2),(.nat .i64 0)] 8 23 false 0 0 0) .lf))))))))))) (.nd .lf (.row [(.nat
  .i64 0),(.nat .i64 1),(.sl k30 0 0 3 3),(.nat .i64 1)] 4 29 false 0 0 0) .lf))) (tn (tn (tr (tr (tr (tr (tl (tr (tl (tr (tl (tr (.nd .lf (.row [(.nat .i64
  1),(.nat .i64 2),(.nat .i64 3),(.sl k27372 0 0 1 1),(.nat .i64 1),(.nat .i64 2),(.nat .i64 3),(.sl k27378 0 0 1 1)] 8 35 false 0 0 0) .lf))))))))))) (.nd .lf
  (.row [(.sl k26 0 0 4 4),(.sl k24 0 0 2 2)] 2 27 false 0 0 0) .lf)) (tl (.nd .lf (.row [(.nat .i64 1),(.nat .i64 0),(.nat .i64 0),(.str []),(.nat .i64
  0),(.nat .i64 0),(.nil 1),(.nat .i64 2),(.nat .i64 1),(.nat .i64 1),(.str []),(.nat .i64 0),(.nat .i64 0),(.nil 1)] 14 50 false 0 0 0) (tr (tr (tr (tl (tr (tl
  (tr (tl (tr (.nd .lf (.row [(.sl k27381 0 0 4 4),(.sl k27379 0 0 2 2)] 2 27 false 0 0 0) .lf))))))))))))))), k30875⟩⟩
def hk8 : Hook := ⟨14, [(.ls 0 [(.sl k27381 0 0 4 4),(.sl k27379 0 0 2 2)]),(.ls 0 [(.nat .i64 1),(.nat .i64 2),(.nat .i64 3),(.sl k27378 0 0 1 1)])], ⟨(tn (tn
  (tn (tn (tl (tl (tr (tl (tr (tr (tl (tr (tl (tr (.nd .lf (.row [(.so k30874 8 0 1 0),(.nil 1)] 2 53 false 0 0 0) .lf))))))))))) (.nd (tl (tl (tr (tr (tl (tl
  (tl (tr (tr (.nd .lf (.row [(.nat .i64 1),(.nat .i64 1),(.str [48]),(.nat .i64 1),(.nat .i64 2),(.nat .i64 2),(.str [48]),(.nat .i64 1),(.nat .i64 3),(.nat
  .i64 3),(.str [48]),(.nat .i64 1),(.nat .i64 4),(.nat .i64 4),(.str [48]),(.nat .i64 1)] 16 153 true 0 0 0) .lf)))))))))) (.row [(.nat .i64 3),(.nat .i64
  2),(.nat .i64 3),(.sl k17 0 0 1 1),(.nat .i64 2),(.nat .i64 2),(.nat .i64 0),(.sl k23 0 0 1 1)] 8 35 false 0 0 0) (tr (tr (tr (tl (tr (tl (tr (tl (tr (.nd .lf
  (.row [(.nil 1)] 1 42 false 0 0 0) .lf)))))))))))) (tl (tr (tr (tl (tr (tr (tl (tl (tl (tr (tr (.nd .lf (.row [(.str []),(.so k29064 16 0 4 0),(.str []),(.so
  k29125 16 0 4 0)] 4 128 true 0 0 0) .lf))))))))))))) (tn (tn (tr (tr (tr (tr (tl (tr (tl (tr (tl (tr (.nd .lf (.row [(.nat .i64 2),(.nat .i64 1),(.nat .i64
  1),(.str []),(.nat .i64 0),(.nat .i64 0),(.nil 1),(.nat .i64 1),(.nat .i64 0),(.nat .i64 0),(.str []),(.nat .i64 0),(.nat .i64 0),(.nil 1)] 14 50 false 0 0 0)
  .lf))))))))))) (.nd .lf (.row [(.nat .i64 1),(.nat .i64 1),(.nat .i64 2),(.nat .i64 2),(.nat .i64 2),(.nat .i64 3),(.nat .i64 2),(.nat .i64 0)] 8 23 false 0 0
  0) (tl (tl (tr (tl (tl (tl (tr (tr (tr (.nd .lf (.row [(.nat .i64 1),(.nat .i64 0),(.str [48]),(.so k29108 4 0 2 0),(.nat .i64 1),(.nat .i64 0),(.str
  [48]),(.so k30810 4 0 2 0)] 8 82 true 0 0 0) .lf)))))))))))) (tr (.nd .lf (.row [(.nat .i64 2),(.nat .i64 2),(.nat .i64 2),(.nat .i64 2),(.nat .i64 1),(.nat
  .i64 1)] 6 23 false 0 0 0) .lf)))) (tn (tn (tl (.nd (tl (tr (tl (tr (tr (tl (tr (tl (tr (.nd .lf (.row [(.sl k27456 0 0 2 2)] 1 52 false 0 0 0) .lf))))))))))
  (.row [(.nat .i64 2),(.nat .i64 1),(.nat .i64 1),(.str []),(.nat .i64 0),(.nat .i64 0),(.nil 1),(.nat .i64 1),(.nat .i64 0),(.nat .i64 0),(.str []),(.nat .i64
  0),(.nat .i64 0),(.nil 1)] 14 50 false 0 0 0) .lf)) (tn (tn (tl (tr (tr (tr (tl (tl (tl (tr (tr (.nd .lf (.row [(.nat .i64 1),(.nat .i64 1),(.str [48]),(.nat
  .i64 1),(.nat .i64 2),(.nat .i64 2),(.str [48]),(.nat .i64 1),(.nat .i64 3),(.nat .i64 3),(.str [48]),(.nat .i64 1),(.nat .i64 4),(.nat .i64 4),(.str
  [48]),(.nat .i64 1)] 16 153 true 0 0 0) .lf)))))))))) (tr (tr (tr (tl (tr (tl (tr (tl (tr (.nd .lf (.row [(.nat .i64 1),(.nat .i64 1),(.nat .i64 2),(.nat .i64
  2),(.nat .i64 2),(.nat .i64 3),(.nat .i64 2),(.nat .i64 0)] 8 23 false 0 0 0) .lf))))))))))) (.nd .lf (.row [(.nat .i64 0),(.nat .i64 1),(.sl k30 0 0 3
  3),(.nat .i64 1)] 4 29 false 0 0 0) .lf))) (tn (tn (tr (tr (tr (tr (tl (tr (tl (tr (tl (tr (.nd .lf (.row [(.nat .i64 1),(.nat .i64 2),(.nat .i64 3),(.sl
  k27372 0 0 1 1),(.nat .i64 1),(.nat .i64 2),(.nat .i64 3),(.sl k27378 0 0 1 1)] 8 35 false 0 0 0) .lf))))))))))) (.nd .lf (.row [(.sl k26 0 0 4 4),(.sl k24 0
  0 2 2)] 2 27 false 0 0 0) .lf)) (tl (.nd .lf (.row [(.nat .i64 1),(.nat .i64 0),(.nat .i64 0),(.str []),(.nat .i64 0),(.nat .i64 0),(.nil 1),(.nat .i64
  2),(.nat .i64 1),(.nat .i64 1),(.str []),(.nat .i64 0),(.nat .i64 0),(.nil 1)] 14 50 false 0 0 0) (tr (tr (tr (tl (tr (tl (tr (tl (tr (.nd .lf (.row [(.sl
  k27381 0 0 4 4),(.sl k27379 0 0 2 2)] 2 27 false 0 0 0) .lf))))))))))))))), k30876⟩, (.ls 1 [(.so k34717 8 0 1 0),(.nat .i64 0)]), ⟨(tn (tn (tn (tn (tl (tl
  (tr (tl (tr (tr (tl (tr (tl (tr (.nd .lf (.row [(.so k30874 8 0 1 0),(.nil 1)] 2 53 false 0 0 0) .lf))))))))))) (.nd (tl (tn (tr (tr (tl (tl (tl (tr (tr (.nd
  .lf (.row [(.nat .i64 1),(.nat .i64 1),(.str [48]),(.nat .i64 1),(.nat .i64 2),(.nat .i64 2),(.str [48]),(.nat .i64 1),(.nat .i64 3),(.nat .i64 3),(.str
  [48]),(.nat .i64 1),(.nat .i64 4),(.nat .i64 4),(.str [48]),(.nat .i64 1)] 16 153 true 0 0 0) .lf)))))))) (tr (tl (tl (tl (tl (tl (tl (tl (.nd .lf (.row
  [(.nat .i64 1),(.nat .i64 1),(.str [48]),(.nat .i64 1),(.nat .i64 2),(.nat .i64 2),(.str [48]),(.nat .i64 2),(.nat .i64 3),(.nat .i64 3),(.str [48]),(.nat
  .i64 2),(.nat .i64 4),(.nat .i64 4),(.str [48]),(.nat .i64 2)] 16 153 true 0 0 0) .lf))))))))))) (.row [(.nat .i64 3),(.nat .i64 2),(.nat .i64 3),(.sl k17 0 0
  1 1),(.nat .i64 2),(.nat .i64 2),(.nat .i64 0),(.sl k23 0 0 1 1)] 8 35 false 0 0 0) (tr (tr (tr (tl (tr (tl (tr (tl (tr (.nd .lf (.row [(.nil 1)] 1 42 false 0
  0 0) .lf)))))))))))) (tn (tr (tr (tl (tr (tr (tl (tl (tl (tr (tr (.nd .lf (.row [(.str []),(.so k29064 16 0 4 0),(.str []),(.so k29125 16 0 4 0)] 4 128 true 0
  0 0) .lf))))))))))) (tl (tl (tl (tr (tl (tl (tl (tl (tl (tl (tl (.nd .lf (.row [(.nat .i64 1),(.nat .i64 1),(.str [48]),(.nat .i64 1),(.nat .i64 2),(.nat .i64
  2),(.str [48]),(.nat .i64 2),(.nat .i64 3),(.nat .i64 3),(.str [48]),(.nat .i64 2),(.nat .i64 4),(.nat .i64 4),(.str [48]),(.nat .i64 2)] 16 153 true 0 0 0)
  .lf)))))))))))))) (tn (tr (.nd .lf (.row [(.nat .i64 1),(.nat .i64 1),(.nat .i64 2),(.nat .i64 2),(.nat .i64 2),(.nat .i64 3),(.nat .i64 2),(.nat .i64 0)] 8
  23 false 0 0 0) (tl (tl (tr (tl (tl (tl (tr (tr (tr (.nd .lf (.row [(.nat .i64 1),(.nat .i64 0),(.str [48]),(.so k29108 4 0 2 0),(.nat .i64 1),(.nat .i64
  0),(.str [48]),(.so k30810 4 0 2 0)] 8 82 true 0 0 0) .lf)))))))))))) (tr (.nd (tl (tr (tl (tl (tl (tl (tl (tl (tl (tl (.nd .lf (.row [(.nat .i64 1),(.nat
  .i64 1),(.str [48]),(.nat .i64 1),(.nat .i64 2),(.nat .i64 2),(.str [48]),(.nat .i64 2),(.nat .i64 3),(.nat .i64 3),(.str [48]),(.nat .i64 2),(.nat .i64
  4),(.nat .i64 4),(.str [48]),(.nat .i64 2)] 16 153 true 0 0 0) .lf))))))))))) (.row [(.nat .i64 2),(.nat .i64 2),(.nat .i64 2),(.nat .i64 2),(.nat .i64
  1),(.nat .i64 1)] 6 23 false 0 0 0) .lf)))) (tn (tn (tl (.nd (tl (tr (tl (tr (tr (tl (tr (tl (tr (.nd .lf (.row [(.sl k27456 0 0 2 2)] 1 52 false 0 0 0)
  .lf)))))))))) (.row [(.nat .i64 2),(.nat .i64 1),(.nat .i64 1),(.str []),(.nat .i64 0),(.nat .i64 0),(.nil 1),(.nat .i64 1),(.nat .i64 0),(.nat .i64 0),(.str
  []),(.nat .i64 0),(.nat .i64 0),(.nil 1)] 14 50 false 0 0 0) .lf)) (tn (tn (tl (tr (tr (tr (tl (tl (tl (tr (tr (.nd .lf (.row [(.nat .i64 1),(.nat .i64
  1),(.str [48]),(.nat .i64 1),(.nat .i64 2),(.nat .i64 2),(.str [48]),(.nat .i64 1),(.nat .i64 3),(.nat .i64 3),(.str [48]),(.nat .i64 1),(.nat .i64 4),(.nat
  .i64 4),(.str [48]),(.nat .i64 1)] 16 153 true 0 0 0) .lf)))))))))) (tr (tr (tr (tl (tr (tl (tr (tl (tr (.nd .lf (.row [(.nat .i64 1),(.nat .i64 1),(.nat .i64
  2),(.nat .i64 2),(.nat .i64 2),(.nat .i64 3),(.nat .i64 2),(.nat .i64 0)] 8 23 false 0 0 0) .lf))))))))))) (.nd .lf (.row [(.nat .i64 0),(.nat .i64 1),(.sl
  k30 0 0 3 3),(.nat .i64 1)] 4 29 false 0 0 0) (tl (tn (tr (tr (tr (tr (tl (tl (tl (tl (.nd .lf (.row [(.nat .i64 1),(.nat .i64 0),(.str [48]),(.so k32891 6 0
  3 0),(.nat .i64 1),(.nat .i64 0),(.str [48]),(.so k34653 4 0 2 0)] 8 82 true 0 0 0) .lf))))))))) (tl (tr (tr (tr (tl (tl (tl (tl (.nd .lf (.row [(.str
  [48]),(.so k34609 16 0 4 0),(.str [48]),(.so k34670 16 0 4 0)] 4 128 true 0 0 0) .lf)))))))))))))) (tn (tn (tr (tr (tr (tr (tl (tr (tl (tr (tl (tr (.nd .lf
  (.row [(.nat .i64 1),(.nat .i64 2),(.nat .i64 3),(.sl k27372 0 0 1 1),(.nat .i64 1),(.nat .i64 2),(.nat .i64 3),(.sl k27378 0 0 1 1)] 8 35 false 0 0 0)
  .lf))))))))))) (.nd .lf (.row [(.sl k26 0 0 4 4),(.sl k24 0 0 2 2)] 2 27 false 0 0 0) (tr (tr (tl (tl (tl (tl (tl (tl (tl (tl (.nd .lf (.row [(.str []),(.so
  k32846 16 0 4 0),(.str [48]),(.so k32908 16 0 4 0),(.str []),(.so k32968 16 0 4 0)] 6 128 true 0 0 0) .lf))))))))))))) (tl (.nd .lf (.row [(.nat .i64 1),(.nat
  .i64 0),(.nat .i64 0),(.str []),(.nat .i64 0),(.nat .i64 0),(.nil 1),(.nat .i64 2),(.nat .i64 1),(.nat .i64 1),(.str []),(.nat .i64 0),(.nat .i64 0),(.nil 1)]
  14 50 false 0 0 0) (tr (tr (tr (tl (tr (tl (tr (tl (tr (.nd .lf (.row [(.sl k27381 0 0 4 4),(.sl k27379 0 0 2 2)] 2 27 false 0 0 0) .lf))))))))))))))),
  k34718⟩⟩
def hk9 : Hook := ⟨14, [(.ls 0 [(.sl k35618 0 0 4 4),(.sl k35616 0 0 2 2)]),(.ls 0 [(.nat .i64 3),(.nat .i64 2),(.nat .i64 3),(.sl k35609 0 0 1 1)])], ⟨(tn (tn
  (tn (tn (tl (tr (tl (tl (tr (tr (tl (tr (tl (tl (tl (.nd .lf (.row [(.nat .i64 3),(.nat .i64 2),(.nat .i64 3),(.sl k35609 0 0 1 1),(.nat .i64 2),(.nat .i64
  2),(.nat .i64 0),(.sl k35615 0 0 1 1)] 8 35 false 0 0 0) .lf)))))))))))) (tl (tr (tl (tl (tr (tr (tl (tr (tl (tl (tl (.nd .lf (.row [(.sl k35618 0 0 4 4),(.sl
  k35616 0 0 2 2)] 2 27 false 0 0 0) .lf))))))))))))) (tl (tl (tr (tl (tl (tr (tr (tl (tr (tl (tl (tl (.nd .lf (.row [(.nat .i64 0),(.nat .i64 1),(.sl k35603 0
  0 3 3),(.nat .i64 1)] 4 29 false 0 0 0) .lf)))))))))))))) (tn (tl (tn (tr (tl (tl (tr (tr (tl (tr (tl (tl (tl (.nd .lf (.row [(.nat .i64 1),(.nat .i64
  1),(.nat .i64 2),(.nat .i64 2),(.nat .i64 2),(.nat .i64 3),(.nat .i64 2),(.nat .i64 0)] 8 23 false 0 0 0) .lf))))))))))) (tr (tr (tl (tr (tr (tl (tr (tl (tl
  (tl (.nd .lf (.row [(.sl k35697 0 0 2 2)] 1 52 false 0 0 0) .lf))))))))))))) (tl (tl (tr (tl (tl (tr (tr (tl (tr (tl (tl (tl (.nd .lf (.row [(.nat .i64
  0),(.nat .i64 1),(.sl k35603 0 0 3 3),(.nat .i64 1)] 4 29 false 0 0 0) .lf))))))))))))))) (tn (tn (tn (tr (tr (tr (tl (tr (tr (tl (tr (tl (tl (tl (.nd .lf
  (.row [(.nil 1),(.nil 1)] 2 53 false 0 0 0) .lf)))))))))))) (tn (tr (tl (tl (tr (tr (tl (tr (tl (tl (tl (.nd .lf (.row [(.nil 1)] 1 42 false 0 0 0)
  .lf))))))))))) (tl (tl (tl (tr (tr (tl (tr (tl (tl (tl (.nd .lf (.row [(.nat .i64 2),(.nat .i64 1),(.nat .i64 1),(.str []),(.nat .i64 0),(.nat .i64 0),(.nil
  1),(.nat .i64 1),(.nat .i64 0),(.nat .i64 0),(.str []),(.nat .i64 0),(.nat .i64 0),(.nil 1)] 14 50 false 0 0 0) .lf))))))))))))) (tl (tl (tr (tl (tl (tr (tr
  (tl (tr (tl (tl (tl (.nd .lf (.row [(.nat .i64 0),(.nat .i64 1),(.sl k35603 0 0 3 3),(.nat .i64 0)] 4 29 false 0 0 0) .lf)))))))))))))) (tn (tl (tn (tr (tl
  (tl (tr (tr (tl (tr (tl (tl (tl (.nd .lf (.row [(.sl k35618 0 0 4 4),(.sl k35616 0 0 2 2)] 2 27 false 0 0 0) .lf))))))))))) (tl (tl (tl (tr (tr (tl (tr (tl
  (tl (tl (.nd .lf (.row [(.nat .i64 1),(.nat .i64 1),(.nat .i64 2),(.nat .i64 2),(.nat .i64 1),(.nat .i64 1)] 6 23 false 0 0 0) .lf))))))))))))) (tr (tr (tl
  (tl (tl (tr (tr (tl (tr (tl (tl (tl (.nd .lf (.row [(.nat .i64 1),(.nat .i64 0),(.nat .i64 0),(.str []),(.nat .i64 0),(.nat .i64 0),(.nil 1),(.nat .i64
  2),(.nat .i64 1),(.nat .i64 1),(.str []),(.nat .i64 0),(.nat .i64 0),(.nil 1)] 14 50 false 0 0 0) .lf)))))))))))))))), k35700⟩, (.ls 1 [(.so k39541 8 0 1
  0),(.nat .i64 0)]), ⟨(tn (tn (tn (tn (tl (tr (tl (tn (tr (tr (tl (tr (tl (tl (tl (.nd .lf (.row [(.nat .i64 3),(.nat .i64 2),(.nat .i64 3),(.sl k35609 0 0 1
  1),(.nat .i64 2),(.nat .i64 2),(.nat .i64 0),(.sl k35615 0 0 1 1)] 8 35 false 0 0 0) .lf)))))))) (tr (tr (tl (tl (tr (tl (tl (.nd .lf (.row [(.nat .i64
  1),(.nat .i64 1),(.str [48]),(.nat .i64 1),(.nat .i64 2),(.nat .i64 2),(.str [48]),(.nat .i64 2),(.nat .i64 3),(.nat .i64 3),(.str [48]),(.nat .i64 2),(.nat
  .i64 4),(.nat .i64 4),(.str [48]),(.nat .i64 2)] 16 153 true 0 0 0) .lf)))))))))))) (tl (tr (tl (tl (tr (tr (tl (tr (tl (tl (tl (.nd .lf (.row [(.sl k35618 0
  0 4 4),(.sl k35616 0 0 2 2)] 2 27 false 0 0 0) .lf))))))))))))) (tl (tl (tr (tn (tl (tr (tr (tl (tr (tl (tl (tl (.nd .lf (.row [(.nat .i64 0),(.nat .i64
  1),(.sl k35603 0 0 3 3),(.nat .i64 1)] 4 29 false 0 0 0) .lf))))))))) (tl (tr (tr (tl (tl (tr (tl (tl (.nd .lf (.row [(.nat .i64 1),(.nat .i64 1),(.str
  [48]),(.nat .i64 1),(.nat .i64 2),(.nat .i64 2),(.str [48]),(.nat .i64 2),(.nat .i64 3),(.nat .i64 3),(.str [48]),(.nat .i64 2),(.nat .i64 4),(.nat .i64
  4),(.str [48]),(.nat .i64 2)] 16 153 true 0 0 0) .lf)))))))))))))) (tn (tl (tn (tr (tl (tl (tr (tr (tl (tr (tl (tl (tl (.nd .lf (.row [(.nat .i64 1),(.nat
  .i64 1),(.nat .i64 2),(.nat .i64 2),(.nat .i64 2),(.nat .i64 3),(.nat .i64 2),(.nat .i64 0)] 8 23 false 0 0 0) .lf))))))))))) (tr (tr (tl (tr (tr (tl (tr (tl
  (tl (tl (.nd .lf (.row [(.sl k35697 0 0 2 2)] 1 52 false 0 0 0) .lf))))))))))))) (tl (tl (tr (tl (tl (tr (tr (tl (tn (tr (tl (tl (.nd .lf (.row [(.nat .i64
  1),(.nat .i64 1),(.str [48]),(.nat .i64 1),(.nat .i64 2),(.nat .i64 2),(.str [48]),(.nat .i64 2),(.nat .i64 3),(.nat .i64 3),(.str [48]),(.nat .i64 2),(.nat
  .i64 4),(.nat .i64 4),(.str [48]),(.nat .i64 2)] 16 153 true 0 0 0) .lf)))) (tl (tl (tl (.nd .lf (.row [(.nat .i64 0),(.nat .i64 1),(.sl k35603 0 0 3 3),(.nat
  .i64 1)] 4 29 false 0 0 0) .lf))))))))))))))) (tn (tn (tn (tr (tr (tr (tl (tr (tr (tl (tr (tl (tl (tl (.nd .lf (.row [(.nil 1),(.nil 1)] 2 53 false 0 0 0)
  .lf)))))))))))) (tn (tn (tl (tl (tl (tr (tl (tr (tr (tl (tl (.nd .lf (.row [(.nat .i64 1),(.nat .i64 1),(.str [48]),(.nat .i64 1),(.nat .i64 2),(.nat .i64
  2),(.str [48]),(.nat .i64 1),(.nat .i64 3),(.nat .i64 3),(.str [48]),(.nat .i64 1),(.nat .i64 4),(.nat .i64 4),(.str [48]),(.nat .i64 1)] 16 153 true 0 0 0)
  .lf)))))))))) (tl (tl (tr (tr (tl (tr (tl (tl (tl (.nd .lf (.row [(.nil 1)] 1 42 false 0 0 0) .lf))))))))))) (tl (tl (tl (tr (tr (tl (tr (tl (tl (tl (.nd .lf
  (.row [(.nat .i64 2),(.nat .i64 1),(.nat .i64 1),(.str []),(.nat .i64 0),(.nat .i64 0),(.nil 1),(.nat .i64 1),(.nat .i64 0),(.nat .i64 0),(.str []),(.nat .i64
  0),(.nat .i64 0),(.nil 1)] 14 50 false 0 0 0) .lf))))))))))))) (tl (tn (tr (tl (tl (tr (tr (tl (tr (tl (tl (tl (.nd .lf (.row [(.nat .i64 0),(.nat .i64
  1),(.sl k35603 0 0 3 3),(.nat .i64 0)] 4 29 false 0 0 0) .lf))))))))))) (tr (tn (tl (tl (tr (tl (tr (tr (tl (tl (.nd .lf (.row [(.str [48]),(.so k39433 16 0 4
  0),(.str [48]),(.so k39494 16 0 4 0)] 4 128 true 0 0 0) .lf))))))))) (tl (tl (tr (tl (tr (tr (tl (tl (.nd .lf (.row [(.nat .i64 1),(.nat .i64 0),(.str
  [48]),(.so k37715 6 0 3 0),(.nat .i64 1),(.nat .i64 0),(.str [48]),(.so k39477 4 0 2 0)] 8 82 true 0 0 0) .lf)))))))))))))) (tn (tl (tn (tr (tl (tl (tr (tr
  (tl (tr (tl (tl (tl (.nd .lf (.row [(.sl k35618 0 0 4 4),(.sl k35616 0 0 2 2)] 2 27 false 0 0 0) .lf))))))))))) (tl (tn (tl (tr (tr (tl (tr (tl (tl (tl (.nd
  .lf (.row [(.nat .i64 1),(.nat .i64 1),(.nat .i64 2),(.nat .i64 2),(.nat .i64 1),(.nat .i64 1)] 6 23 false 0 0 0) .lf))))))))) (tl (tr (tr (tl (tl (tr (tl (tl
  (.nd .lf (.row [(.str []),(.so k37670 16 0 4 0),(.str [48]),(.so k37732 16 0 4 0),(.str []),(.so k37792 16 0 4 0)] 6 128 true 0 0 0) .lf))))))))))))) (tr (tr
  (tl (tl (tl (tr (tr (tl (tr (tl (tl (tl (.nd .lf (.row [(.nat .i64 1),(.nat .i64 0),(.nat .i64 0),(.str []),(.nat .i64 0),(.nat .i64 0),(.nil 1),(.nat .i64
  2),(.nat .i64 1),(.nat .i64 1),(.str []),(.nat .i64 0),(.nat .i64 0),(.nil 1)] 14 50 false 0 0 0) .lf)))))))))))))))), k39542⟩⟩
def hk10 : Hook := ⟨14, [(.ls 0 [(.sl k35618 0 0 4 4),(.sl k35616 0 0 2 2)]),(.ls 0 [(.nat .i64 2),(.nat .i64 2),(.nat .i64 0),(.sl k35615 0 0 1 1)])], ⟨(tn (tn
  (tn (tn (tl (tr (tl (tn (tr (tr (tl (tr (tl (tl (tl (.nd .lf (.row [(.nat .i64 3),(.nat .i64 2),(.nat .i64 3),(.sl k35609 0 0 1 1),(.nat .i64 2),(.nat .i64
  2),(.nat .i64 0),(.sl k35615 0 0 1 1)] 8 35 false 0 0 0) .lf)))))))) (tr (tr (tl (tl (tr (tl (tl (.nd .lf (.row [(.nat .i64 1),(.nat .i64 1),(.str [48]),(.nat
  .i64 1),(.nat .i64 2),(.nat .i64 2),(.str [48]),(.nat .i64 2),(.nat .i64 3),(.nat .i64 3),(.str [48]),(.nat .i64 2),(.nat .i64 4),(.nat .i64 4),(.str
  [48]),(.nat .i64 2)] 16 153 true 0 0 0) .lf)))))))))))) (tl (tr (tl (tl (tr (tr (tl (tr (tl (tl (tl (.nd .lf (.row [(.sl k35618 0 0 4 4),(.sl k35616 0 0 2 2)]
  2 27 false 0 0 0) .lf))))))))))))) (tl (tl (tr (tn (tl (tr (tr (tl (tr (tl (tl (tl (.nd .lf (.row [(.nat .i64 0),(.nat .i64 1),(.sl k35603 0 0 3 3),(.nat .i64
  1)] 4 29 false 0 0 0) .lf))))))))) (tl (tr (tr (tl (tl (tr (tl (tl (.nd .lf (.row [(.nat .i64 1),(.nat .i64 1),(.str [48]),(.nat .i64 1),(.nat .i64 2),(.nat
  .i64 2),(.str [48]),(.nat .i64 2),(.nat .i64 3),(.nat .i64 3),(.str [48]),(.nat .i64 2),(.nat .i64 4),(.nat .i64 4),(.str [48]),(.nat .i64 2)] 16 153 true 0 0
  0) .lf)))))))))))))) (tn (tl (tn (tr (tl (tl (tr (tr (tl (tr (tl (tl (tl (.nd .lf (.row [(.nat .i64 1),(.nat .i64 1),(.nat .i64 2),(.nat .i64 2),(.nat .i64
  2),(.nat .i64 3),(.nat .i64 2),(.nat .i64 0)] 8 23 false 0 0 0) .lf))))))))))) (tr (tr (tl (tr (tr (tl (tr (tl (tl (tl (.nd .lf (.row [(.sl k35697 0 0 2 2)] 1
  52 false 0 0 0) .lf))))))))))))) (tl (tl (tr (tl (tl (tr (tr (tl (tn (tr (tl (tl (.nd .lf (.row [(.nat .i64 1),(.nat .i64 1),(.str [48]),(.nat .i64 1),(.nat
  .i64 2),(.nat .i64 2),(.str [48]),(.nat .i64 2),(.nat .i64 3),(.nat .i64 3),(.str [48]),(.nat .i64 2),(.nat .i64 4),(.nat .i64 4),(.str [48]),(.nat .i64 2)]
  16 153 true 0 0 0) .lf)))) (tl (tl (tl (.nd .lf (.row [(.nat .i64 0),(.nat .i64 1),(.sl k35603 0 0 3 3),(.nat .i64 1)] 4 29 false 0 0 0) .lf)))))))))))))))
  (tn (tn (tn (tr (tr (tr (tl (tr (tr (tl (tr (tl (tl (tl (.nd .lf (.row [(.so k39541 8 0 1 0),(.nil 1)] 2 53 false 0 0 0) .lf)))))))))))) (tn (tn (tl (tl (tl
  (tr (tl (tr (tr (tl (tl (.nd .lf (.row [(.nat .i64 1),(.nat .i64 1),(.str [48]),(.nat .i64 1),(.nat .i64 2),(.nat .i64 2),(.str [48]),(.nat .i64 1),(.nat .i64
  3),(.nat .i64 3),(.str [48]),(.nat .i64 1),(.nat .i64 4),(.nat .i64 4),(.str [48]),(.nat .i64 1)] 16 153 true 0 0 0) .lf)))))))))) (tl (tl (tr (tr (tl (tr (tl
  (tl (tl (.nd .lf (.row [(.nil 1)] 1 42 false 0 0 0) .lf))))))))))) (tl (tl (tl (tr (tr (tl (tr (tl (tl (tl (.nd .lf (.row [(.nat .i64 2),(.nat .i64 1),(.nat
  .i64 1),(.str []),(.nat .i64 0),(.nat .i64 0),(.nil 1),(.nat .i64 1),(.nat .i64 0),(.nat .i64 0),(.str []),(.nat .i64 0),(.nat .i64 0),(.nil 1)] 14 50 false 0
  0 0) .lf))))))))))))) (tl (tn (tr (tl (tl (tr (tr (tl (tr (tl (tl (tl (.nd .lf (.row [(.nat .i64 0),(.nat .i64 1),(.sl k35603 0 0 3 3),(.nat .i64 0)] 4 29
  false 0 0 0) .lf))))))))))) (tr (tn (tl (tl (tr (tl (tr (tr (tl (tl (.nd .lf (.row [(.str [48]),(.so k39433 16 0 4 0),(.str [48]),(.so k39494 16 0 4 0)] 4 128
  true 0 0 0) .lf))))))))) (tl (tl (tr (tl (tr (tr (tl (tl (.nd .lf (.row [(.nat .i64 1),(.nat .i64 0),(.str [48]),(.so k37715 6 0 3 0),(.nat .i64 1),(.nat .i64
  0),(.str [48]),(.so k39477 4 0 2 0)] 8 82 true 0 0 0) .lf)))))))))))))) (tn (tl (tn (tr (tl (tl (tr (tr (tl (tr (tl (tl (tl (.nd .lf (.row [(.sl k35618 0 0 4
  4),(.sl k35616 0 0 2 2)] 2 27 false 0 0 0) .lf))))))))))) (tl (tn (tl (tr (tr (tl (tr (tl (tl (tl (.nd .lf (.row [(.nat .i64 1),(.nat .i64 1),(.nat .i64
  2),(.nat .i64 2),(.nat .i64 1),(.nat .i64 1)] 6 23 false 0 0 0) .lf))))))))) (tl (tr (tr (tl (tl (tr (tl (tl (.nd .lf (.row [(.str []),(.so k37670 16 0 4
  0),(.str [48]),(.so k37732 16 0 4 0),(.str []),(.so k37792 16 0 4 0)] 6 128 true 0 0 0) .lf))))))))))))) (tr (tr (tl (tl (tl (tr (tr (tl (tr (tl (tl (tl (.nd
  .lf (.row [(.nat .i64 1),(.nat .i64 0),(.nat .i64 0),(.str []),(.nat .i64 0),(.nat .i64 0),(.nil 1),(.nat .i64 2),(.nat .i64 1),(.nat .i64 1),(.str []),(.nat
  .i64 0),(.nat .i64 0),(.nil 1)] 14 50 false 0 0 0) .lf)))))))))))))))), k39543⟩, (.ls 1 [(.so k43460 8 0 1 0),(.nat .i64 0)]), ⟨(tn (tn (tn (tn (tl (tr (tl
  (tn (tr (tr (tl (tr (tl (tl (tl (.nd .lf (.row [(.nat .i64 3),(.nat .i64 2),(.nat .i64 3),(.sl k35609 0 0 1 1),(.nat .i64 2),(.nat .i64 2),(.nat .i64 0),(.sl
  k35615 0 0 1 1)] 8 35 false 0 0 0) .lf)))))))) (tr (tr (tl (tl (tr (tl (tl (.nd .lf (.row [(.nat .i64 1),(.nat .i64 1),(.str [48]),(.nat .i64 1),(.nat .i64
  2),(.nat .i64 2),(.str [48]),(.nat .i64 2),(.nat .i64 3),(.nat .i64 3),(.str [48]),(.nat .i64 2),(.nat .i64 4),(.nat .i64 4),(.str [48]),(.nat .i64 2)] 16 153
  true 0 0 0) .lf)))))))))))) (tl (tr (tl (tl (tr (tr (tl (tr (tl (tl (tl (.nd .lf (.row [(.sl k35618 0 0 4 4),(.sl k35616 0 0 2 2)] 2 27 false 0 0 0)
  .lf))))))))))))) (tl (tl (tn (tr (tr (tr (tl (tl (tr (tl (tr (tl (.nd .lf (.row [(.nat .i64 1),(.nat .i64 0),(.str [48]),(.so k41217 4 0 2 0),(.nat .i64
  1),(.nat .i64 0),(.str [48]),(.so k43275 8 0 4 0)] 8 82 true 0 0 0) .lf)))))))))) (tn (tl (tr (tr (tl (tr (tl (tl (tl (.nd .lf (.row [(.nat .i64 0),(.nat .i64
  1),(.sl k35603 0 0 3 3),(.nat .i64 1)] 4 29 false 0 0 0) .lf))))))))) (tl (tr (tr (tl (tl (tr (tl (tl (.nd .lf (.row [(.nat .i64 1),(.nat .i64 1),(.str
  [48]),(.nat .i64 1),(.nat .i64 2),(.nat .i64 2),(.str [48]),(.nat .i64 2),(.nat .i64 3),(.nat .i64 3),(.str [48]),(.nat .i64 2),(.nat .i64 4),(.nat .i64
  4),(.str [48]),(.nat .i64 2)] 16 153 true 0 0 0) .lf)))))))))))))) (tn (tl (tn (tr (tl (tl (tr (tr (tl (tr (tl (tl (tl (.nd .lf (.row [(.nat .i64 1),(.nat
  .i64 1),(.nat .i64 2),(.nat .i64 2),(.nat .i64 2),(.nat .i64 3),(.nat .i64 2),(.nat .i64 0)] 8 23 false 0 0 0) .lf))))))))))) (tn (tl (tl (tr (tl (tl (tl (tl
  (tr (tl (.nd .lf (.row [(.nat .i64 1),(.nat .i64 1),(.str [48]),(.nat .i64 1),(.nat .i64 2),(.nat .i64 2),(.str [48]),(.nat .i64 1),(.nat .i64 3),(.nat .i64
  3),(.str [48]),(.nat .i64 1),(.nat .i64 4),(.nat .i64 4),(.str [48]),(.nat .i64 1)] 16 153 true 0 0 0) .lf)))))))))) (tr (tl (tr (tr (tl (tr (tl (tl (tl (.nd
  .lf (.row [(.sl k35697 0 0 2 2)] 1 52 false 0 0 0) .lf))))))))))))) (tn (tl (tr (tl (tl (tr (tr (tl (tn (tr (tl (tl (.nd .lf (.row [(.nat .i64 1),(.nat .i64
  1),(.str [48]),(.nat .i64 1),(.nat .i64 2),(.nat .i64 2),(.str [48]),(.nat .i64 2),(.nat .i64 3),(.nat .i64 3),(.str [48]),(.nat .i64 2),(.nat .i64 4),(.nat
  .i64 4),(.str [48]),(.nat .i64 2)] 16 153 true 0 0 0) .lf)))) (tl (tl (tl (.nd .lf (.row [(.nat .i64 0),(.nat .i64 1),(.sl k35603 0 0 3 3),(.nat .i64 1)] 4 29
  false 0 0 0) .lf)))))))))))) (tr (tl (tr (tr (tl (tl (tl (tr (tl (tr (tl (.nd .lf (.row [(.nat .i64 1),(.nat .i64 1),(.str [48]),(.nat .i64 1),(.nat .i64
  2),(.nat .i64 2),(.str [48]),(.nat .i64 2),(.nat .i64 3),(.nat .i64 3),(.str [48]),(.nat .i64 2),(.nat .i64 4),(.nat .i64 4),(.str [48]),(.nat .i64 2)] 16 153
  true 0 0 0) .lf))))))))))))))) (tn (tn (tn (tn (tl (tl (tl (tr (tl (tl (tl (tl (tr (tl (.nd .lf (.row [(.str [48]),(.so k41173 16 0 4 0),(.str [48]),(.so
  k41234 16 0 4 0)] 4 128 true 0 0 0) .lf))))))))))) (tr (tr (tl (tr (tr (tl (tr (tl (tl (tl (.nd .lf (.row [(.so k39541 8 0 1 0),(.nil 1)] 2 53 false 0 0 0)
  .lf)))))))))))) (tn (tn (tl (tl (tl (tr (tl (tr (tr (tl (tl (.nd .lf (.row [(.nat .i64 1),(.nat .i64 1),(.str [48]),(.nat .i64 1),(.nat .i64 2),(.nat .i64
  2),(.str [48]),(.nat .i64 1),(.nat .i64 3),(.nat .i64 3),(.str [48]),(.nat .i64 1),(.nat .i64 4),(.nat .i64 4),(.str [48]),(.nat .i64 1)] 16 153 true 0 0 0)
  .lf)))))))))) (tl (tl (tr (tr (tl (tr (tl (tl (tl (.nd .lf (.row [(.nil 1)] 1 42 false 0 0 0) .lf))))))))))) (tl (tl (tl (tr (tr (tl (tr (tl (tl (tl (.nd .lf
  (.row [(.nat .i64 2),(.nat .i64 1),(.nat .i64 1),(.str []),(.nat .i64 0),(.nat .i64 0),(.nil 1),(.nat .i64 1),(.nat .i64 0),(.nat .i64 0),(.str []),(.nat .i64
  0),(.nat .i64 0),(.nil 1)] 14 50 false 0 0 0) .lf))))))))))))) (tl (tn (tr (tl (tl (tr (tr (tl (tr (tl (tl (tl (.nd .lf (.row [(.nat .i64 0),(.nat .i64
  1),(.sl k35603 0 0 3 3),(.nat .i64 0)] 4 29 false 0 0 0) .lf))))))))))) (tn (tr (tr (tl (tl (tl (tl (tl (tr (tl (.nd .lf (.row [(.nat .i64 1),(.nat .i64
  1),(.str [48]),(.nat .i64 1),(.nat .i64 2),(.nat .i64 2),(.str [48]),(.nat .i64 1),(.nat .i64 3),(.nat .i64 3),(.str [48]),(.nat .i64 1),(.nat .i64 4),(.nat
  .i64 4),(.str [48]),(.nat .i64 1)] 16 153 true 0 0 0) .lf)))))))))) (tn (tl (tl (tr (tl (tr (tr (tl (tl (.nd .lf (.row [(.str [48]),(.so k39433 16 0 4
  0),(.str [48]),(.so k39494 16 0 4 0)] 4 128 true 0 0 0) .lf))))))))) (tl (tl (tr (tl (tr (tr (tl (tl (.nd .lf (.row [(.nat .i64 1),(.nat .i64 0),(.str
  [48]),(.so k37715 6 0 3 0),(.nat .i64 1),(.nat .i64 0),(.str [48]),(.so k39477 4 0 2 0)] 8 82 true 0 0 0) .lf)))))))))))))) (tn (tn (tn (tr (tl (tl (tr (tr
  (tl (tr (tl (tl (tl (.nd .lf (.row [(.sl k35618 0 0 4 4),(.sl k35616 0 0 2 2)] 2 27 false 0 0 0) .lf))))))))))) (tl (tn (tl (tr (tr (tl (tr (tl (tl (tl (.nd
  .lf (.row [(.nat .i64 1),(.nat .i64 1),(.nat .i64 2),(.nat .i64 2),(.nat .i64 1),(.nat .i64 1)] 6 23 false 0 0 0) .lf))))))))) (tl (tr (tr (tl (tl (tr (tl (tl
  (.nd .lf (.row [(.str []),(.so k37670 16 0 4 0),(.str [48]),(.so k37732 16 0 4 0),(.str []),(.so k37792 16 0 4 0)] 6 128 true 0 0 0) .lf)))))))))))) (tl (tl
  (tl (tl (tr (tl (tl (tr (tl (tr (tl (.nd .lf (.row [(.str []),(.so k43230 16 0 4 0),(.str [48]),(.so k43293 16 0 4 0),(.str []),(.so k43353 16 0 4 0),(.str
  [48]),(.so k43413 16 0 4 0)] 8 128 true 0 0 0) .lf))))))))))))) (tr (tr (tl (tl (tl (tr (tr (tl (tr (tl (tl (tl (.nd .lf (.row [(.nat .i64 1),(.nat .i64
  0),(.nat .i64 0),(.str []),(.nat .i64 0),(.nat .i64 0),(.nil 1),(.nat .i64 2),(.nat .i64 1),(.nat .i64 1),(.str []),(.nat .i64 0),(.nat .i64 0),(.nil 1)] 14
  50 false 0 0 0) .lf)))))))))))))))), k43461⟩⟩
def hk11 : Hook := ⟨14, [(.ls 0 [(.sl k44305 0 0 4 4),(.sl k44303 0 0 2 2)]),(.ls 0 [(.nat .i64 1),(.nat .i64 2),(.nat .i64 3),(.sl k44296 0 0 1 1)])], ⟨(tn (tn
  (tn (tr (tl (tl (tl (tl (tr (tl (tr (tr (tl (tr (tl (.nd .lf (.row [(.nat .i64 2),(.nat .i64 1),(.nat .i64 1),(.str []),(.nat .i64 0),(.nat .i64 0),(.nil
  1),(.nat .i64 1),(.nat .i64 0),(.nat .i64 0),(.str []),(.nat .i64 0),(.nat .i64 0),(.nil 1)] 14 50 false 0 0 0) .lf))))))))))))) (tl (tr (tl (tl (tl (tr (tl
  (tr (tr (tl (tr (tl (.nd .lf (.row [(.sl k44305 0 0 4 4),(.sl k44303 0 0 2 2)] 2 27 false 0 0 0) .lf)))))))))))))) (tn (tl (tr (tl (tl (tl (tr (tl (tr (tr (tl
  (tr (tl (.nd .lf (.row [(.nat .i64 0),(.nat .i64 1),(.nil 1),(.neg .i64 0)] 4 29 false 0 0 0) .lf))))))))))))) (tr (tn (tl (tl (tl (tr (tl (tr (tr (tl (tr (tl
  (.nd .lf (.row [(.nat .i64 2),(.nat .i64 2),(.nat .i64 2),(.str []),(.nat .i64 0),(.nat .i64 0),(.nil 1),(.nat .i64 1),(.nat .i64 0),(.nat .i64 0),(.str
  []),(.nat .i64 0),(.nat .i64 0),(.nil 1)] 14 50 false 0 0 0) .lf))))))))))) (tl (tr (tl (tr (tl (tr (tr (tl (tr (tl (.nd .lf (.row [(.sl k44381 0 0 2 2)] 1 52
  false 0 0 0) .lf))))))))))))))) (tn (tn (tl (tr (tl (tl (tl (tr (tl (tr (tr (tl (tr (tl (.nd .lf (.row [(.nat .i64 1),(.nat .i64 1),(.nat .i64 2),(.nat .i64
  2),(.nat .i64 2),(.nat .i64 3),(.nat .i64 2),(.nat .i64 0)] 8 23 false 0 0 0) .lf))))))))))))) (tn (tr (tl (tl (tl (tr (tl (tr (tr (tl (tr (tl (.nd .lf (.row
  [(.nil 1)] 1 42 false 0 0 0) .lf)))))))))))) (tr (tl (tr (tl (tr (tl (tr (tr (tl (tr (tl (.nd .lf (.row [(.nil 1),(.nil 1)] 2 53 false 0 0 0)
  .lf)))))))))))))) (tr (tr (tl (tl (tl (tl (tr (tl (tr (tr (tl (tr (tl (.nd .lf (.row [(.nat .i64 1),(.nat .i64 2),(.nat .i64 3),(.sl k44296 0 0 1 1),(.nat
  .i64 1),(.nat .i64 2),(.nat .i64 3),(.sl k44302 0 0 1 1)] 8 35 false 0 0 0) .lf)))))))))))))))), k44384⟩, (.ls 1 [(.so k48225 8 0 1 0),(.nat .i64 0)]), ⟨(tn
  (tn (tn (tl (tr (tl (tr (tl (tr (tl (tr (tl (tr (tr (tl (.nd .lf (.row [(.nat .i64 1),(.nat .i64 1),(.str [48]),(.nat .i64 1),(.nat .i64 2),(.nat .i64
  2),(.str [48]),(.nat .i64 2),(.nat .i64 3),(.nat .i64 3),(.str [48]),(.nat .i64 2),(.nat .i64 4),(.nat .i64 4),(.str [48]),(.nat .i64 2)] 16 153 true 0 0 0)
  .lf))))))))))))) (tn (tr (tl (tl (tl (tr (tl (tr (tr (tl (tr (tl (.nd .lf (.row [(.sl k44305 0 0 4 4),(.sl k44303 0 0 2 2)] 2 27 false 0 0 0) .lf))))))))))))
  (tl (tl (tl (tr (tr (tl (tr (tl (tr (tr (tl (.nd .lf (.row [(.nat .i64 1),(.nat .i64 1),(.str [48]),(.nat .i64 1),(.nat .i64 2),(.nat .i64 2),(.str
  [48]),(.nat .i64 2),(.nat .i64 3),(.nat .i64 3),(.str [48]),(.nat .i64 2),(.nat .i64 4),(.nat .i64 4),(.str [48]),(.nat .i64 2)] 16 153 true 0 0 0)
  .lf)))))))))))))) (tn (tl (tr (tl (tl (tl (tr (tl (tr (tn (tr (tr (tl (.nd .lf (.row [(.nat .i64 1),(.nat .i64 1),(.str [48]),(.nat .i64 1),(.nat .i64
  2),(.nat .i64 2),(.str [48]),(.nat .i64 2),(.nat .i64 3),(.nat .i64 3),(.str [48]),(.nat .i64 2),(.nat .i64 4),(.nat .i64 4),(.str [48]),(.nat .i64 2)] 16 153
  true 0 0 0) .lf)))) (tl (tr (tl (.nd .lf (.row [(.nat .i64 0),(.nat .i64 1),(.nil 1),(.neg .i64 0)] 4 29 false 0 0 0) .lf))))))))))))) (tr (tn (tl (tl (tl (tr
  (tl (tr (tr (tl (tr (tl (.nd .lf (.row [(.nat .i64 2),(.nat .i64 2),(.nat .i64 2),(.str []),(.nat .i64 0),(.nat .i64 0),(.nil 1),(.nat .i64 1),(.nat .i64
  0),(.nat .i64 0),(.str []),(.nat .i64 0),(.nat .i64 0),(.nil 1)] 14 50 false 0 0 0) .lf))))))))))) (tl (tr (tl (tr (tl (tr (tr (tl (tr (tl (.nd .lf (.row
  [(.sl k44381 0 0 2 2)] 1 52 false 0 0 0) .lf))))))))))))))) (tn (tn (tl (tn (tr (tn (tl (tl (tl (tr (tr (tr (tr (tl (.nd .lf (.row [(.str [48]),(.so k48117 16
  0 4 0),(.str [48]),(.so k48178 16 0 4 0)] 4 128 true 0 0 0) .lf))))))))) (tl (tl (tl (tr (tr (tr (tr (tl (.nd .lf (.row [(.nat .i64 1),(.nat .i64 0),(.str
  [48]),(.so k46399 6 0 3 0),(.nat .i64 1),(.nat .i64 0),(.str [48]),(.so k48161 4 0 2 0)] 8 82 true 0 0 0) .lf))))))))))) (tl (tl (tl (tr (tl (tr (tr (tl (tr
  (tl (.nd .lf (.row [(.nat .i64 1),(.nat .i64 1),(.nat .i64 2),(.nat .i64 2),(.nat .i64 2),(.nat .i64 3),(.nat .i64 2),(.nat .i64 0)] 8 23 false 0 0 0)
  .lf))))))))))))) (tn (tr (tl (tl (tl (tr (tl (tr (tr (tl (tr (tl (.nd .lf (.row [(.nil 1)] 1 42 false 0 0 0) .lf)))))))))))) (tr (tl (tr (tl (tr (tl (tr (tr
  (tl (tr (tl (.nd .lf (.row [(.nil 1),(.nil 1)] 2 53 false 0 0 0) .lf)))))))))))))) (tr (tr (tn (tl (tl (tl (tr (tl (tr (tr (tl (tr (tl (.nd .lf (.row [(.nat
  .i64 1),(.nat .i64 2),(.nat .i64 3),(.sl k44296 0 0 1 1),(.nat .i64 1),(.nat .i64 2),(.nat .i64 3),(.sl k44302 0 0 1 1)] 8 35 false 0 0 0) .lf))))))))))) (tr
  (tl (tl (tr (tl (tr (tl (tr (tr (tl (.nd .lf (.row [(.str []),(.so k46354 16 0 4 0),(.str [48]),(.so k46416 16 0 4 0),(.str []),(.so k46476 16 0 4 0)] 6 128
  true 0 0 0) .lf)))))))))))))))), k48226⟩⟩
def hk12 : Hook := ⟨14, [(.ls 0 [(.sl k44305 0 0 4 4),(.sl k44303 0 0 2 2)]),(.ls 0 [(.nat .i64 1),(.nat .i64 2),(.nat .i64 3),(.sl k44302 0 0 1 1)])], ⟨(tn (tn
  (tn (tl (tr (tl (tr (tl (tr (tl (tr (tl (tr (tr (tl (.nd .lf (.row [(.nat .i64 1),(.nat .i64 1),(.str [48]),(.nat .i64 1),(.nat .i64 2),(.nat .i64 2),(.str
  [48]),(.nat .i64 2),(.nat .i64 3),(.nat .i64 3),(.str [48]),(.nat .i64 2),(.nat .i64 4),(.nat .i64 4),(.str [48]),(.nat .i64 2)] 16 153 true 0 0 0)
  .lf))))))))))))) (tn (tr (tl (tl (tl (tr (tl (tr (tr (tl (tr (tl (.nd .lf (.row [(.sl k44305 0 0 4 4),(.sl k44303 0 0 2 2)] 2 27 false 0 0 0) .lf))))))))))))
  (tl (tl (tl (tr (tr (tl (tr (tl (tr (tr (tl (.nd .lf (.row [(.nat .i64 1),(.nat .i64 1),(.str [48]),(.nat .i64 1),(.nat .i64 2),(.nat .i64 2),(.str
  [48]),(.nat .i64 2),(.nat .i64 3),(.nat .i64 3),(.str [48]),(.nat .i64 2),(.nat .i64 4),(.nat .i64 4),(.str [48]),(.nat .i64 2)] 16 153 true 0 0 0)
  .lf)))))))))))))) (tn (tl (tr (tl (tl (tl (tr (tl (tr (tn (tr (tr (tl (.nd .lf (.row [(.nat .i64 1),(.nat .i64 1),(.str [48]),(.nat .i64 1),(.nat .i64
  2),(.nat .i64 2),(.str [48]),(.nat .i64 2),(.nat .i64 3),(.nat .i64 3),(.str [48]),(.nat .i64 2),(.nat .i64 4),(.nat .i64 4),(.str [48]),(.nat .i64 2)] 16 153
  true 0 0 0) .lf)))) (tl (tr (tl (.nd .lf (.row [(.nat .i64 0),(.nat .i64 1),(.nil 1),(.neg .i64 0)] 4 29 false 0 0 0) .lf))))))))))))) (tr (tn (tl (tl (tl (tr
  (tl (tr (tr (tl (tr (tl (.nd .lf (.row [(.nat .i64 2),(.nat .i64 2),(.nat .i64 2),(.str []),(.nat .i64 0),(.nat .i64 0),(.nil 1),(.nat .i64 1),(.nat .i64
  0),(.nat .i64 0),(.str []),(.nat .i64 0),(.nat .i64 0),(.nil 1)] 14 50 false 0 0 0) .lf))))))))))) (tl (tr (tl (tr (tl (tr (tr (tl (tr (tl (.nd .lf (.row
  [(.sl k44381 0 0 2 2)] 1 52 false 0 0 0) .lf))))))))))))))) (tn (tn (tl (tn (tr (tn (tl (tl (tl (tr (tr (tr (tr (tl (.nd .lf (.row [(.str [48]),(.so k48117 16
  0 4 0),(.str [48]),(.so k48178 16 0 4 0)] 4 128 true 0 0 0) .lf))))))))) (tl (tl (tl (tr (tr (tr (tr (tl (.nd .lf (.row [(.nat .i64 1),(.nat .i64 0),(.str
  [48]),(.so k46399 6 0 3 0),(.nat .i64 1),(.nat .i64 0),(.str [48]),(.so k48161 4 0 2 0)] 8 82 true 0 0 0) .lf))))))))))) (tl (tl (tl (tr (tl (tr (tr (tl (tr
  (tl (.nd .lf (.row [(.nat .i64 1),(.nat .i64 1),(.nat .i64 2),(.nat .i64 2),(.nat .i64 2),(.nat .i64 3),(.nat .i64 2),(.nat .i64 0)] 8 23 false 0 0 0)
  .lf))))))))))))) (tn (tr (tl (tl (tl (tr (tl (tr (tr (tl (tr (tl (.nd .lf (.row [(.nil 1)] 1 42 false 0 0 0) .lf)))))))))))) (tr (tl (tr (tl (tr (tl (tr (tr
  (tl (tr (tl (.nd .lf (.row [(.so k48225 8 0 1 0),(.nil 1)] 2 53 false 0 0 0) .lf)))))))))))))) (tr (tr (tn (tl (tl (tl (tr (tl (tr (tr (tl (tr (tl (.nd .lf
  (.row [(.nat .i64 1),(.nat .i64 2),(.nat .i64 3),(.sl k44296 0 0 1 1),(.nat .i64 1),(.nat .i64 2),(.nat .i64 3),(.sl k44302 0 0 1 1)] 8 35 false 0 0 0)
  .lf))))))))))) (tr (tl (tl (tr (tl (tr (tl (tr (tr (tl (.nd .lf (.row [(.str []),(.so k46354 16 0 4 0),(.str [48]),(.so k46416 16 0 4 0),(.str []),(.so k46476
  16 0 4 0)] 6 128 true 0 0 0) .lf)))))))))))))))), k48227⟩, (.ls 1 [(.so k52068 8 0 1 0),(.nat .i64 0)]), ⟨(tn (tn (tn (tl (tr (tl (tr (tl (tr (tl (tr (tl (tr
  (tr (tl (.nd .lf (.row [(.nat .i64 1),(.nat .i64 1),(.str [48]),(.nat .i64 1),(.nat .i64 2),(.nat .i64 2),(.str [48]),(.nat .i64 2),(.nat .i64 3),(.nat .i64
  3),(.str [48]),(.nat .i64 2),(.nat .i64 4),(.nat .i64 4),(.str [48]),(.nat .i64 2)] 16 153 true 0 0 0) .lf))))))))))))) (tn (tn (tr (tn (tl (tr (tr (tl (tr
  (tl (tl (tr (.nd .lf (.row [(.str [48]),(.so k51960 16 0 4 0),(.str [48]),(.so k52021 16 0 4 0)] 4 128 true 0 0 0) .lf))))))))) (tl (tr (tr (tl (tr (tl (tl
  (tr (.nd .lf (.row [(.nat .i64 1),(.nat .i64 0),(.str [48]),(.so k50242 6 0 3 0),(.nat .i64 1),(.nat .i64 0),(.str [48]),(.so k52004 4 0 2 0)] 8 82 true 0 0
  0) .lf))))))))))) (tl (tl (tl (tr (tl (tr (tr (tl (tr (tl (.nd .lf (.row [(.sl k44305 0 0 4 4),(.sl k44303 0 0 2 2)] 2 27 false 0 0 0) .lf)))))))))))) (tl (tl
  (tl (tr (tr (tl (tr (tl (tr (tr (tl (.nd .lf (.row [(.nat .i64 1),(.nat .i64 1),(.str [48]),(.nat .i64 1),(.nat .i64 2),(.nat .i64 2),(.str [48]),(.nat .i64
  2),(.nat .i64 3),(.nat .i64 3),(.str [48]),(.nat .i64 2),(.nat .i64 4),(.nat .i64 4),(.str [48]),(.nat .i64 2)] 16 153 true 0 0 0) .lf)))))))))))))) (tn (tl
  (tn (tl (tr (tl (tl (tl (tr (tl (tl (tl (tr (.nd .lf (.row [(.str []),(.so k50197 16 0 4 0),(.str []),(.so k50259 16 0 4 0),(.str [48]),(.so k50319 16 0 4 0)]
  6 128 true 0 0 0) .lf))))))))))) (tl (tl (tl (tr (tl (tr (tn (tr (tr (tl (.nd .lf (.row [(.nat .i64 1),(.nat .i64 1),(.str [48]),(.nat .i64 1),(.nat .i64
  2),(.nat .i64 2),(.str [48]),(.nat .i64 2),(.nat .i64 3),(.nat .i64 3),(.str [48]),(.nat .i64 2),(.nat .i64 4),(.nat .i64 4),(.str [48]),(.nat .i64 2)] 16 153
  true 0 0 0) .lf)))) (tl (tr (tl (.nd .lf (.row [(.nat .i64 0),(.nat .i64 1),(.nil 1),(.neg .i64 0)] 4 29 false 0 0 0) .lf))))))))))))) (tr (tr (tl (tr (tl (tr
  (tl (tr (tr (tl (tr (tl (.nd .lf (.row [(.sl k44381 0 0 2 2)] 1 52 false 0 0 0) .lf))))))))))))))) (tn (tn (tl (tn (tr (tn (tl (tl (tl (tr (tr (tr (tr (tl
  (.nd .lf (.row [(.str [48]),(.so k48117 16 0 4 0),(.str [48]),(.so k48178 16 0 4 0)] 4 128 true 0 0 0) .lf))))))))) (tl (tl (tl (tr (tr (tr (tr (tl (.nd .lf
  (.row [(.nat .i64 1),(.nat .i64 0),(.str [48]),(.so k46399 6 0 3 0),(.nat .i64 1),(.nat .i64 0),(.str [48]),(.so k48161 4 0 2 0)] 8 82 true 0 0 0)
  .lf))))))))))) (tl (tl (tl (tr (tl (tr (tr (tl (tr (tl (.nd .lf (.row [(.nat .i64 1),(.nat .i64 1),(.nat .i64 2),(.nat .i64 2),(.nat .i64 2),(.nat .i64
  3),(.nat .i64 2),(.nat .i64 0)] 8 23 false 0 0 0) .lf))))))))))))) (tn (tr (tl (tl (tl (tn (tl (tr (tl (tl (tl (tr (.nd .lf (.row [(.nat .i64 1),(.nat .i64
  1),(.str [48]),(.nat .i64 1),(.nat .i64 2),(.nat .i64 2),(.str [48]),(.nat .i64 2),(.nat .i64 3),(.nat .i64 3),(.str [48]),(.nat .i64 1),(.nat .i64 4),(.nat
  .i64 4),(.str [48]),(.nat .i64 1)] 16 153 true 0 0 0) .lf))))))) (tl (tr (tr (tl (tr (tl (.nd .lf (.row [(.nil 1)] 1 42 false 0 0 0) .lf)))))))))))) (tr (tl
  (tr (tl (tr (tl (tr (tr (tl (tr (tl (.nd .lf (.row [(.so k48225 8 0 1 0),(.nil 1)] 2 53 false 0 0 0) .lf)))))))))))))) (tn (tl (tr (tl (tr (tl (tl (tl (tr (tl
  (tl (tl (tr (.nd .lf (.row [(.nat .i64 1),(.nat .i64 1),(.str [48]),(.nat .i64 1),(.nat .i64 2),(.nat .i64 2),(.str [48]),(.nat .i64 2),(.nat .i64 3),(.nat
  .i64 3),(.str [48]),(.nat .i64 1),(.nat .i64 4),(.nat .i64 4),(.str [48]),(.nat .i64 1)] 16 153 true 0 0 0) .lf))))))))))))) (tr (tn (tl (tl (tn (tr (tl (tr
  (tr (tl (tr (tl (.nd .lf (.row [(.nat .i64 1),(.nat .i64 2),(.nat .i64 3),(.sl k44296 0 0 1 1),(.nat .i64 1),(.nat .i64 2),(.nat .i64 3),(.sl k44302 0 0 1 1)]
  8 35 false 0 0 0) .lf)))))))) (tl (tl (tr (tl (tl (tl (tr (.nd .lf (.row [(.nat .i64 1),(.nat .i64 1),(.str [48]),(.nat .i64 1),(.nat .i64 2),(.nat .i64
  2),(.str [48]),(.nat .i64 2),(.nat .i64 3),(.nat .i64 3),(.str [48]),(.nat .i64 1),(.nat .i64 4),(.nat .i64 4),(.str [48]),(.nat .i64 1)] 16 153 true 0 0 0)
  .lf))))))))))) (tr (tl (tl (tr (tl (tr (tl (tr (tr (tl (.nd .lf (.row [(.str []),(.so k46354 16 0 4 0),(.str [48]),(.so k46416 16 0 4 0),(.str []),(.so k46476
  16 0 4 0)] 6 128 true 0 0 0) .lf)))))))))))))))), k52069⟩⟩
def hk13 : Hook := ⟨14, [(.ls 0 [(.sl k52985 0 0 4 4),(.sl k52983 0 0 2 2)]),(.ls 0 [(.nat .i64 1),(.nat .i64 2),(.nat .i64 3),(.sl k52976 0 0 1 1)])], ⟨(tn (tn
  (tn (tl (tr (tr (tr (tr (tl (tr (tr (tr (tl (tl (tr (.nd .lf (.row [(.nat .i64 2),(.nat .i64 1),(.nat .i64 1),(.str []),(.nat .i64 0),(.nat .i64 0),(.nil
  1),(.nat .i64 1),(.nat .i64 0),(.nat .i64 0),(.str []),(.nat .i64 0),(.nat .i64 0),(.nil 1)] 14 50 false 0 0 0) .lf))))))))))))) (tn (tl (tl (tr (tl (tr (tr
  (tr (tr (tl (tl (tr (.nd .lf (.row [(.nil 1),(.nil 1)] 2 53 false 0 0 0) .lf)))))))))))) (tr (tr (tr (tr (tl (tr (tr (tr (tl (tl (tr (.nd .lf (.row [(.nil 1)]
  1 42 false 0 0 0) .lf)))))))))))))) (tr (tl (tr (tr (tr (tr (tl (tr (tr (tr (tl (tl (tr (.nd .lf (.row [(.nat .i64 1),(.nat .i64 0),(.nat .i64 0),(.str
  []),(.nat .i64 0),(.nat .i64 0),(.nil 1),(.nat .i64 2),(.nat .i64 2),(.nat .i64 2),(.str []),(.nat .i64 0),(.nat .i64 0),(.nil 1)] 14 50 false 0 0 0)
  .lf))))))))))))))) (tn (tn (tr (tr (tr (tr (tr (tl (tr (tr (tr (tl (tl (tr (.nd .lf (.row [(.nat .i64 1),(.nat .i64 1),(.nat .i64 2),(.nat .i64 2),(.nat .i64
  2),(.nat .i64 3),(.nat .i64 2),(.nat .i64 0)] 8 23 false 0 0 0) .lf))))))))))))) (tl (tl (tl (tr (tl (tr (tr (tr (tr (tl (tl (tr (.nd .lf (.row [(.sl k53060 0
  0 2 2)] 1 52 false 0 0 0) .lf)))))))))))))) (tn (tr (tr (tr (tr (tr (tl (tr (tr (tr (tl (tl (tr (.nd .lf (.row [(.sl k52985 0 0 4 4),(.sl k52983 0 0 2 2)] 2
  27 false 0 0 0) .lf))))))))))))) (tl (tr (tr (tr (tr (tl (tr (tr (tr (tl (tl (tr (.nd .lf (.row [(.nat .i64 1),(.nat .i64 2),(.nat .i64 3),(.sl k52976 0 0 1
  1),(.nat .i64 1),(.nat .i64 2),(.nat .i64 3),(.sl k52982 0 0 1 1)] 8 35 false 0 0 0) .lf)))))))))))))))), k53063⟩, (.ls 1 [(.so k56904 8 0 1 0),(.nat .i64
  0)]), ⟨(tn (tn (tn (tr (tl (tl (tn (tl (tl (tr (tr (tr (tr (tl (tr (.nd .lf (.row [(.str [48]),(.so k56796 16 0 4 0),(.str [48]),(.so k56857 16 0 4 0)] 4 128
  true 0 0 0) .lf))))))))) (tl (tl (tr (tr (tr (tr (tl (tr (.nd .lf (.row [(.nat .i64 1),(.nat .i64 0),(.str [48]),(.so k55078 6 0 3 0),(.nat .i64 1),(.nat .i64
  0),(.str [48]),(.so k56840 4 0 2 0)] 8 82 true 0 0 0) .lf))))))))))))) (tn (tl (tl (tr (tl (tr (tr (tr (tr (tl (tl (tr (.nd .lf (.row [(.nil 1),(.nil 1)] 2 53
  false 0 0 0) .lf)))))))))))) (tr (tn (tr (tr (tr (tl (tr (tr (tr (tl (tr (.nd .lf (.row [(.nat .i64 1),(.nat .i64 1),(.str [48]),(.nat .i64 1),(.nat .i64
  2),(.nat .i64 2),(.str [48]),(.nat .i64 1),(.nat .i64 3),(.nat .i64 3),(.str [48]),(.nat .i64 1),(.nat .i64 4),(.nat .i64 4),(.str [48]),(.nat .i64 1)] 16 153
  true 0 0 0) .lf)))))))))) (tr (tr (tl (tr (tr (tr (tl (tl (tr (.nd .lf (.row [(.nil 1)] 1 42 false 0 0 0) .lf)))))))))))))) (tr (tl (tn (tr (tl (tl (tr (tr
  (tr (tl (tr (tl (tr (.nd .lf (.row [(.str []),(.so k55033 16 0 4 0),(.str [48]),(.so k55095 16 0 4 0),(.str []),(.so k55155 16 0 4 0)] 6 128 true 0 0 0)
  .lf))))))))))) (tr (tr (tr (tl (tr (tr (tr (tl (tl (tr (.nd .lf (.row [(.nat .i64 1),(.nat .i64 0),(.nat .i64 0),(.str []),(.nat .i64 0),(.nat .i64 0),(.nil
  1),(.nat .i64 2),(.nat .i64 2),(.nat .i64 2),(.str []),(.nat .i64 0),(.nat .i64 0),(.nil 1)] 14 50 false 0 0 0) .lf))))))))))))))) (tn (tn (tr (tr (tr (tr (tr
  (tl (tr (tr (tn (tr (tl (tr (.nd .lf (.row [(.nat .i64 1),(.nat .i64 1),(.str [48]),(.nat .i64 1),(.nat .i64 2),(.nat .i64 2),(.str [48]),(.nat .i64 2),(.nat
  .i64 3),(.nat .i64 3),(.str [48]),(.nat .i64 2),(.nat .i64 4),(.nat .i64 4),(.str [48]),(.nat .i64 2)] 16 153 true 0 0 0) .lf)))) (tl (tl (tr (.nd .lf (.row
  [(.nat .i64 1),(.nat .i64 1),(.nat .i64 2),(.nat .i64 2),(.nat .i64 2),(.nat .i64 3),(.nat .i64 2),(.nat .i64 0)] 8 23 false 0 0 0) .lf))))))))))))) (tl (tl
  (tl (tr (tl (tr (tr (tr (tr (tl (tl (tr (.nd .lf (.row [(.sl k53060 0 0 2 2)] 1 52 false 0 0 0) .lf)))))))))))))) (tn (tn (tr (tr (tr (tl (tr (tr (tr (tl (tr
  (tl (tr (.nd .lf (.row [(.nat .i64 1),(.nat .i64 1),(.str [48]),(.nat .i64 1),(.nat .i64 2),(.nat .i64 2),(.str [48]),(.nat .i64 2),(.nat .i64 3),(.nat .i64
  3),(.str [48]),(.nat .i64 2),(.nat .i64 4),(.nat .i64 4),(.str [48]),(.nat .i64 2)] 16 153 true 0 0 0) .lf)))))))))))) (tr (tr (tr (tr (tl (tr (tr (tr (tl (tl
  (tr (.nd .lf (.row [(.sl k52985 0 0 4 4),(.sl k52983 0 0 2 2)] 2 27 false 0 0 0) .lf))))))))))))) (tl (tr (tr (tn (tl (tr (tr (tr (tl (tr (tl (tr (.nd .lf
  (.row [(.nat .i64 1),(.nat .i64 1),(.str [48]),(.nat .i64 1),(.nat .i64 2),(.nat .i64 2),(.str [48]),(.nat .i64 2),(.nat .i64 3),(.nat .i64 3),(.str
  [48]),(.nat .i64 2),(.nat .i64 4),(.nat .i64 4),(.str [48]),(.nat .i64 2)] 16 153 true 0 0 0) .lf))))))))) (tr (tl (tr (tr (tr (tl (tl (tr (.nd .lf (.row
  [(.nat .i64 1),(.nat .i64 2),(.nat .i64 3),(.sl k52976 0 0 1 1),(.nat .i64 1),(.nat .i64 2),(.nat .i64 3),(.sl k52982 0 0 1 1)] 8 35 false 0 0 0)
  .lf)))))))))))))))), k56905⟩⟩
def hk14 : Hook := ⟨14, [(.ls 0 [(.sl k52985 0 0 4 4),(.sl k52983 0 0 2 2)]),(.ls 0 [(.nat .i64 1),(.nat .i64 2),(.nat .i64 3),(.sl k52982 0 0 1 1)])], ⟨(tn (tn
  (tn (tr (tl (tl (tn (tl (tl (tr (tr (tr (tr (tl (tr (.nd .lf (.row [(.str [48]),(.so k56796 16 0 4 0),(.str [48]),(.so k56857 16 0 4 0)] 4 128 true 0 0 0)
  .lf))))))))) (tl (tl (tr (tr (tr (tr (tl (tr (.nd .lf (.row [(.nat .i64 1),(.nat .i64 0),(.str [48]),(.so k55078 6 0 3 0),(.nat .i64 1),(.nat .i64 0),(.str
  [48]),(.so k56840 4 0 2 0)] 8 82 true 0 0 0) .lf))))))))))))) (tn (tl (tl (tr (tl (tr (tr (tr (tr (tl (tl (tr (.nd .lf (.row [(.so k56904 8 0 1 0),(.nil 1)] 2
  53 false 0 0 0) .lf)))))))))))) (tr (tn (tr (tr (tr (tl (tr (tr (tr (tl (tr (.nd .lf (.row [(.nat .i64 1),(.nat .i64 1),(.str [48]),(.nat .i64 1),(.nat .i64
  2),(.nat .i64 2),(.str [48]),(.nat .i64 1),(.nat .i64 3),(.nat .i64 3),(.str [48]),(.nat .i64 1),(.nat .i64 4),(.nat .i64 4),(.str [48]),(.nat .i64 1)] 16 153
  true 0 0 0) .lf)))))))))) (tr (tr (tl (tr (tr (tr (tl (tl (tr (.nd .lf (.row [(.nil 1)] 1 42 false 0 0 0) .lf)))))))))))))) (tr (tl (tn (tr (tl (tl (tr (tr
  (tr (tl (tr (tl (tr (.nd .lf (.row [(.str []),(.so k55033 16 0 4 0),(.str [48]),(.so k55095 16 0 4 0),(.str []),(.so k55155 16 0 4 0)] 6 128 true 0 0 0)
  .lf))))))))))) (tr (tr (tr (tl (tr (tr (tr (tl (tl (tr (.nd .lf (.row [(.nat .i64 1),(.nat .i64 0),(.nat .i64 0),(.str []),(.nat .i64 0),(.nat .i64 0),(.nil
  1),(.nat .i64 2),(.nat .i64 2),(.nat .i64 2),(.str []),(.nat .i64 0),(.nat .i64 0),(.nil 1)] 14 50 false 0 0 0) .lf))))))))))))))) (tn (tn (tr (tr (tr (tr (tr
  (tl (tr (tr (tn (tr (tl (tr (.nd .lf (.row [(.nat .i64 1),(.nat .i64 1),(.str [48]),(.nat .i64 1),(.nat .i64 2),(.nat .i64 2),(.str [48]),(.nat .i64 2),(.nat
  .i64 3),(.nat .i64 3),(.str [48]),(.nat .i64 2),(.nat .i64 4),(.nat .i64 4),(.str [48]),(.nat .i64 2)] 16 153 true 0 0 0) .lf)))) (tl (tl (tr (.nd .lf (.row
  [(.nat .i64 1),(.nat .i64 1),(.nat .i64 2),(.nat .i64 2),(.nat .i64 2),(.nat .i64 3),(.nat .i64 2),(.nat .i64 0)] 8 23 false 0 0 0) .lf))))))))))))) (tl (tl
  (tl (tr (tl (tr (tr (tr (tr (tl (tl (tr (.nd .lf (.row [(.sl k53060 0 0 2 2)] 1 52 false 0 0 0) .lf)))))))))))))) (tn (tn (tr (tr (tr (tl (tr (tr (tr (tl (tr
  (tl (tr (.nd .lf (.row [(.nat .i64 1),(.nat .i64 1),(.str [48]),(.nat .i64 1),(.nat .i64 2),(.nat .i64 2),(.str [48]),(.nat .i64 2),(.nat .i64 3),(.nat .i64
  3),(.str [48]),(.nat .i64 2),(.nat .i64 4),(.nat .i64 4),(.str [48]),(.nat .i64 2)] 16 153 true 0 0 0) .lf)))))))))))) (tr (tr (tr (tr (tl (tr (tr (tr (tl (tl
  (tr (.nd .lf (.row [(.sl k52985 0 0 4 4),(.sl k52983 0 0 2 2)] 2 27 false 0 0 0) .lf))))))))))))) (tl (tr (tr (tn (tl (tr (tr (tr (tl (tr (tl (tr (.nd .lf
  (.row [(.nat .i64 1),(.nat .i64 1),(.str [48]),(.nat .i64 1),(.nat .i64 2),(.nat .i64 2),(.str [48]),(.nat .i64 2),(.nat .i64 3),(.nat .i64 3),(.str
  [48]),(.nat .i64 2),(.nat .i64 4),(.nat .i64 4),(.str [48]),(.nat .i64 2)] 16 153 true 0 0 0) .lf))))))))) (tr (tl (tr (tr (tr (tl (tl (tr (.nd .lf (.row
  [(.nat .i64 1),(.nat .i64 2),(.nat .i64 3),(.sl k52976 0 0 1 1),(.nat .i64 1),(.nat .i64 2),(.nat .i64 3),(.sl k52982 0 0 1 1)] 8 35 false 0 0 0)
  .lf)))))))))))))))), k56906⟩, (.ls 1 [(.so k60823 8 0 1 0),(.nat .i64 0)]), ⟨(tn (tn (tn (tr (tl (tn (tn (tl (tl (tr (tr (tr (tr (tl (tr (.nd .lf (.row [(.str
  [48]),(.so k56796 16 0 4 0),(.str [48]),(.so k56857 16 0 4 0)] 4 128 true 0 0 0) .lf))))))))) (tl (tl (tr (tr (tr (tr (tl (tr (.nd .lf (.row [(.nat .i64
  1),(.nat .i64 0),(.str [48]),(.so k55078 6 0 3 0),(.nat .i64 1),(.nat .i64 0),(.str [48]),(.so k56840 4 0 2 0)] 8 82 true 0 0 0) .lf)))))))))) (tl (tr (tl (tl
  (tr (tl (tl (tr (tr (.nd .lf (.row [(.nat .i64 1),(.nat .i64 1),(.str [48]),(.nat .i64 1),(.nat .i64 2),(.nat .i64 2),(.str [48]),(.nat .i64 1),(.nat .i64
  3),(.nat .i64 3),(.str [48]),(.nat .i64 1),(.nat .i64 4),(.nat .i64 4),(.str [48]),(.nat .i64 1)] 16 153 true 0 0 0) .lf))))))))))))) (tn (tn (tl (tr (tl (tr
  (tr (tr (tr (tl (tl (tr (.nd .lf (.row [(.so k56904 8 0 1 0),(.nil 1)] 2 53 false 0 0 0) .lf))))))))))) (tl (tr (tr (tl (tl (tr (tl (tl (tr (tr (.nd .lf (.row
  [(.str [48]),(.so k58536 16 0 4 0),(.str [48]),(.so k58597 16 0 4 0)] 4 128 true 0 0 0) .lf)))))))))))) (tr (tn (tr (tr (tr (tl (tr (tr (tr (tl (tr (.nd .lf
  (.row [(.nat .i64 1),(.nat .i64 1),(.str [48]),(.nat .i64 1),(.nat .i64 2),(.nat .i64 2),(.str [48]),(.nat .i64 1),(.nat .i64 3),(.nat .i64 3),(.str
  [48]),(.nat .i64 1),(.nat .i64 4),(.nat .i64 4),(.str [48]),(.nat .i64 1)] 16 153 true 0 0 0) .lf)))))))))) (tr (tr (tl (tr (tr (tr (tl (tl (tr (.nd .lf (.row
  [(.nil 1)] 1 42 false 0 0 0) .lf)))))))))))))) (tr (tn (tl (tr (tl (tl (tr (tr (tr (tl (tr (tl (tr (.nd .lf (.row [(.str []),(.so k55033 16 0 4 0),(.str
  [48]),(.so k55095 16 0 4 0),(.str []),(.so k55155 16 0 4 0)] 6 128 true 0 0 0) .lf)))))))))))) (tr (tl (tr (tr (tl (tl (tr (tr (tl (tr (tr (.nd .lf (.row
  [(.str []),(.so k60593 16 0 4 0),(.str []),(.so k60655 16 0 4 0),(.str [48]),(.so k60716 16 0 4 0),(.str [48]),(.so k60776 16 0 4 0)] 8 128 true 0 0 0)
  .lf))))))))))))))) (tn (tn (tn (tr (tr (tl (tr (tl (tl (tr (tr (tl (tr (tr (.nd .lf (.row [(.nat .i64 1),(.nat .i64 1),(.str [48]),(.nat .i64 1),(.nat .i64
  2),(.nat .i64 2),(.str [48]),(.nat .i64 2),(.nat .i64 3),(.nat .i64 3),(.str [48]),(.nat .i64 1),(.nat .i64 4),(.nat .i64 4),(.str [48]),(.nat .i64 1)] 16 153
  true 0 0 0) .lf)))))))))))) (tr (tr (tr (tr (tl (tr (tr (tn (tr (tl (tr (.nd .lf (.row [(.nat .i64 1),(.nat .i64 1),(.str [48]),(.nat .i64 1),(.nat .i64
  2),(.nat .i64 2),(.str [48]),(.nat .i64 2),(.nat .i64 3),(.nat .i64 3),(.str [48]),(.nat .i64 2),(.nat .i64 4),(.nat .i64 4),(.str [48]),(.nat .i64 2)] 16 153
  true 0 0 0) .lf)))) (tl (tl (tr (.nd .lf (.row [(.nat .i64 1),(.nat .i64 1),(.nat .i64 2),(.nat .i64 2),(.nat .i64 2),(.nat .i64 3),(.nat .i64 2),(.nat .i64
  0)] 8 23 false 0 0 0) .lf))))))))))))) (tl (tl (tn (tr (tl (tr (tr (tr (tr (tl (tl (tr (.nd .lf (.row [(.sl k53060 0 0 2 2)] 1 52 false 0 0 0) .lf))))))))))
  (tr (tr (tl (tl (tr (tl (tl (tr (tr (.nd .lf (.row [(.nat .i64 1),(.nat .i64 1),(.str [48]),(.nat .i64 1),(.nat .i64 2),(.nat .i64 2),(.str [48]),(.nat .i64
  1),(.nat .i64 3),(.nat .i64 3),(.str [48]),(.nat .i64 1),(.nat .i64 4),(.nat .i64 4),(.str [48]),(.nat .i64 1)] 16 153 true 0 0 0) .lf)))))))))))))) (tn (tn
  (tr (tr (tr (tl (tr (tr (tr (tl (tr (tl (tr (.nd .lf (.row [(.nat .i64 1),(.nat .i64 1),(.str [48]),(.nat .i64 1),(.nat .i64 2),(.nat .i64 2),(.str
  [48]),(.nat .i64 2),(.nat .i64 3),(.nat .i64 3),(.str [48]),(.nat .i64 2),(.nat .i64 4),(.nat .i64 4),(.str [48]),(.nat .i64 2)] 16 153 true 0 0 0)
  .lf)))))))))))) (tr (tr (tr (tr (tl (tr (tr (tr (tl (tl (tr (.nd .lf (.row [(.sl k52985 0 0 4 4),(.sl k52983 0 0 2 2)] 2 27 false 0 0 0) .lf))))))))))))) (tl
  (tr (tn (tl (tr (tr (tl (tr (tr (tl (tr (tr (.nd .lf (.row [(.nat .i64 1),(.nat .i64 0),(.str [48]),(.so k58580 4 0 2 0),(.nat .i64 1),(.nat .i64 0),(.str
  [48]),(.so k60638 8 0 4 0)] 8 82 true 0 0 0) .lf)))))))))) (tn (tl (tr (tr (tr (tl (tr (tl (tr (.nd .lf (.row [(.nat .i64 1),(.nat .i64 1),(.str [48]),(.nat
  .i64 1),(.nat .i64 2),(.nat .i64 2),(.str [48]),(.nat .i64 2),(.nat .i64 3),(.nat .i64 3),(.str [48]),(.nat .i64 2),(.nat .i64 4),(.nat .i64 4),(.str
  [48]),(.nat .i64 2)] 16 153 true 0 0 0) .lf))))))))) (tr (tl (tr (tr (tr (tl (tl (tr (.nd .lf (.row [(.nat .i64 1),(.nat .i64 2),(.nat .i64 3),(.sl k52976 0 0
  1 1),(.nat .i64 1),(.nat .i64 2),(.nat .i64 3),(.sl k52982 0 0 1 1)] 8 35 false 0 0 0) .lf)))))))))))))))), k60824⟩⟩
end Go.Proofs.YthfipomomhlgnaaGreatDoor.clashKnown
