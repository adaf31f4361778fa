/- The program as the evaluator takes it (three lists of hints, which the proofs need not trust), and some calls of the closed run of RewriteExamples, each with what it is given and what it answers. No statement of the seat stands here. No condition. By an AI agent. -/
import Derived.Test.YtomjpelinabmgaaGreatDoorChecked
import Derived.KernelRfl
import Derived.Test.YtomjpelinabmgaaGreatDoorEvG
namespace Go.Proofs.YtomjpelinabmgaaGreatDoor.rewriteExamples
open Go.Ev Go.RowKit
set_option maxRecDepth 100000
noncomputable def pc (hooks : List Hook) : PC := PC.of Tryz.prog hooks [0, 0, 1, 43556142965880123323311949751266331066240, 9007199254738432, 9007199254738432,
  288230376151447552, 3802932457779302365059887357952, 3894222643901083827909724693512192, 712230049767677002046844264099177612762284032, 56, 992, 224, 4193792,
  56, 24, 24, 10889035741470030830827987437816582765056, 4499064141905856, 267384832, 69805789929205760, 8589934464, 67091392, 3458623252329365504,
  843256564531200, 67091392, 133135577088, 140702052769792, 130496, 548681513920, 37778931860689418977248, 56, 1048032, 24,
  163332877655759086281603379116418208301056, 13194131142656, 1099511627264, 42452218798465682763143301720761171968, 43556141302722535823874969358092048728064,
  1298073905148697081283938550218624, 2304717040586850048, 4292869056, 33536960, 72057559678156800, 16352, 32736, 244736, 444288, 34090770432,
  73786413310256577280, 50301888, 33549824, 16352, 480, 4032, 16776112, 1180591618518388029440, 504, 503314416, 2147417984, 3541774857960345829344, 16777184,
  480, 68215103488, 112, 130816, 50329600, 32752, 4032, 65408, 4194272, 126, 1054972812980224, 9223299606459154432, 268418496, 1044160,
  87111610932532326191870328324693962981376, 137436855808, 536868608, 67092448, 33554368, 356811880641193946689691826088336933575983104, 248, 56,
  2251791223488448, 2032, 457792, 1016, 140454020513776, 504, 2040, 480, 240, 457792, 134152096, 129984, 248, 17873660895281152, 24, 16352, 1125835478138368,
  65507200, 246284026954752, 128, 131040, 131040, 261952, 8, 262016, 268434928, 130944, 1152885188510730240, 232, 562947805802496, 480, 24, 523744,
  36893487597654834688, 281474972483328, 8555330560, 1047520, 713275394550715778319802418023468735560876032, 19806963883193208739010043904, 104, 61408,
  9007182074854400, 1152921496014807040, 147573917370944446464, 7890306461253730304, 17179835392, 2787571881499075797774052896007796375347200,
  1237938821800130672580354048, 383123885193474569774374055887950278561850630313328640, 524008, 33537768, 1046448, 1016, 24, 504, 457792, 14680032, 12574592,
  549755813824, 140736414117888, 7936, 356811880641193946689691826088336933575983104, 1125348137512960, 4277141376, 248, 48640,
  411374570054680591658929423644949621728584870917390821183922176, 4835702990227041035218944, 120, 8589934584, 261632, 2199023247360,
  2721885089993692897886287760060074426112, 24, 6228864, 10384593407414639918073416691740640, 6228864, 1044424, 398655360, 31745151725696, 8, 16328, 1952, 8,
  456, 134156032, 36, 4064, 4064, 104, 484, 65008, 8386568, 144114672678729728, 70368744168960, 17591682693120, 17179868864, 484, 34587645138138185600, 8164,
  65504, 590293839423849099264, 4503591037304448, 309182776060598402215280384, 532668352, 21778071482618506735861013308488957231104, 16328,
  79228162513074824341929064448, 1008, 1008, 1008, 34662321095378961161338743808, 16352, 2199023189888, 2194224446208, 9007182074854400, 1152921496014807040,
  147573917370944446464, 7890306461253730304, 17179835392, 2787571881499075797774052896007796375347200, 1237938821800130672580354048,
  383123885193474569774374055887950278561850630313328640, 4290768896, 33519488, 32696, 1073602816, 4194302, 504, 504, 103582791362410496,
  2417851639198471889600512, 2, 4080, 56, 504, 4080, 33554400, 2305825412699119296, 496, 8, 8589934528, 1056964592, 1032128, 132120064, 18887160055355137835008,
  0, 32, 16128, 4543259750641845459761594177158656, 268428272, 24, 64, 19342813112848872164551680, 64, 132120064, 8935141660702932864,
  89794636423602880087156592636474722530567799319756800, 12574592, 4294934272, 649037029945047576837886721114112, 16352, 4501336175669248, 3568, 30, 262080,
  79225895778352558100046659584, 158446644767534338890306928640, 4835702990227041035218944, 261632, 2199023247360, 2266699018289282147153920,
  148754255977818640873472, 17171475456, 928, 4835703260440209768046592, 2040, 7904, 15856, 24, 2040, 48640, 17996745120149504, 524224, 504, 16304, 16304,
  3114368, 248, 288230376143288320, 480, 56, 524224, 24, 16376, 16368, 192, 192, 192, 35764913150590976, 240, 240, 281337470646784, 4290768896, 196032, 1016,
  536543040, 1984, 8064, 103048806384, 34342829312, 4186048, 258016, 260013824, 274877644160, 1504, 2080760, 56, 30, 7936,
  21778061098346189844478291628122334298112, 2097120, 240, 457792, 524220, 24, 65264, 1073740800, 137403301872, 150525431606284996046848, 32192, 8384256,
  20282409471425404962397755244544, 17163084480, 224, 7696579557248, 224, 469761536, 1984, 48, 515848, 1984, 2064064, 1016, 1016, 48, 562948879675136,
  72057592963659776, 36893479342736111616, 123286018324422656, 4294958848, 10888952654262176519432384150372830132224, 131040, 19342794090620444689299456,
  374144419134252505651064520051920053992477580849152, 0, 18014381321090304, 130944, 2251799813668864, 34090744768, 962064154560, 8556375552, 2096608, 262112,
  10448029773009037967681152029858612457160704, 224, 182686308445276092278898780960839177993124249600, 224, 42524890909723710779775849120990470144,
  9007190629408768, 261632, 444288, 1048064, 4177344, 4160745472, 4398046510976, 1030792150528, 134217696, 1984, 128960, 75557859222245976505344, 32640,
  68719474688, 32744, 32752, 184149205606795480238948490449146349755637850570752, 5050176389969560855884357697536, 7904, 224, 0, 56, 2266735911759287759665152,
  523264, 4294961792, 224, 31457136, 248, 56, 2016, 240, 261952, 8796093022080, 134217696, 268172288, 56, 0, 248, 248, 0, 548648513024, 1073741792, 500, 520048,
  2147155456, 16360, 16360, 0, 0, 0, 0, 0, 0, 0, 0, 0, 0, 0, 0, 0, 0, 0, 0, 0, 0, 0, 0, 0, 0, 0, 0, 7] [(339, 1), (392, 2)] [(7, [7, 7, 0, 7]), (8, [7, 7, 0,
  7]), (59, [7, 7, 7]), (60, [7, 7, 7]), (158, [7, 7, 7, 0]), (159, [7, 7, 7, 0]), (181, [7, 7, 8, 7]), (182, [7, 7, 8, 7]), (196, [7]), (197, [7]), (229, [7,
  7, 7]), (230, [7, 7, 7]), (263, [7, 7, 0]), (264, [7, 7, 0]), (272, [7, 7]), (273, [7, 7]), (286, [0, 8, 8]), (287, [0, 8, 8]), (310, [7]), (311, [7]), (329,
  []), (330, []), (339, [8, 8, 8])] []
theorem pcOk (hooks : List Hook) : PcOk Tryz.prog (pc hooks) ∧ (pc hooks).hooks = hooks :=
  pcOk_of (by kernel_rfl) (by kernel_rfl) (by kernel_rfl) (by kernel_rfl) (by kernel_rfl)
theorem globals : Tryz.prog.globals.size = 4 := by kernel_rfl
/-- a hook out of its test, which looks at hooks that hold -/
theorem hook_of_test {hs : List Hook} (hh : ∀ h ∈ hs, HookOk Tryz.prog h) {h : Hook} (ht : hookB (pc hs) 1500 h = true) : HookOk Tryz.prog h :=
  hookB_ok (pcOk hs).1 (by rw [(pcOk hs).2]; exact hh) ht
def tl (t : Tr B) : Tr B := .nd t .none .lf
def tr (t : Tr B) : Tr B := .nd .lf .none t
def tn (t u : Tr B) : Tr B := .nd t .none u
def k1 : K := .h
def k2 : K := .o k1
def k3 : K := .i k1
def k4 : K := .o k2
def k5 : K := .i k2
def k6 : K := .o k3
def k7 : K := .i k3
def k8 : K := .o k4
def k9 : K := .i k4
def k10 : K := .o k5
def k11 : K := .i k5
def k12 : K := .o k6
def k13 : K := .i k6
def k14 : K := .o k7
def k15 : K := .i k7
def k17 : K := .i k8
def k18 : K := .o k9
def k20 : K := .o k10
def k21 : K := .i k10
def k23 : K := .i k11
def k24 : K := .o k12
def k25 : K := .i k12
def k26 : K := .o k13
def k27 : K := .i k13
def k30 : K := .o k15
def k34 : K := .o k17
def k35 : K := .i k17
def k37 : K := .i k18
def k43 : K := .i k21
def k51 : K := .i k25
def k53 : K := .i k26
def k54 : K := .o k27
def k61 : K := .i k30
def k69 : K := .i k34
def k71 : K := .i k35
def k74 : K := .o k37
def k75 : K := .i k37
def k87 : K := .i k43
def k103 : K := .i k51
def k106 : K := .o k53
def k107 : K := .i k53
def k108 : K := .o k54
def k109 : K := .i k54
def k122 : K := .o k61
def k139 : K := .i k69
def k142 : K := .o k71
def k143 : K := .i k71
def k149 : K := .i k74
def k150 : K := .o k75
def k174 : K := .o k87
def k207 : K := .i k103
def k212 : K := .o k106
def k215 : K := .i k107
def k216 : K := .o k108
def k217 : K := .i k108
def k218 : K := .o k109
def k219 : K := .i k109
def k245 : K := .i k122
def k278 : K := .o k139
def k284 : K := .o k142
def k287 : K := .i k143
def k299 : K := .i k149
def k300 : K := .o k150
def k301 : K := .i k150
def k349 : K := .i k174
def k415 : K := .i k207
def k424 : K := .o k212
def k425 : K := .i k212
def k431 : K := .i k215
def k432 : K := .o k216
def k433 : K := .i k216
def k434 : K := .o k217
def k436 : K := .o k218
def k437 : K := .i k218
def k438 : K := .o k219
def k439 : K := .i k219
def k490 : K := .o k245
def k556 : K := .o k278
def k568 : K := .o k284
def k569 : K := .i k284
def k574 : K := .o k287
def k598 : K := .o k299
def k599 : K := .i k299
def k600 : K := .o k300
def k602 : K := .o k301
def k699 : K := .i k349
def k830 : K := .o k415
def k849 : K := .i k424
def k850 : K := .o k425
def k862 : K := .o k431
def k863 : K := .i k431
def k864 : K := .o k432
def k865 : K := .i k432
def k866 : K := .o k433
def k868 : K := .o k434
def k872 : K := .o k436
def k874 : K := .o k437
def k876 : K := .o k438
def k877 : K := .i k438
def k878 : K := .o k439
def k981 : K := .i k490
def k1112 : K := .o k556
def k1136 : K := .o k568
def k1137 : K := .i k568
def k1138 : K := .o k569
def k1148 : K := .o k574
def k1196 : K := .o k598
def k1197 : K := .i k598
def k1198 : K := .o k599
def k1199 : K := .i k599
def k1200 : K := .o k600
def k1204 : K := .o k602
def k1205 : K := .i k602
def k1399 : K := .i k699
def k1660 : K := .o k830
def k1699 : K := .i k849
def k1700 : K := .o k850
def k1753 : K := .i k876
def k1754 : K := .o k877
def k1755 : K := .i k877
def k1756 : K := .o k878
def k1757 : K := .i k878
def k1962 : K := .o k981
def k1963 : K := .i k981
def k2224 : K := .o k1112
def k2273 : K := .i k1136
def k2274 : K := .o k1137
def k2275 : K := .i k1137
def k2276 : K := .o k1138
def k2277 : K := .i k1138
def k2296 : K := .o k1148
def k2393 : K := .i k1196
def k2394 : K := .o k1197
def k2395 : K := .i k1197
def k2396 : K := .o k1198
def k2397 : K := .i k1198
def k2398 : K := .o k1199
def k2399 : K := .i k1199
def k2401 : K := .i k1200
def k2408 : K := .o k1204
def k2410 : K := .o k1205
def k2798 : K := .o k1399
def k2799 : K := .i k1399
def k3321 : K := .i k1660
def k3399 : K := .i k1699
def k3400 : K := .o k1700
def k3401 : K := .i k1700
def k3507 : K := .i k1753
def k3509 : K := .i k1754
def k3510 : K := .o k1755
def k3511 : K := .i k1755
def k3512 : K := .o k1756
def k3513 : K := .i k1756
def k3514 : K := .o k1757
def k3924 : K := .o k1962
def k3925 : K := .i k1962
def k3926 : K := .o k1963
def k4449 : K := .i k2224
def k4547 : K := .i k2273
def k4548 : K := .o k2274
def k4551 : K := .i k2275
def k4552 : K := .o k2276
def k4554 : K := .o k2277
def k4555 : K := .i k2277
def k4593 : K := .i k2296
def k5597 : K := .i k2798
def k5598 : K := .o k2799
def k5599 : K := .i k2799
def k6643 : K := .i k3321
def k6799 : K := .i k3399
def k6801 : K := .i k3400
def k6802 : K := .o k3401
def k6803 : K := .i k3401
def k7014 : K := .o k3507
def k7018 : K := .o k3509
def k7020 : K := .o k3510
def k7023 : K := .i k3511
def k7024 : K := .o k3512
def k7027 : K := .i k3513
def k7029 : K := .i k3514
def k7848 : K := .o k3924
def k7849 : K := .i k3924
def k7850 : K := .o k3925
def k7851 : K := .i k3925
def k7852 : K := .o k3926
def k8899 : K := .i k4449
def k9094 : K := .o k4547
def k9096 : K := .o k4548
def k9102 : K := .o k4551
def k9105 : K := .i k4552
def k9108 : K := .o k4554
def k9110 : K := .o k4555
def k9111 : K := .i k4555
def k11194 : K := .o k5597
def k11197 : K := .i k5598
def k11199 : K := .i k5599
def k13286 : K := .o k6643
def k13599 : K := .i k6799
def k13602 : K := .o k6801
def k13604 : K := .o k6802
def k13605 : K := .i k6802
def k13606 : K := .o k6803
def k13607 : K := .i k6803
def k15696 : K := .o k7848
def k15699 : K := .i k7849
def k15701 : K := .i k7850
def k15702 : K := .o k7851
def k15703 : K := .i k7851
def k15704 : K := .o k7852
def k17799 : K := .i k8899
def hk0 : Hook := ⟨13, [(.ls 0 [(.nat .i64 5),(.sl k872 0 0 1 1),(.nat .i64 1),(.nat .i64 0),(.nat .i64 0),(.str []),(.nat .i64 0),(.nat .i64 0),(.nil 1),(.nat
  .i64 1),(.nat .i64 0),(.nat .i64 0),(.str []),(.nat .i64 0),(.nat .i64 0),(.nil 1)]),(.sl k864 0 0 3 3),(.sl k866 0 0 1 1)], ⟨(tn (tn (tn (.nd (.nd (tr (tr
  (tl (tr (.nd .lf (.row [(.nat .i64 1),(.nat .i64 2),(.nat .i64 2)] 3 3 false 0 0 0) .lf))))) (.row [(.nat .i64 1),(.sl k14 0 0 1 1),(.nat .i64 2),(.nat .i64
  2),(.nat .i64 2),(.str []),(.nat .i64 0),(.nat .i64 0),(.nil 1),(.nat .i64 2),(.nat .i64 3),(.nat .i64 3),(.str []),(.nat .i64 0),(.nat .i64 0),(.nil 1)] 16
  28 false 0 0 0) .lf) (.row [(.nat .i64 2),(.nat .i64 1),(.nat .i64 1),(.str []),(.nat .i64 0),(.nat .i64 0),(.nil 1)] 7 24 false 0 0 0) (.nd (tr (tr (tl (tr
  (.nd .lf (.row [(.nat .i64 6),(.nat .i64 0),(.nat .i64 0),(.str []),(.nat .i64 0),(.nat .i64 0),(.sl k868 0 0 2 2),(.bool false),(.sl k863 0 0 1 1),(.nil 1)]
  10 32 false 0 0 0) .lf))))) (.row [(.nat .i64 3)] 1 3 false 0 0 0) .lf)) (tl (.nd (tr (tr (tl (tr (.nd .lf (.row [(.nat .i64 5),(.nat .i64 0),(.nat .i64
  0),(.str []),(.nat .i64 0),(.nat .i64 0),(.sl k862 0 0 2 2),(.nat .i64 2),(.nat .i64 2),(.nat .i64 2),(.str []),(.nat .i64 0),(.nat .i64 0),(.nil 1)] 14 24
  false 0 0 0) .lf))))) (.row [(.nat .i64 2),(.nat .i64 1),(.nat .i64 1),(.str []),(.nat .i64 0),(.nat .i64 0),(.nil 1),(.bool false),(.sl k17 0 0 1 1),(.nil
  1)] 10 32 false 0 0 0) .lf))) (tn (.nd (tl (tr (tr (tl (tr (.nd .lf (.row [(.sl k865 0 0 2 2)] 1 30 false 0 0 0) .lf)))))) (.row [(.nat .i64 2),(.nat .i64
  3),(.nat .i64 3),(.str []),(.nat .i64 0),(.nat .i64 0),(.nil 1)] 7 24 false 0 0 0) .lf) (.nd (.nd .lf (.row [(.nat .i64 1),(.sl k20 0 0 1 1),(.nat .i64
  2),(.nat .i64 1),(.nat .i64 1),(.str []),(.nat .i64 0),(.nat .i64 0),(.nil 1),(.nat .i64 1),(.nat .i64 0),(.nat .i64 0),(.str []),(.nat .i64 0),(.nat .i64
  0),(.nil 1)] 16 28 false 0 0 0) .lf) (.row [(.nat .i64 2),(.nat .i64 1),(.nat .i64 1),(.str []),(.nat .i64 0),(.nat .i64 0),(.nil 1),(.bool false),(.sl k11 0
  0 1 1),(.nil 1)] 10 32 false 0 0 0) (tr (tl (tr (tl (tr (.nd .lf (.row [(.nat .i64 2),(.nat .i64 1),(.nat .i64 1),(.str []),(.nat .i64 0),(.nat .i64 0),(.nil
  1),(.nat .i64 2),(.nat .i64 2),(.nat .i64 2),(.str []),(.nat .i64 0),(.nat .i64 0),(.nil 1)] 14 24 false 0 0 0) .lf))))))))) (tn (tl (.nd (.nd (tr (tr (tl (tr
  (.nd .lf (.row [(.nat .i64 4),(.nat .i64 4)] 2 3 false 0 0 0) .lf))))) (.row [(.nat .i64 4)] 1 3 false 0 0 0) .lf) (.row [(.nat .i64 2),(.nat .i64 2),(.nat
  .i64 2),(.str []),(.nat .i64 0),(.nat .i64 0),(.nil 1)] 7 24 false 0 0 0) (.nd .lf (.row [(.nat .i64 2),(.nat .i64 1),(.nat .i64 1),(.str []),(.nat .i64
  0),(.nat .i64 0),(.nil 1),(.bool true),(.sl k23 0 0 1 1),(.sl k24 0 0 1 1)] 10 32 false 0 0 0) .lf))) (tn (.nd .lf (.row [(.nat .i64 4)] 1 3 false 0 0 0) (.nd
  .lf (.row [(.nat .i64 1),(.sl k25 0 0 1 1),(.nat .i64 1),(.nat .i64 0),(.nat .i64 0),(.str []),(.nat .i64 0),(.nat .i64 0),(.nil 1),(.nat .i64 1),(.nat .i64
  0),(.nat .i64 0),(.str []),(.nat .i64 0),(.nat .i64 0),(.nil 1)] 16 28 false 0 0 0) .lf)) (tn (.nd .lf (.row [(.nat .i64 2)] 1 3 false 0 0 0) .lf) (tr (tl (tr
  (tl (tr (.nd .lf (.row [(.nat .i64 4)] 1 3 false 0 0 0) .lf)))))))))), k874⟩, (.bool true), ⟨(tn (tn (tn (.nd (.nd .lf (.row [(.nat .i64 1),(.sl k14 0 0 1
  1),(.nat .i64 2),(.nat .i64 2),(.nat .i64 2),(.str []),(.nat .i64 0),(.nat .i64 0),(.nil 1),(.nat .i64 2),(.nat .i64 3),(.nat .i64 3),(.str []),(.nat .i64
  0),(.nat .i64 0),(.nil 1)] 16 28 false 0 0 0) .lf) (.row [(.nat .i64 2),(.nat .i64 1),(.nat .i64 1),(.str []),(.nat .i64 0),(.nat .i64 0),(.nil 1)] 7 24 false
  0 0 0) (.nd .lf (.row [(.nat .i64 3)] 1 3 false 0 0 0) .lf)) (tl (.nd .lf (.row [(.nat .i64 2),(.nat .i64 1),(.nat .i64 1),(.str []),(.nat .i64 0),(.nat .i64
  0),(.nil 1),(.bool false),(.sl k17 0 0 1 1),(.nil 1)] 10 32 false 0 0 0) .lf))) (tn (.nd .lf (.row [(.nat .i64 2),(.nat .i64 3),(.nat .i64 3),(.str []),(.nat
  .i64 0),(.nat .i64 0),(.nil 1)] 7 24 false 0 0 0) .lf) (.nd (.nd .lf (.row [(.nat .i64 1),(.sl k20 0 0 1 1),(.nat .i64 2),(.nat .i64 1),(.nat .i64 1),(.str
  []),(.nat .i64 0),(.nat .i64 0),(.nil 1),(.nat .i64 1),(.nat .i64 0),(.nat .i64 0),(.str []),(.nat .i64 0),(.nat .i64 0),(.nil 1)] 16 28 false 0 0 0) .lf)
  (.row [(.nat .i64 2),(.nat .i64 1),(.nat .i64 1),(.str []),(.nat .i64 0),(.nat .i64 0),(.nil 1),(.bool false),(.sl k11 0 0 1 1),(.nil 1)] 10 32 false 0 0 0)
  .lf))) (tn (tl (.nd (.nd .lf (.row [(.nat .i64 4)] 1 3 false 0 0 0) .lf) (.row [(.nat .i64 2),(.nat .i64 2),(.nat .i64 2),(.str []),(.nat .i64 0),(.nat .i64
  0),(.nil 1)] 7 24 false 0 0 0) (.nd .lf (.row [(.nat .i64 2),(.nat .i64 1),(.nat .i64 1),(.str []),(.nat .i64 0),(.nat .i64 0),(.nil 1),(.bool true),(.sl k23
  0 0 1 1),(.sl k24 0 0 1 1)] 10 32 false 0 0 0) .lf))) (tn (.nd .lf (.row [(.nat .i64 4)] 1 3 false 0 0 0) (.nd .lf (.row [(.nat .i64 1),(.sl k25 0 0 1
  1),(.nat .i64 1),(.nat .i64 0),(.nat .i64 0),(.str []),(.nat .i64 0),(.nat .i64 0),(.nil 1),(.nat .i64 1),(.nat .i64 0),(.nat .i64 0),(.str []),(.nat .i64
  0),(.nat .i64 0),(.nil 1)] 16 28 false 0 0 0) .lf)) (tl (.nd .lf (.row [(.nat .i64 2)] 1 3 false 0 0 0) .lf))))), k2393⟩⟩
def hk1 : Hook := ⟨13, [(.ls 0 [(.nat .i64 5),(.sl k2408 0 0 2 2),(.nat .i64 1),(.nat .i64 0),(.nat .i64 0),(.str []),(.nat .i64 0),(.nat .i64 0),(.nil 1),(.nat
  .i64 1),(.nat .i64 0),(.nat .i64 0),(.str []),(.nat .i64 0),(.nat .i64 0),(.nil 1)]),(.sl k2397 0 0 3 3),(.sl k2399 0 0 1 1)], ⟨(tn (tn (tn (.nd (.nd .lf
  (.row [(.nat .i64 1),(.sl k14 0 0 1 1),(.nat .i64 2),(.nat .i64 2),(.nat .i64 2),(.str []),(.nat .i64 0),(.nat .i64 0),(.nil 1),(.nat .i64 2),(.nat .i64
  3),(.nat .i64 3),(.str []),(.nat .i64 0),(.nat .i64 0),(.nil 1)] 16 28 false 0 0 0) .lf) (.row [(.nat .i64 2),(.nat .i64 1),(.nat .i64 1),(.str []),(.nat .i64
  0),(.nat .i64 0),(.nil 1)] 7 24 false 0 0 0) (.nd (tr (tr (tl (tr (tl (tl (.nd .lf (.row [(.nat .i64 6),(.nat .i64 0),(.nat .i64 0),(.str []),(.nat .i64
  0),(.nat .i64 0),(.sl k2401 0 0 2 2),(.bool false),(.sl k2394 0 0 1 1),(.nil 1),(.nat .i64 5),(.nat .i64 0),(.nat .i64 0),(.str []),(.nat .i64 0),(.nat .i64
  0),(.sl k2395 0 0 2 2),(.bool false),(.sl k2396 0 0 1 1),(.nil 1)] 20 32 false 0 0 0) .lf))))))) (.row [(.nat .i64 3)] 1 3 false 0 0 0) .lf)) (tn (.nd .lf
  (.row [(.nat .i64 2),(.nat .i64 1),(.nat .i64 1),(.str []),(.nat .i64 0),(.nat .i64 0),(.nil 1),(.bool false),(.sl k17 0 0 1 1),(.nil 1)] 10 32 false 0 0 0)
  .lf) (tr (tl (tr (tl (tr (tl (tl (.nd .lf (.row [(.nat .i64 5)] 1 3 false 0 0 0) .lf)))))))))) (tn (tr (tr (tl (tr (tl (tr (tl (tl (.nd .lf (.row [(.nat .i64
  4)] 1 3 false 0 0 0) .lf))))))))) (.nd (.nd .lf (.row [(.nat .i64 1),(.sl k20 0 0 1 1),(.nat .i64 2),(.nat .i64 1),(.nat .i64 1),(.str []),(.nat .i64 0),(.nat
  .i64 0),(.nil 1),(.nat .i64 1),(.nat .i64 0),(.nat .i64 0),(.str []),(.nat .i64 0),(.nat .i64 0),(.nil 1)] 16 28 false 0 0 0) .lf) (.row [(.nat .i64 2),(.nat
  .i64 1),(.nat .i64 1),(.str []),(.nat .i64 0),(.nat .i64 0),(.nil 1),(.bool false),(.sl k11 0 0 1 1),(.nil 1)] 10 32 false 0 0 0) (tr (tl (tr (tl (tr (tl (tl
  (.nd .lf (.row [(.nat .i64 4),(.nat .i64 5)] 2 3 false 0 0 0) .lf))))))))))) (tn (tn (tn (.nd (tr (tr (tl (tr (tl (tl (.nd .lf (.row [(.nat .i64 2),(.nat .i64
  1),(.nat .i64 1),(.str []),(.nat .i64 0),(.nat .i64 0),(.nil 1),(.nat .i64 5),(.nat .i64 0),(.nat .i64 0),(.str []),(.nat .i64 0),(.nat .i64 0),(.sl k2393 0 0
  2 2)] 14 24 false 0 0 0) .lf))))))) (.row [(.nat .i64 4)] 1 3 false 0 0 0) .lf) (.nd .lf (.row [(.nat .i64 2),(.nat .i64 1),(.nat .i64 1),(.str []),(.nat .i64
  0),(.nat .i64 0),(.nil 1),(.bool true),(.sl k23 0 0 1 1),(.sl k24 0 0 1 1)] 10 32 false 0 0 0) (tl (tr (tl (tr (tl (tl (.nd .lf (.row [(.nat .i64 2),(.nat
  .i64 1),(.nat .i64 1),(.str []),(.nat .i64 0),(.nat .i64 0),(.nil 1),(.nat .i64 2),(.nat .i64 2),(.nat .i64 2),(.str []),(.nat .i64 0),(.nat .i64 0),(.nil 1)]
  14 24 false 0 0 0) .lf))))))))) (tr (tr (tl (tr (tl (tr (tl (tl (.nd .lf (.row [(.nat .i64 1),(.nat .i64 2),(.nat .i64 3)] 3 3 false 0 0 0) .lf)))))))))) (tn
  (.nd .lf (.row [(.nat .i64 4)] 1 3 false 0 0 0) (.nd .lf (.row [(.nat .i64 1),(.sl k25 0 0 1 1),(.nat .i64 1),(.nat .i64 0),(.nat .i64 0),(.str []),(.nat .i64
  0),(.nat .i64 0),(.nil 1),(.nat .i64 1),(.nat .i64 0),(.nat .i64 0),(.str []),(.nat .i64 0),(.nat .i64 0),(.nil 1)] 16 28 false 0 0 0) (tl (tr (tl (tr (tl (tl
  (.nd .lf (.row [(.nat .i64 2),(.nat .i64 2),(.nat .i64 2),(.str []),(.nat .i64 0),(.nat .i64 0),(.nil 1),(.nat .i64 2),(.nat .i64 3),(.nat .i64 3),(.str
  []),(.nat .i64 0),(.nat .i64 0),(.nil 1)] 14 24 false 0 0 0) .lf))))))))) (tn (.nd .lf (.row [(.nat .i64 2)] 1 3 false 0 0 0) .lf) (tr (tl (tr (tl (tr (tl (tl
  (.nd .lf (.row [(.sl k2398 0 0 2 2)] 1 30 false 0 0 0) .lf)))))))))))), k2410⟩, (.bool true), ⟨(tn (tn (tn (.nd (.nd .lf (.row [(.nat .i64 1),(.sl k14 0 0 1
  1),(.nat .i64 2),(.nat .i64 2),(.nat .i64 2),(.str []),(.nat .i64 0),(.nat .i64 0),(.nil 1),(.nat .i64 2),(.nat .i64 3),(.nat .i64 3),(.str []),(.nat .i64
  0),(.nat .i64 0),(.nil 1)] 16 28 false 0 0 0) .lf) (.row [(.nat .i64 2),(.nat .i64 1),(.nat .i64 1),(.str []),(.nat .i64 0),(.nat .i64 0),(.nil 1)] 7 24 false
  0 0 0) (.nd .lf (.row [(.nat .i64 3)] 1 3 false 0 0 0) .lf)) (tl (.nd .lf (.row [(.nat .i64 2),(.nat .i64 1),(.nat .i64 1),(.str []),(.nat .i64 0),(.nat .i64
  0),(.nil 1),(.bool false),(.sl k17 0 0 1 1),(.nil 1)] 10 32 false 0 0 0) .lf))) (tr (.nd (.nd .lf (.row [(.nat .i64 1),(.sl k20 0 0 1 1),(.nat .i64 2),(.nat
  .i64 1),(.nat .i64 1),(.str []),(.nat .i64 0),(.nat .i64 0),(.nil 1),(.nat .i64 1),(.nat .i64 0),(.nat .i64 0),(.str []),(.nat .i64 0),(.nat .i64 0),(.nil 1)]
  16 28 false 0 0 0) .lf) (.row [(.nat .i64 2),(.nat .i64 1),(.nat .i64 1),(.str []),(.nat .i64 0),(.nat .i64 0),(.nil 1),(.bool false),(.sl k11 0 0 1 1),(.nil
  1)] 10 32 false 0 0 0) .lf))) (tn (tl (tn (.nd .lf (.row [(.nat .i64 4)] 1 3 false 0 0 0) .lf) (.nd .lf (.row [(.nat .i64 2),(.nat .i64 1),(.nat .i64 1),(.str
  []),(.nat .i64 0),(.nat .i64 0),(.nil 1),(.bool true),(.sl k23 0 0 1 1),(.sl k24 0 0 1 1)] 10 32 false 0 0 0) .lf))) (tn (.nd .lf (.row [(.nat .i64 4)] 1 3
  false 0 0 0) (.nd .lf (.row [(.nat .i64 1),(.sl k25 0 0 1 1),(.nat .i64 1),(.nat .i64 0),(.nat .i64 0),(.str []),(.nat .i64 0),(.nat .i64 0),(.nil 1),(.nat
  .i64 1),(.nat .i64 0),(.nat .i64 0),(.str []),(.nat .i64 0),(.nat .i64 0),(.nil 1)] 16 28 false 0 0 0) .lf)) (tl (.nd .lf (.row [(.nat .i64 2)] 1 3 false 0 0
  0) .lf))))), k4593⟩⟩
def hk2 : Hook := ⟨19, [(.ls 0 [(.nat .i64 1),(.sl k7027 0 0 1 1),(.nat .i64 1),(.nat .i64 0),(.nat .i64 0),(.str []),(.nat .i64 0),(.nat .i64 0),(.nil 1),(.nat
  .i64 1),(.nat .i64 0),(.nat .i64 0),(.str []),(.nat .i64 0),(.nat .i64 0),(.nil 1)]),(.nat .i64 5),(.sl k7023 0 0 3 3),(.nat .i64 9)], ⟨(tn (tn (tn (tl (tr
  (tr (tr (tl (tr (tr (tl (tr (.nd .lf (.row [(.nat .i64 4)] 1 3 false 0 0 0) .lf)))))))))) (tr (tl (tr (tr (tl (tr (tr (tl (tr (.nd .lf (.row [(.nat .i64
  5),(.nat .i64 0),(.nat .i64 0),(.str []),(.nat .i64 0),(.nat .i64 0),(.sl k7014 0 0 2 2),(.nat .i64 5),(.nat .i64 0),(.nat .i64 0),(.str []),(.nat .i64
  0),(.nat .i64 0),(.sl k7018 0 0 2 2)] 14 24 false 0 0 0) .lf))))))))))) (tn (tr (tl (tr (tr (tl (tr (tr (tl (tr (.nd .lf (.row [(.nat .i64 2),(.nat .i64
  2),(.nat .i64 2),(.str []),(.nat .i64 0),(.nat .i64 0),(.nil 1),(.nat .i64 2),(.nat .i64 3),(.nat .i64 3),(.str []),(.nat .i64 0),(.nat .i64 0),(.nil 1)] 14
  24 false 0 0 0) .lf)))))))))) (tn (tl (tr (tr (tl (tr (tr (tl (tr (.nd .lf (.row [(.nat .i64 2),(.nat .i64 1),(.nat .i64 1),(.str []),(.nat .i64 0),(.nat .i64
  0),(.nil 1),(.nat .i64 2),(.nat .i64 2),(.nat .i64 2),(.str []),(.nat .i64 0),(.nat .i64 0),(.nil 1)] 14 24 false 0 0 0) .lf))))))))) (tl (tr (tr (tl (tr (tr
  (tl (tr (.nd .lf (.row [(.nat .i64 6),(.nat .i64 0),(.nat .i64 0),(.str []),(.nat .i64 0),(.nat .i64 0),(.sl k7020 0 0 2 2)] 7 24 false 0 0 0) .lf))))))))))))
  (tr (tn (tl (tr (tr (tr (tl (tr (tr (tl (tr (.nd .lf (.row [(.nat .i64 6),(.nat .i64 0),(.nat .i64 0),(.str []),(.nat .i64 0),(.nat .i64 0),(.sl k7020 0 0 2
  2),(.bool false),(.sl k7024 0 0 1 1),(.nil 1)] 10 32 false 0 0 0) .lf)))))))))) (tr (tl (tr (tr (tl (tr (tr (tl (tr (.nd .lf (.row [(.nat .i64 1),(.nat .i64
  2),(.nat .i64 3)] 3 3 false 0 0 0) .lf))))))))))))), k7029⟩, (.ls 1 [(.so k9096 2 0 2 0),(.nat .i64 0)]), ⟨(tn (tn (tn (tr (tl (tl (tl (tr (tr (tr (tl (tl (tl
  (.nd .lf (.row [(.so k9094 3 0 1 0),(.so k9102 3 0 1 0)] 2 55 true 0 0 0) .lf))))))))))) (tr (tl (tr (tr (tl (tr (tr (tl (tr (.nd .lf (.row [(.nat .i64
  5),(.nat .i64 0),(.nat .i64 0),(.str []),(.nat .i64 0),(.nat .i64 0),(.sl k7014 0 0 2 2),(.nat .i64 5),(.nat .i64 0),(.nat .i64 0),(.str []),(.nat .i64
  0),(.nat .i64 0),(.sl k7018 0 0 2 2)] 14 24 false 0 0 0) .lf))))))))))) (tn (tr (tl (tr (tr (tl (tr (tr (tl (tr (.nd .lf (.row [(.nat .i64 2),(.nat .i64
  2),(.nat .i64 2),(.str []),(.nat .i64 0),(.nat .i64 0),(.nil 1),(.nat .i64 2),(.nat .i64 3),(.nat .i64 3),(.str []),(.nat .i64 0),(.nat .i64 0),(.nil 1)] 14
  24 false 0 0 0) .lf)))))))))) (tn (tl (tn (tl (tr (tr (tr (tl (tl (tl (.nd .lf (.row [(.nat .i64 0),(.nat .i64 2),(.nat .i64 0)] 3 60 true 0 0 0) .lf))))))))
  (tr (tl (tr (tr (tl (tr (.nd .lf (.row [(.nat .i64 2),(.nat .i64 1),(.nat .i64 1),(.str []),(.nat .i64 0),(.nat .i64 0),(.nil 1),(.nat .i64 2),(.nat .i64
  2),(.nat .i64 2),(.str []),(.nat .i64 0),(.nat .i64 0),(.nil 1)] 14 24 false 0 0 0) .lf))))))))) (tl (tn (tl (tr (tr (tr (tl (tl (tl (.nd .lf (.row [(.nat
  .i64 1),(.nat .i64 3),(.nat .i64 0)] 3 60 true 0 0 0) .lf)))))))) (tr (tl (tr (tr (tl (tr (.nd .lf (.row [(.nat .i64 6),(.nat .i64 0),(.nat .i64 0),(.str
  []),(.nat .i64 0),(.nat .i64 0),(.sl k7020 0 0 2 2)] 7 24 false 0 0 0) .lf)))))))))))) (tr (tr (tr (tl (tr (tr (tl (tr (tr (tl (tr (.nd .lf (.row [(.nat .i64
  1),(.nat .i64 2),(.nat .i64 3)] 3 3 false 0 0 0) .lf))))))))))))), k9105⟩⟩
def hk3 : Hook := ⟨26, [(.ls 0 [(.nat .i64 1),(.sl k9108 0 0 1 1),(.nat .i64 1),(.nat .i64 0),(.nat .i64 0),(.str []),(.nat .i64 0),(.nat .i64 0),(.nil 1),(.nat
  .i64 1),(.nat .i64 0),(.nat .i64 0),(.str []),(.nat .i64 0),(.nat .i64 0),(.nil 1)]),(.nat .i64 5),(.sl k7023 0 0 3 3),(.sl k9110 0 0 2 2)], ⟨(tn (tn (tn (tr
  (tl (tl (tl (tr (tr (tr (tl (tl (tl (.nd .lf (.row [(.so k9094 3 0 1 0),(.so k9102 3 0 1 0)] 2 55 true 0 0 0) .lf))))))))))) (tn (tr (tl (tl (tr (tr (tr (tl
  (tl (tl (.nd .lf (.row [(.nat .i64 6),(.nat .i64 0),(.nat .i64 0),(.str []),(.nat .i64 0),(.nat .i64 0),(.sl k7020 0 0 2 2),(.bool false),(.sl k9105 0 0 1
  1),(.nil 1)] 10 32 false 0 0 0) .lf)))))))))) (tl (tr (tr (tl (tr (tr (tl (tr (.nd .lf (.row [(.nat .i64 5),(.nat .i64 0),(.nat .i64 0),(.str []),(.nat .i64
  0),(.nat .i64 0),(.sl k7014 0 0 2 2),(.nat .i64 5),(.nat .i64 0),(.nat .i64 0),(.str []),(.nat .i64 0),(.nat .i64 0),(.sl k7018 0 0 2 2)] 14 24 false 0 0 0)
  .lf))))))))))) (tn (tr (tl (tr (tr (tl (tr (tr (tl (tr (.nd .lf (.row [(.nat .i64 2),(.nat .i64 2),(.nat .i64 2),(.str []),(.nat .i64 0),(.nat .i64 0),(.nil
  1),(.nat .i64 2),(.nat .i64 3),(.nat .i64 3),(.str []),(.nat .i64 0),(.nat .i64 0),(.nil 1)] 14 24 false 0 0 0) .lf)))))))))) (tn (tn (tn (tl (tr (tr (tr (tl
  (tl (tl (.nd .lf (.row [(.nat .i64 0),(.nat .i64 2),(.nat .i64 0)] 3 60 true 0 0 0) .lf)))))))) (tr (tl (tr (tr (tl (tr (.nd .lf (.row [(.nat .i64 2),(.nat
  .i64 1),(.nat .i64 1),(.str []),(.nat .i64 0),(.nat .i64 0),(.nil 1),(.nat .i64 2),(.nat .i64 2),(.nat .i64 2),(.str []),(.nat .i64 0),(.nat .i64 0),(.nil 1)]
  14 24 false 0 0 0) .lf)))))))) (tl (tl (tr (tr (tr (tl (tl (tl (.nd .lf (.row [(.nat .i64 4),(.nat .i64 3)] 2 3 false 0 0 0) .lf)))))))))) (tl (tn (tl (tr (tr
  (tr (tl (tl (tl (.nd .lf (.row [(.nat .i64 1),(.nat .i64 3),(.nat .i64 0)] 3 60 true 0 0 0) .lf)))))))) (tr (tl (tr (tr (tl (tr (.nd .lf (.row [(.nat .i64
  6),(.nat .i64 0),(.nat .i64 0),(.str []),(.nat .i64 0),(.nat .i64 0),(.sl k7020 0 0 2 2)] 7 24 false 0 0 0) .lf)))))))))))) (tn (tl (tl (tr (tl (tl (tr (tr
  (tr (tl (tl (tl (.nd .lf (.row [(.nat .i64 4)] 1 3 false 0 0 0) .lf)))))))))))) (tr (tr (tl (tr (tr (tl (tr (tr (tl (tr (.nd .lf (.row [(.nat .i64 1),(.nat
  .i64 2),(.nat .i64 3)] 3 3 false 0 0 0) .lf))))))))))))), k9111⟩, (.ls 1 [(.bool true),(.nat .i64 0)]), ⟨(tn (tn (tn (tr (tl (tl (tl (tr (tr (tr (tl (tl (tl
  (.nd .lf (.row [(.so k9094 3 0 1 0),(.so k9102 3 0 1 0)] 2 55 true 0 0 0) .lf))))))))))) (tr (tl (tr (tr (tl (tr (tr (tl (tr (.nd .lf (.row [(.nat .i64
  5),(.nat .i64 0),(.nat .i64 0),(.str []),(.nat .i64 0),(.nat .i64 0),(.sl k7014 0 0 2 2),(.nat .i64 5),(.nat .i64 0),(.nat .i64 0),(.str []),(.nat .i64
  0),(.nat .i64 0),(.sl k7018 0 0 2 2)] 14 24 false 0 0 0) .lf))))))))))) (tn (tr (tl (tr (tr (tl (tr (tr (tl (tr (.nd .lf (.row [(.nat .i64 2),(.nat .i64
  2),(.nat .i64 2),(.str []),(.nat .i64 0),(.nat .i64 0),(.nil 1),(.nat .i64 2),(.nat .i64 3),(.nat .i64 3),(.str []),(.nat .i64 0),(.nat .i64 0),(.nil 1)] 14
  24 false 0 0 0) .lf)))))))))) (tn (tl (tn (tl (tr (tr (tr (tl (tl (tl (.nd .lf (.row [(.nat .i64 0),(.nat .i64 2),(.nat .i64 0)] 3 60 true 0 0 0) .lf))))))))
  (tr (tl (tr (tr (tl (tr (.nd .lf (.row [(.nat .i64 2),(.nat .i64 1),(.nat .i64 1),(.str []),(.nat .i64 0),(.nat .i64 0),(.nil 1),(.nat .i64 2),(.nat .i64
  2),(.nat .i64 2),(.str []),(.nat .i64 0),(.nat .i64 0),(.nil 1)] 14 24 false 0 0 0) .lf))))))))) (tl (tn (tl (tr (tr (tr (tl (tl (tl (.nd .lf (.row [(.nat
  .i64 1),(.nat .i64 3),(.nat .i64 0)] 3 60 true 0 0 0) .lf)))))))) (tr (tl (tr (tr (tl (tr (.nd .lf (.row [(.nat .i64 6),(.nat .i64 0),(.nat .i64 0),(.str
  []),(.nat .i64 0),(.nat .i64 0),(.sl k7020 0 0 2 2)] 7 24 false 0 0 0) .lf)))))))))))) (tr (tr (tr (tl (tr (tr (tl (tr (tr (tl (tr (.nd .lf (.row [(.nat .i64
  1),(.nat .i64 2),(.nat .i64 3)] 3 3 false 0 0 0) .lf))))))))))))), k11194⟩⟩
def hk4 : Hook := ⟨26, [(.ls 0 [(.nat .i64 1),(.sl k11197 0 0 1 1),(.nat .i64 1),(.nat .i64 0),(.nat .i64 0),(.str []),(.nat .i64 0),(.nat .i64 0),(.nil
  1),(.nat .i64 1),(.nat .i64 0),(.nat .i64 0),(.str []),(.nat .i64 0),(.nat .i64 0),(.nil 1)]),(.nat .i64 5),(.sl k7023 0 0 3 3),(.sl k7023 0 0 3 3)], ⟨(tn (tn
  (tn (tr (tl (tl (tl (tr (tr (tr (tl (tl (tl (.nd .lf (.row [(.so k9094 3 0 1 0),(.so k9102 3 0 1 0)] 2 55 true 0 0 0) .lf))))))))))) (tr (tl (tr (tr (tl (tr
  (tr (tl (tr (.nd .lf (.row [(.nat .i64 5),(.nat .i64 0),(.nat .i64 0),(.str []),(.nat .i64 0),(.nat .i64 0),(.sl k7014 0 0 2 2),(.nat .i64 5),(.nat .i64
  0),(.nat .i64 0),(.str []),(.nat .i64 0),(.nat .i64 0),(.sl k7018 0 0 2 2)] 14 24 false 0 0 0) .lf))))))))))) (tn (tr (tn (tr (tr (tl (tr (tr (tl (tr (.nd .lf
  (.row [(.nat .i64 2),(.nat .i64 2),(.nat .i64 2),(.str []),(.nat .i64 0),(.nat .i64 0),(.nil 1),(.nat .i64 2),(.nat .i64 3),(.nat .i64 3),(.str []),(.nat .i64
  0),(.nat .i64 0),(.nil 1)] 14 24 false 0 0 0) .lf)))))))) (tr (tl (tr (tr (tr (tl (tr (tl (.nd .lf (.row [(.nat .i64 4)] 1 3 false 0 0 0) .lf))))))))))) (tn
  (tl (tn (tl (tr (tr (tr (tl (tl (tl (.nd .lf (.row [(.nat .i64 0),(.nat .i64 2),(.nat .i64 0)] 3 60 true 0 0 0) .lf)))))))) (tr (tl (tr (tr (tl (tr (.nd .lf
  (.row [(.nat .i64 2),(.nat .i64 1),(.nat .i64 1),(.str []),(.nat .i64 0),(.nat .i64 0),(.nil 1),(.nat .i64 2),(.nat .i64 2),(.nat .i64 2),(.str []),(.nat .i64
  0),(.nat .i64 0),(.nil 1)] 14 24 false 0 0 0) .lf))))))))) (tl (tn (tl (tr (tr (tr (tl (tl (tl (.nd .lf (.row [(.nat .i64 1),(.nat .i64 3),(.nat .i64 0)] 3 60
  true 0 0 0) .lf)))))))) (tr (tl (tr (tr (tl (tr (.nd .lf (.row [(.nat .i64 6),(.nat .i64 0),(.nat .i64 0),(.str []),(.nat .i64 0),(.nat .i64 0),(.sl k7020 0 0
  2 2)] 7 24 false 0 0 0) .lf)))))))))))) (tn (tr (tr (tr (tr (tl (tr (tr (tr (tl (tr (tl (.nd .lf (.row [(.nat .i64 6),(.nat .i64 0),(.nat .i64 0),(.str
  []),(.nat .i64 0),(.nat .i64 0),(.sl k7020 0 0 2 2),(.bool false),(.sl k11194 0 0 1 1),(.nil 1)] 10 32 false 0 0 0) .lf)))))))))))) (tr (tr (tl (tr (tr (tl
  (tr (tr (tl (tr (.nd .lf (.row [(.nat .i64 1),(.nat .i64 2),(.nat .i64 3)] 3 3 false 0 0 0) .lf))))))))))))), k11199⟩, (.ls 1 [(.bool false),(.nat .i64 0)]),
  ⟨(tn (tn (tn (tr (tl (tl (tl (tr (tr (tr (tl (tl (tl (.nd .lf (.row [(.so k9094 3 0 1 0),(.so k9102 3 0 1 0)] 2 55 true 0 0 0) .lf))))))))))) (tr (tl (tr (tr
  (tl (tr (tr (tl (tr (.nd .lf (.row [(.nat .i64 5),(.nat .i64 0),(.nat .i64 0),(.str []),(.nat .i64 0),(.nat .i64 0),(.sl k7014 0 0 2 2),(.nat .i64 5),(.nat
  .i64 0),(.nat .i64 0),(.str []),(.nat .i64 0),(.nat .i64 0),(.sl k7018 0 0 2 2)] 14 24 false 0 0 0) .lf))))))))))) (tn (tr (tl (tr (tr (tl (tr (tr (tl (tr
  (.nd .lf (.row [(.nat .i64 2),(.nat .i64 2),(.nat .i64 2),(.str []),(.nat .i64 0),(.nat .i64 0),(.nil 1),(.nat .i64 2),(.nat .i64 3),(.nat .i64 3),(.str
  []),(.nat .i64 0),(.nat .i64 0),(.nil 1)] 14 24 false 0 0 0) .lf)))))))))) (tn (tl (tn (tl (tr (tr (tr (tl (tl (tl (.nd .lf (.row [(.nat .i64 0),(.nat .i64
  2),(.nat .i64 0)] 3 60 true 0 0 0) .lf)))))))) (tr (tl (tr (tr (tl (tr (.nd .lf (.row [(.nat .i64 2),(.nat .i64 1),(.nat .i64 1),(.str []),(.nat .i64 0),(.nat
  .i64 0),(.nil 1),(.nat .i64 2),(.nat .i64 2),(.nat .i64 2),(.str []),(.nat .i64 0),(.nat .i64 0),(.nil 1)] 14 24 false 0 0 0) .lf))))))))) (tl (tn (tl (tr (tr
  (tr (tl (tl (tl (.nd .lf (.row [(.nat .i64 1),(.nat .i64 3),(.nat .i64 0)] 3 60 true 0 0 0) .lf)))))))) (tr (tl (tr (tr (tl (tr (.nd .lf (.row [(.nat .i64
  6),(.nat .i64 0),(.nat .i64 0),(.str []),(.nat .i64 0),(.nat .i64 0),(.sl k7020 0 0 2 2)] 7 24 false 0 0 0) .lf)))))))))))) (tr (tr (tr (tl (tr (tr (tl (tr
  (tr (tl (tr (.nd .lf (.row [(.nat .i64 1),(.nat .i64 2),(.nat .i64 3)] 3 3 false 0 0 0) .lf))))))))))))), k13286⟩⟩
def hk5 : Hook := ⟨13, [(.ls 0 [(.nat .i64 1),(.sl k13602 0 0 1 1),(.nat .i64 1),(.nat .i64 0),(.nat .i64 0),(.str []),(.nat .i64 0),(.nat .i64 0),(.nil
  1),(.nat .i64 1),(.nat .i64 0),(.nat .i64 0),(.str []),(.nat .i64 0),(.nat .i64 0),(.nil 1)]),(.sl k7023 0 0 3 3),(.sl k13606 0 0 2 2)], ⟨(tn (tn (tn (tr (tl
  (tl (tl (tr (tr (tr (tl (tl (tl (.nd .lf (.row [(.so k9094 3 0 1 0),(.so k9102 3 0 1 0)] 2 55 true 0 0 0) .lf))))))))))) (tn (tl (tr (tl (tl (tr (tl (tr (tl
  (tr (.nd .lf (.row [(.nat .i64 1),(.nat .i64 4)] 2 3 false 0 0 0) .lf)))))))))) (tl (tr (tr (tl (tr (tr (tl (tr (.nd .lf (.row [(.nat .i64 5),(.nat .i64
  0),(.nat .i64 0),(.str []),(.nat .i64 0),(.nat .i64 0),(.sl k7014 0 0 2 2),(.nat .i64 5),(.nat .i64 0),(.nat .i64 0),(.str []),(.nat .i64 0),(.nat .i64
  0),(.sl k7018 0 0 2 2)] 14 24 false 0 0 0) .lf))))))))))) (tn (tn (tl (tr (tl (tl (tr (tl (tr (tl (tr (.nd .lf (.row [(.nat .i64 6),(.nat .i64 0),(.nat .i64
  0),(.str []),(.nat .i64 0),(.nat .i64 0),(.sl k7020 0 0 2 2),(.bool false),(.sl k13599 0 0 1 1),(.nil 1)] 10 32 false 0 0 0) .lf)))))))))) (tl (tr (tr (tl (tr
  (tr (tl (tr (.nd .lf (.row [(.nat .i64 2),(.nat .i64 2),(.nat .i64 2),(.str []),(.nat .i64 0),(.nat .i64 0),(.nil 1),(.nat .i64 2),(.nat .i64 3),(.nat .i64
  3),(.str []),(.nat .i64 0),(.nat .i64 0),(.nil 1)] 14 24 false 0 0 0) .lf)))))))))) (tn (tl (tn (tl (tr (tr (tr (tl (tl (tl (.nd .lf (.row [(.nat .i64
  0),(.nat .i64 2),(.nat .i64 0)] 3 60 true 0 0 0) .lf)))))))) (tn (tl (tr (tl (tr (tl (tr (.nd .lf (.row [(.sl k13604 0 0 2 2),(.sl k13605 0 0 2 2)] 2 30 false
  0 0 0) .lf))))))) (tl (tr (tr (tl (tr (.nd .lf (.row [(.nat .i64 2),(.nat .i64 1),(.nat .i64 1),(.str []),(.nat .i64 0),(.nat .i64 0),(.nil 1),(.nat .i64
  2),(.nat .i64 2),(.nat .i64 2),(.str []),(.nat .i64 0),(.nat .i64 0),(.nil 1)] 14 24 false 0 0 0) .lf))))))))) (tl (tn (tl (tr (tr (tr (tl (tl (tl (.nd .lf
  (.row [(.nat .i64 1),(.nat .i64 3),(.nat .i64 0)] 3 60 true 0 0 0) .lf)))))))) (tr (tl (tr (tr (tl (tr (.nd .lf (.row [(.nat .i64 6),(.nat .i64 0),(.nat .i64
  0),(.str []),(.nat .i64 0),(.nat .i64 0),(.sl k7020 0 0 2 2)] 7 24 false 0 0 0) .lf)))))))))))) (tn (tr (tl (tl (tr (tl (tl (tr (tl (tr (tl (tr (.nd .lf (.row
  [(.nat .i64 4),(.nat .i64 3)] 2 3 false 0 0 0) .lf)))))))))))) (tr (tr (tn (tr (tr (tl (tr (tr (tl (tr (.nd .lf (.row [(.nat .i64 1),(.nat .i64 2),(.nat .i64
  3)] 3 3 false 0 0 0) .lf)))))))) (tl (tl (tl (tr (tl (tr (tl (tr (.nd .lf (.row [(.nat .i64 4)] 1 3 false 0 0 0) .lf)))))))))))))), k13607⟩, (.bool true),
  ⟨(tn (tn (tn (tr (tl (tl (tl (tr (tr (tr (tl (tl (tl (.nd .lf (.row [(.so k9094 3 0 1 0),(.so k9102 3 0 1 0)] 2 55 true 0 0 0) .lf))))))))))) (tr (tl (tr (tr
  (tl (tr (tr (tl (tr (.nd .lf (.row [(.nat .i64 5),(.nat .i64 0),(.nat .i64 0),(.str []),(.nat .i64 0),(.nat .i64 0),(.sl k7014 0 0 2 2),(.nat .i64 5),(.nat
  .i64 0),(.nat .i64 0),(.str []),(.nat .i64 0),(.nat .i64 0),(.sl k7018 0 0 2 2)] 14 24 false 0 0 0) .lf))))))))))) (tn (tr (tl (tr (tr (tl (tr (tr (tl (tr
  (.nd .lf (.row [(.nat .i64 2),(.nat .i64 2),(.nat .i64 2),(.str []),(.nat .i64 0),(.nat .i64 0),(.nil 1),(.nat .i64 2),(.nat .i64 3),(.nat .i64 3),(.str
  []),(.nat .i64 0),(.nat .i64 0),(.nil 1)] 14 24 false 0 0 0) .lf)))))))))) (tn (tl (tn (tl (tr (tr (tr (tl (tl (tl (.nd .lf (.row [(.nat .i64 0),(.nat .i64
  2),(.nat .i64 0)] 3 60 true 0 0 0) .lf)))))))) (tr (tl (tr (tr (tl (tr (.nd .lf (.row [(.nat .i64 2),(.nat .i64 1),(.nat .i64 1),(.str []),(.nat .i64 0),(.nat
  .i64 0),(.nil 1),(.nat .i64 2),(.nat .i64 2),(.nat .i64 2),(.str []),(.nat .i64 0),(.nat .i64 0),(.nil 1)] 14 24 false 0 0 0) .lf))))))))) (tl (tn (tl (tr (tr
  (tr (tl (tl (tl (.nd .lf (.row [(.nat .i64 1),(.nat .i64 3),(.nat .i64 0)] 3 60 true 0 0 0) .lf)))))))) (tr (tl (tr (tr (tl (tr (.nd .lf (.row [(.nat .i64
  6),(.nat .i64 0),(.nat .i64 0),(.str []),(.nat .i64 0),(.nat .i64 0),(.sl k7020 0 0 2 2)] 7 24 false 0 0 0) .lf)))))))))))) (tr (tr (tr (tl (tr (tr (tl (tr
  (tr (tl (tr (.nd .lf (.row [(.nat .i64 1),(.nat .i64 2),(.nat .i64 3)] 3 3 false 0 0 0) .lf))))))))))))), k15696⟩⟩
def hk6 : Hook := ⟨13, [(.ls 0 [(.nat .i64 2),(.sl k15699 0 0 1 1),(.nat .i64 1),(.nat .i64 0),(.nat .i64 0),(.str []),(.nat .i64 0),(.nat .i64 0),(.nil
  1),(.nat .i64 1),(.nat .i64 0),(.nat .i64 0),(.str []),(.nat .i64 0),(.nat .i64 0),(.nil 1)]),(.sl k7023 0 0 3 3),(.sl k15703 0 0 3 3)], ⟨(tn (tn (tn (tn (tr
  (tl (tr (tl (tr (tl (tr (tr (tr (.nd .lf (.row [(.nat .i64 4)] 1 3 false 0 0 0) .lf)))))))))) (tl (tl (tl (tr (tr (tr (tl (tl (tl (.nd .lf (.row [(.so k9094 3
  0 1 0),(.so k9102 3 0 1 0)] 2 55 true 0 0 0) .lf))))))))))) (tr (tl (tr (tr (tl (tr (tr (tl (tr (.nd .lf (.row [(.nat .i64 5),(.nat .i64 0),(.nat .i64
  0),(.str []),(.nat .i64 0),(.nat .i64 0),(.sl k7014 0 0 2 2),(.nat .i64 5),(.nat .i64 0),(.nat .i64 0),(.str []),(.nat .i64 0),(.nat .i64 0),(.sl k7018 0 0 2
  2)] 14 24 false 0 0 0) .lf))))))))))) (tn (tr (tl (tr (tr (tl (tr (tr (tl (tr (.nd .lf (.row [(.nat .i64 2),(.nat .i64 2),(.nat .i64 2),(.str []),(.nat .i64
  0),(.nat .i64 0),(.nil 1),(.nat .i64 2),(.nat .i64 3),(.nat .i64 3),(.str []),(.nat .i64 0),(.nat .i64 0),(.nil 1)] 14 24 false 0 0 0) .lf)))))))))) (tn (tn
  (tn (tl (tr (tr (tr (tl (tl (tl (.nd .lf (.row [(.nat .i64 0),(.nat .i64 2),(.nat .i64 0)] 3 60 true 0 0 0) .lf)))))))) (tr (tl (tr (tr (tl (tr (.nd .lf (.row
  [(.nat .i64 2),(.nat .i64 1),(.nat .i64 1),(.str []),(.nat .i64 0),(.nat .i64 0),(.nil 1),(.nat .i64 2),(.nat .i64 2),(.nat .i64 2),(.str []),(.nat .i64
  0),(.nat .i64 0),(.nil 1)] 14 24 false 0 0 0) .lf)))))))) (tl (tr (tl (tr (tl (tr (tr (tr (.nd .lf (.row [(.nat .i64 4),(.nat .i64 3)] 2 3 false 0 0 0)
  .lf)))))))))) (tl (tl (tl (tr (tr (tr (tl (tl (tl (.nd .lf (.row [(.nat .i64 1),(.nat .i64 3),(.nat .i64 0)] 3 60 true 0 0 0) .lf))))))))))))) (tn (tr (tl (tr
  (tl (tr (tl (tr (tl (tr (tr (tr (.nd .lf (.row [(.nat .i64 1),(.nat .i64 4)] 2 3 false 0 0 0) .lf)))))))))))) (tn (tl (tr (tl (tr (tl (tr (tl (tr (tr (tr (.nd
  .lf (.row [(.nat .i64 6),(.nat .i64 0),(.nat .i64 0),(.str []),(.nat .i64 0),(.nat .i64 0),(.sl k7020 0 0 2 2),(.bool false),(.sl k15696 0 0 1 1),(.nil 1)] 10
  32 false 0 0 0) .lf))))))))))) (tn (tr (tl (tr (tl (tr (tl (tr (tr (tr (.nd .lf (.row [(.sl k15701 0 0 2 2),(.sl k15702 0 0 2 2),(.sl k7023 0 0 3 3)] 3 30
  false 0 0 0) .lf)))))))))) (tl (tr (tr (tl (tr (tr (tl (tr (.nd .lf (.row [(.nat .i64 1),(.nat .i64 2),(.nat .i64 3)] 3 3 false 0 0 0) .lf))))))))))))),
  k15704⟩, (.bool true), ⟨(tl (tn (tl (tr (tl (tl (tl (tr (tr (tr (tl (tl (tl (.nd .lf (.row [(.so k9094 3 0 1 0),(.so k9102 3 0 1 0)] 2 55 true 0 0 0)
  .lf)))))))))))) (tr (tn (tl (tl (tl (tr (tr (tr (tl (tl (tl (.nd .lf (.row [(.nat .i64 0),(.nat .i64 2),(.nat .i64 0)] 3 60 true 0 0 0) .lf)))))))))) (tl (tl
  (tl (tr (tr (tr (tl (tl (tl (.nd .lf (.row [(.nat .i64 1),(.nat .i64 3),(.nat .i64 0)] 3 60 true 0 0 0) .lf)))))))))))))), k17799⟩⟩
end Go.Proofs.YtomjpelinabmgaaGreatDoor.rewriteExamples
