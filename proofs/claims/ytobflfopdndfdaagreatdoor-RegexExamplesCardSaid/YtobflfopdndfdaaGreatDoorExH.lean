/- The program as the evaluator takes it (three lists of hints, which the proofs need not trust), and some calls of the closed run of RegexExamples, each with what it is given and what it answers. No statement of the seat stands here. No condition. By an AI agent. -/
import Derived.Test.YtobflfopdndfdaaGreatDoorChecked
import Derived.KernelRfl
import Derived.Test.YtobflfopdndfdaaGreatDoorEvG
namespace Go.Proofs.YtobflfopdndfdaaGreatDoor.regexExamples
open Go.Ev Go.RowKit
set_option maxRecDepth 100000
noncomputable def pc (hooks : List Hook) : PC := PC.of Tryz.prog hooks [0, 0, 1, 20769187434139310514121985316880128, 224, 56, 224, 480, 33552384,
  9671406556917033397648936, 69267081072640, 129984, 4122430242752, 288195190705610688, 2417851639198471889600512, 2, 12574592,
  85807770353859583205453152173646770487551006714061914112, 14680032, 549755813824, 140736414117888, 31745151725696, 79228162513074824341929064448,
  70368735784800, 562949945028448, 2040, 262080, 4080, 33554400, 8589934528, 7904, 1056964592, 4080, 520688, 36605257513560959488, 1030791094272, 4080, 1016,
  398655360, 8, 16328, 1952, 8, 456, 134156032, 36, 4064, 4064, 104, 484, 65008, 8386568, 144114672678729728, 70368744168960, 17591682693120, 17179868864, 484,
  34587645138138185600, 8164, 65504, 590293839423849099264, 4503591037304448, 309182776060598402215280384, 532668352, 21778071482618506735861013308488957231104,
  16328, 1008, 1008, 1008, 34662321095378961161338743808, 16352, 2199023189888, 2194224446208, 4543259750641845459761594177158656, 24, 12574592,
  649037029945047576837886721114112, 16352, 4501336175669248, 3568, 170141183460466738322183768001071808256, 480, 56, 504, 15856, 2040, 17996745120149504,
  68048387584, 24, 6228864, 10384593407414639918073416691740640, 56, 2305825412699119296, 496, 8, 1032128, 132120064, 18887160055355137835008, 0, 32, 16128,
  268428272, 64, 19342813112848872164551680, 64, 132120064, 8935141660702932864, 89794636423602880087156592636474722530567799319756800, 4294934272, 30,
  79225895778352558100046659584, 158446644767534338890306928640, 504, 3114368, 248, 524224, 24, 16376, 16368, 504, 16777184, 457792, 30,
  21778061098346189844478291628122334298112, 248, 2097120, 4177344, 1073602816, 4194302, 504, 504, 103582791362410496, 24, 48640, 524224, 16304, 16304,
  288230376143288320, 480, 56, 192, 192, 192, 35764913150590976, 240, 240, 281337470646784, 240, 524220, 24, 2147475296, 469761536, 1984, 48, 515848, 1984,
  2064064, 1016, 1016, 48, 562948879675136, 72057592963659776, 36893479342736111616, 123286018324422656, 4294958848, 10888952654262176519432384150372830132224,
  131040, 19342794090620444689299456, 374144419134252505651064520051920053992477580849152, 524008, 33537768, 148754255977818640873472, 17171475456, 928,
  4835703260440209768046592, 7936, 457792, 65264, 1073740800, 0, 18014381321090304, 32696, 6473907284443136, 4160745472, 4398046510976, 1030792150528,
  134217696, 1984, 128960, 75557859222245976505344, 120, 8589934584, 32640, 68719474688, 56, 1984, 8064, 103048806384, 34342829312, 4186048, 258016, 260013824,
  274877644160, 1504, 2080760, 130944, 2251799813668864, 32744, 32752, 184149205606795480238948490449146349755637850570752, 5050176389969560855884357697536,
  2266699018289282147153920, 140736414328832, 16320, 2016, 240, 261952, 8796093022080, 134217696, 268172288, 32192, 8384256, 20282409471425404962397755244544,
  17163084480, 224, 7696579557248, 224, 56, 0, 248, 248, 196032, 1016, 536543040, 144115179485392896, 61408, 16637888, 37778931860723777658880, 500, 520048,
  2147155456, 262112, 10448029773009037967681152029858612457160704, 224, 182686308445276092278898780960839177993124249600, 224,
  42524890909723710779775849120990470144, 9007190629408768, 261632, 444288, 444288, 1048064, 16360, 16360, 137403301872, 150525431606284996046848, 2096608,
  7904, 176, 962064154560, 34090744768, 8556375552, 224, 0, 56, 2266735911759287759665152, 523264, 4294961792, 224, 31457136, 248, 56, 0, 548648513024,
  1073741792, 0, 0, 0, 0, 0, 0, 0, 0, 0, 0, 0, 0, 0, 0, 0, 0, 0, 0, 0, 0, 0, 0, 0, 0, 7] [(179, 1), (272, 2)] [(7, [7, 7, 0, 7]), (8, [7, 7, 0, 7]), (58, [7, 7,
  8, 7]), (59, [7, 7, 8, 7]), (71, [7]), (72, [7]), (143, [7, 7, 0]), (144, [7, 7, 0]), (148, [7, 7]), (149, [7, 7]), (158, [7]), (159, [7]), (176, [8, 8, 8]),
  (179, [7, 7, 7]), (180, [7, 7, 7]), (203, [0, 8, 8]), (204, [0, 8, 8]), (230, []), (231, [])] []
theorem pcOk (hooks : List Hook) : PcOk Tryz.prog (pc hooks) ∧ (pc hooks).hooks = hooks :=
  pcOk_of (by kernel_rfl) (by kernel_rfl) (by kernel_rfl) (by kernel_rfl) (by kernel_rfl)
theorem globals : Tryz.prog.globals.size = 4 := by kernel_rfl
/-- a hook out of its test, which looks at hooks that hold -/
theorem hook_of_test {hs : List Hook} (hh : ∀ h ∈ hs, HookOk Tryz.prog h) {h : Hook} (ht : hookB (pc hs) 1500 h = true) : HookOk Tryz.prog h :=
  hookB_ok (pcOk hs).1 (by rw [(pcOk hs).2]; exact hh) ht
def tl (t : Tr B) : Tr B := .nd t .none .lf
def tr (t : Tr B) : Tr B := .nd .lf .none t
def tn (t u : Tr B) : Tr B := .nd t .none u
def k1 : K := .h
def k7 : K := .i (.i k1)
def k12 : K := .o (.o (.i k1))
def k14 : K := .o k7
def k22 : K := .o (.i (.i (.o k1)))
def k24 : K := .o k12
def k27 : K := .i (.i (.o (.i k1)))
def k29 : K := .i k14
def k35 : K := .i (.i (.o (.o (.o k1))))
def k36 : K := .o (.o (.i (.o (.o k1))))
def k42 : K := .o (.i (.o (.i (.o k1))))
def k43 : K := .i (.i (.o (.i (.o k1))))
def k48 : K := .o k24
def k50 : K := .o (.i k12)
def k52 : K := .o (.o (.i (.o (.i k1))))
def k53 : K := .i (.o (.i (.o (.i k1))))
def k54 : K := .o k27
def k1869 : K := .i (.o (.i (.i (.o (.o k29)))))
def k1882 : K := .o (.i (.o (.i (.i (.o k29)))))
def k1900 : K := .o (.o (.i (.i (.o (.i k29)))))
def k1927 : K := .i (.i (.i (.o (.o (.o (.o (.i k7)))))))
def k1950 : K := .o (.i (.i (.i (.i (.o (.o (.i k7)))))))
def k1973 : K := .i (.o (.i (.o (.i (.i (.o (.i k7)))))))
def k1997 : K := .i (.o (.i (.i (.o (.o (.i (.i k7)))))))
def k1998 : K := .o (.i (.i (.i (.o (.o (.i (.i k7)))))))
def k3821 : K := .i (.o (.i (.i (.o (.i (.i k29))))))
def k3834 : K := .o (.i (.o (.i (.i (.i (.i k29))))))
def k3852 : K := .o (.o (.i (.i (.o (.o (.o (.o (.i k7))))))))
def k3879 : K := .i (.i (.i (.o (.o (.i (.o (.o (.i k7))))))))
def k3902 : K := .o (.i (.i (.i (.i (.i (.o (.o (.i k7))))))))
def k3925 : K := .i (.o (.i (.o (.i (.o (.i (.o (.i k7))))))))
def k3949 : K := .i (.o (.i (.i (.o (.i (.i (.o (.i k7))))))))
def k3950 : K := .o (.i (.i (.i (.o (.i (.i (.o (.i k7))))))))
def k3951 : K := .i (.i (.i (.i (.o (.i (.i (.o (.i k7))))))))
def k3952 : K := .o (.o (.o (.o (.i (.i (.i (.o (.i k7))))))))
def k5783 : K := .i (.i (.i (.o (.i (.o (.o (.i k22)))))))
def k5796 : K := .o (.o (.i (.o (.o (.i (.o (.i k22)))))))
def k5814 : K := .o (.i (.i (.o (.i (.i (.o (.i k22)))))))
def k5841 : K := .i (.o (.o (.o (.i (.o (.i (.i k22)))))))
def k5864 : K := .o (.o (.o (.i (.o (.i (.i (.i k22)))))))
def k5887 : K := .i (.i (.i (.i (.i (.i (.i (.i k22)))))))
def k5911 : K := .i (.i (.i (.o (.i (.o (.o (.o (.i (.i (.i (.o k1)))))))))))
def k5912 : K := .o (.o (.o (.i (.i (.o (.o (.o (.i (.i (.i (.o k1)))))))))))
def k5913 : K := .i (.o (.o (.i (.i (.o (.o (.o (.i (.i (.i (.o k1)))))))))))
def k5914 : K := .o (.i (.o (.i (.i (.o (.o (.o (.i (.i (.i (.o k1)))))))))))
def k7745 : K := .i (.o (.o (.o (.o (.o (.i (.o (.o (.i k7)))))))))
def k7758 : K := .o k3879
def k7776 : K := .o (.o (.o (.o (.o (.i (.i (.o (.o (.i k7)))))))))
def k7803 : K := .i (.i k1950)
def k7826 : K := .o (.i (.o (.o (.i (.o (.o (.i (.o (.i k7)))))))))
def k7849 : K := .i (.o (.o (.i (.o (.i (.o (.i (.o (.i k7)))))))))
def k7873 : K := .i (.o (.o (.o (.o (.o (.i (.i (.o (.i k7)))))))))
def k7874 : K := .o (.i (.o (.o (.o (.o (.i (.i (.o (.i k7)))))))))
def k7875 : K := .i (.i (.o (.o (.o (.o (.i (.i (.o (.i k7)))))))))
def k10024 : K := .o (.o (.o (.i (.o (.i (.o (.o (.i (.i (.i (.o (.o k1))))))))))))
def k10034 : K := .o (.i (.o (.o (.i (.i (.o (.o (.i (.i (.i (.o (.o k1))))))))))))
def k10051 : K := .i (.i (.o (.o (.o (.o (.i (.o (.i (.i (.i (.o (.o k1))))))))))))
def k10077 : K := .i (.o (.i (.i (.i (.o (.i (.o (.i (.i (.i (.o (.o k1))))))))))))
def k10189 : K := .i (.o (.i (.i (.o (.o (.i (.i (.i (.i (.i (.o (.o k1))))))))))))
def k10201 : K := .i (.o (.o (.i (.i (.o (.i (.i (.i (.i (.i (.o (.o k1))))))))))))
def k10221 : K := .i (.o (.i (.i (.o (.i (.i (.i (.i (.i (.i (.o (.o k1))))))))))))
def k10233 : K := .i (.o (.o (.i (.i (.i (.i (.i (.i (.i (.i (.o (.o k1))))))))))))
def k10246 : K := .o (.i (.i (.o (.o (.o (.o (.o (.o (.o (.o (.i (.o k1))))))))))))
def k10358 : K := .o (.i (.i (.o (.i (.i (.i (.o (.o (.o (.o (.i (.o k1))))))))))))
def k10370 : K := .o (.i (.o (.o (.o (.o (.o (.i (.o (.o (.o (.i (.o k1))))))))))))
def k10475 : K := .i (.i (.o (.i (.o (.i (.i (.i (.o (.o (.o (.i (.o k1))))))))))))
def k10485 : K := .i (.o (.i (.o (.i (.i (.i (.i (.o (.o (.o (.i (.o k1))))))))))))
def k10486 : K := .o (.i (.i (.o (.i (.i (.i (.i (.o (.o (.o (.i (.o k1))))))))))))
def k10487 : K := .i (.i (.i (.o (.i (.i (.i (.i (.o (.o (.o (.i (.o k1))))))))))))
def k12636 : K := .o (.o (.i (.i (.i (.o (.i (.o (.i k24))))))))
def k12646 : K := .o (.i (.i (.o (.o (.i (.i (.o (.i k24))))))))
def k12663 : K := .i (.i (.i (.o (.i (.i (.i (.o (.i k24))))))))
def k12689 : K := .i (.o (.o (.o (.i (.o (.o (.i (.i k24))))))))
def k12801 : K := .i (.o (.o (.o (.o (.o (.o (.o k50)))))))
def k12813 : K := .i (.o (.i (.i (.o (.o (.o (.o k50)))))))
def k12833 : K := .i (.o (.o (.o (.o (.i (.o (.o k50)))))))
def k12845 : K := .i (.o (.i (.i (.o (.i (.o (.o k50)))))))
def k12858 : K := .o (.i (.o (.i (.i (.i (.o (.o k50)))))))
def k12970 : K := .o (.i (.o (.i (.o (.i (.o (.i k50)))))))
def k12982 : K := .o (.i (.i (.o (.i (.i (.o (.i k50)))))))
def k13087 : K := .i (.i (.i (.i (.i (.o (.o (.o (.i (.i k12)))))))))
def k13097 : K := .i (.o (.o (.i (.o (.i (.o (.o (.i (.i k12)))))))))
def k13098 : K := .o (.i (.o (.i (.o (.i (.o (.o (.i (.i k12)))))))))
def k14472 : K := .o (.o (.o (.i (.o (.o (.o (.i (.o (.o k14)))))))))
def k14484 : K := .o (.o (.i (.o (.i (.o (.o (.i (.o (.o k14)))))))))
def k14488 : K := .o (.o (.o (.i (.i (.o (.o (.i (.o (.o k14)))))))))
def k14499 : K := .i (.i (.o (.o (.o (.i (.o (.i (.o (.o k14)))))))))
def k14509 : K := .i (.o (.i (.i (.o (.i (.o (.i (.o (.o k14)))))))))
def k14510 : K := .o (.i (.i (.i (.o (.i (.o (.i (.o (.o k14)))))))))
def k15884 : K := .o (.o (.i (.i (.o (.o (.o (.o (.o (.i (.i k7))))))))))
def k15896 : K := .o (.o (.o (.i (.i (.o (.o (.o (.o (.i (.i k7))))))))))
def k15900 : K := .o (.o (.i (.i (.i (.o (.o (.o (.o (.i (.i k7))))))))))
def k15911 : K := .i (.i (.i (.o (.o (.i (.o (.o (.o (.i (.i k7))))))))))
def k15921 : K := .i (.o (.o (.o (.i (.i (.o (.o (.o (.i (.i k7))))))))))
def k15922 : K := .o (.i (.o (.o (.i (.i (.o (.o (.o (.i (.i k7))))))))))
def k16473 : K := .i (.o (.o (.i (.i (.o (.i (.o (.o (.o (.o (.o (.o (.o k1)))))))))))))
def k16491 : K := .i (.i (.o (.i (.o (.i (.i (.o (.o (.o (.o (.o (.o (.o k1)))))))))))))
def k16498 : K := .o (.i (.o (.o (.i (.i (.i (.o (.o (.o (.o (.o (.o (.o k1)))))))))))))
def k16503 : K := .i (.i (.i (.o (.i (.i (.i (.o (.o (.o (.o (.o (.o (.o k1)))))))))))))
def k16507 : K := .i (.i (.o (.i (.i (.i (.i (.o (.o (.o (.o (.o (.o (.o k1)))))))))))))
def k16510 : K := .o (.i (.i (.i (.i (.i (.i (.o (.o (.o (.o (.o (.o (.o k1)))))))))))))
def k16526 : K := .o (.i (.i (.i (.o (.o (.o (.i (.o (.o (.o (.o (.o (.o k1)))))))))))))
def k16533 : K := .i (.o (.i (.o (.i (.o (.o (.i (.o (.o (.o (.o (.o (.o k1)))))))))))))
def k16538 : K := .o (.i (.o (.i (.i (.o (.o (.i (.o (.o (.o (.o (.o (.o k1)))))))))))))
def k16542 : K := .o (.i (.i (.i (.i (.o (.o (.i (.o (.o (.o (.o (.o (.o k1)))))))))))))
def k16545 : K := .i (.o (.o (.o (.o (.i (.o (.i (.o (.o (.o (.o (.o (.o k1)))))))))))))
def k16552 : K := .o (.o (.o (.i (.o (.i (.o (.i (.o (.o (.o (.o (.o (.o k1)))))))))))))
def k16553 : K := .i (.o (.o (.i (.o (.i (.o (.i (.o (.o (.o (.o (.o (.o k1)))))))))))))
def k17112 : K := .o (.o (.o (.i (.i (.o (.i (.i (.o (.i (.o (.o (.o (.o k1)))))))))))))
def k17130 : K := .o (.i (.o (.i (.o (.i (.i (.i (.o (.i (.o (.o (.o (.o k1)))))))))))))
def k17137 : K := .i (.o (.o (.o (.i (.i (.i (.i (.o (.i (.o (.o (.o (.o k1)))))))))))))
def k17142 : K := .o (.i (.i (.o (.i (.i (.i (.i (.o (.i (.o (.o (.o (.o k1)))))))))))))
def k17146 : K := .o (.i (.o (.i (.i (.i (.i (.i (.o (.i (.o (.o (.o (.o k1)))))))))))))
def k17149 : K := .i (.o (.i (.i (.i (.i (.i (.i (.o (.i (.o (.o (.o (.o k1)))))))))))))
def k17165 : K := .i (.o (.i (.i (.o (.o (.o (.o (.i (.i (.o (.o (.o (.o k1)))))))))))))
def k17172 : K := .o (.o (.i (.o (.i (.o (.o (.o (.i (.i (.o (.o (.o (.o k1)))))))))))))
def k17177 : K := .i (.o (.o (.i (.i (.o (.o (.o (.i (.i (.o (.o (.o (.o k1)))))))))))))
def k17181 : K := .i (.o (.i (.i (.i (.o (.o (.o (.i (.i (.o (.o (.o (.o k1)))))))))))))
def k17184 : K := .o (.o (.o (.o (.o (.i (.o (.o (.i (.i (.o (.o (.o (.o k1)))))))))))))
def k17191 : K := .i (.i (.i (.o (.o (.i (.o (.o (.i (.i (.o (.o (.o (.o k1)))))))))))))
def k17192 : K := .o (.o (.o (.i (.o (.i (.o (.o (.i (.i (.o (.o (.o (.o k1)))))))))))))
def k17193 : K := .i (.o (.o (.i (.o (.i (.o (.o (.i (.i (.o (.o (.o (.o k1)))))))))))))
def k17194 : K := .o (.i (.o (.i (.o (.i (.o (.o (.i (.i (.o (.o (.o (.o k1)))))))))))))
def k17761 : K := .i (.o (.o (.o (.o (.i (.i (.o (.i (.o (.i (.o (.o (.o k1)))))))))))))
def k17779 : K := .i (.i (.o (.o (.i (.i (.i (.o (.i (.o (.i (.o (.o (.o k1)))))))))))))
def k17786 : K := .o (.i (.o (.i (.i (.i (.i (.o (.i (.o (.i (.o (.o (.o k1)))))))))))))
def k17791 : K := .i (.i (.i (.i (.i (.i (.i (.o (.i (.o (.i (.o (.o (.o k1)))))))))))))
def k17795 : K := .i (.i (.o (.o (.o (.o (.o (.i (.i (.o (.i (.o (.o (.o k1)))))))))))))
def k17798 : K := .o (.i (.i (.o (.o (.o (.o (.i (.i (.o (.i (.o (.o (.o k1)))))))))))))
def k17814 : K := .o (.i (.i (.o (.i (.o (.o (.i (.i (.o (.i (.o (.o (.o k1)))))))))))))
def k17821 : K := .i (.o (.i (.i (.i (.o (.o (.i (.i (.o (.i (.o (.o (.o k1)))))))))))))
def k17826 : K := .o (.i (.o (.o (.o (.i (.o (.i (.i (.o (.i (.o (.o (.o k1)))))))))))))
def k17830 : K := .o (.i (.i (.o (.o (.i (.o (.i (.i (.o (.i (.o (.o (.o k1)))))))))))))
def k17833 : K := .i (.o (.o (.i (.o (.i (.o (.i (.i (.o (.i (.o (.o (.o k1)))))))))))))
def k17840 : K := .o (.o (.o (.o (.i (.i (.o (.i (.i (.o (.i (.o (.o (.o k1)))))))))))))
def k17841 : K := .i (.o (.o (.o (.i (.i (.o (.i (.i (.o (.i (.o (.o (.o k1)))))))))))))
def k17842 : K := .o (.i (.o (.o (.i (.i (.o (.i (.i (.o (.i (.o (.o (.o k1)))))))))))))
def k17843 : K := .i (.i (.o (.o (.i (.i (.o (.i (.i (.o (.i (.o (.o (.o k1)))))))))))))
def k18418 : K := .o (.i (.o (.o (.i (.i (.i (.i (.i k35))))))))
def k18436 : K := .o (.o (.i (.o (.o (.o (.o (.o (.o k36))))))))
def k18443 : K := .i (.i (.o (.i (.o (.o (.o (.o (.o k36))))))))
def k18448 : K := .o (.o (.o (.o (.i (.o (.o (.o (.o k36))))))))
def k18452 : K := .o (.o (.i (.o (.i (.o (.o (.o (.o k36))))))))
def k18455 : K := .i (.i (.i (.o (.i (.o (.o (.o (.o k36))))))))
def k18471 : K := .i (.i (.i (.o (.o (.i (.o (.o (.o k36))))))))
def k18478 : K := .o (.i (.i (.i (.o (.i (.o (.o (.o k36))))))))
def k18483 : K := .i (.i (.o (.o (.i (.i (.o (.o (.o k36))))))))
def k18487 : K := .i (.i (.i (.o (.i (.i (.o (.o (.o k36))))))))
def k18490 : K := .o (.i (.o (.i (.i (.i (.o (.o (.o k36))))))))
def k18497 : K := .i (.o (.o (.o (.o (.o (.i (.o (.o k36))))))))
def k18498 : K := .o (.i (.o (.o (.o (.o (.i (.o (.o k36))))))))
def k18499 : K := .i (.i (.o (.o (.o (.o (.i (.o (.o k36))))))))
def k18503 : K := .i (.i (.i (.o (.o (.o (.i (.o (.o k36))))))))
def k18508 : K := .o (.o (.i (.i (.o (.o (.i (.o (.o k36))))))))
def k18510 : K := .o (.i (.i (.i (.o (.o (.i (.o (.o k36))))))))
def k18515 : K := .i (.i (.o (.o (.i (.o (.i (.o (.o k36))))))))
def k18521 : K := .i (.o (.o (.i (.i (.o (.i (.o (.o k36))))))))
def k18523 : K := .i (.i (.o (.i (.i (.o (.i (.o (.o k36))))))))
def k18586 : K := .o (.i (.o (.i (.i (.o (.o (.i (.o k36))))))))
def k20882 : K := .o (.i (.o (.o (.i (.o (.o (.i (.i (.o (.o (.o (.i (.o k1)))))))))))))
def k20895 : K := .i (.i (.i (.i (.i (.o (.o (.i (.i (.o (.o (.o (.i (.o k1)))))))))))))
def k20909 : K := .i (.o (.i (.i (.o (.i (.o (.i (.i (.o (.o (.o (.i (.o k1)))))))))))))
def k20933 : K := .i (.o (.i (.o (.o (.o (.i (.i (.i (.o (.o (.o (.i (.o k1)))))))))))))
def k20958 : K := .o (.i (.i (.i (.i (.o (.i (.i (.i (.o (.o (.o (.i (.o k1)))))))))))))
def k20982 : K := .o (.i (.i (.o (.i (.i (.i (.i (.i (.o (.o (.o (.i (.o k1)))))))))))))
def k20995 : K := .i (.i (.o (.o (.o (.o (.o (.o (.o (.i (.o (.o (.i (.o k1)))))))))))))
def k20996 : K := .o (.o (.i (.o (.o (.o (.o (.o (.o (.i (.o (.o (.i (.o k1)))))))))))))
def k20997 : K := .i (.o (.i (.o (.o (.o (.o (.o (.o (.i (.o (.o (.i (.o k1)))))))))))))
def k20998 : K := .o (.i (.i (.o (.o (.o (.o (.o (.o (.i (.o (.o (.i (.o k1)))))))))))))
def k22724 : K := .o (.o (.i (.o (.o (.o (.i (.i (.o (.o k22)))))))))
def k22737 : K := .i (.o (.o (.o (.i (.o (.i (.i (.o (.o k22)))))))))
def k22745 : K := .i (.o (.o (.i (.i (.o (.i (.i (.o (.o k22)))))))))
def k22751 : K := .i (.i (.i (.i (.i (.o (.i (.i (.o (.o k22)))))))))
def k22766 : K := .o (.i (.i (.i (.o (.i (.i (.i (.o (.o k22)))))))))
def k22773 : K := .i (.o (.i (.o (.i (.i (.i (.i (.o (.o k22)))))))))
def k22778 : K := .o (.i (.o (.i (.i (.i (.i (.i (.o (.o k22)))))))))
def k22785 : K := .i (.o (.o (.o (.o (.o (.o (.o (.i (.o k22)))))))))
def k22786 : K := .o (.i (.o (.o (.o (.o (.o (.o (.i (.o k22)))))))))
def k22787 : K := .i (.i (.o (.o (.o (.o (.o (.o (.i (.o k22)))))))))
def k24501 : K := .i (.o (.i (.o (.i (.i (.o (.i (.i (.i (.i (.i (.i (.o k1)))))))))))))
def k24514 : K := .o (.i (.o (.o (.o (.o (.i (.i (.i (.i (.i (.i (.i (.o k1)))))))))))))
def k24522 : K := .o (.i (.o (.i (.o (.o (.i (.i (.i (.i (.i (.i (.i (.o k1)))))))))))))
def k24528 : K := .o (.o (.o (.o (.i (.o (.i (.i (.i (.i (.i (.i (.i (.o k1)))))))))))))
def k24543 : K := .i (.i (.i (.i (.i (.o (.i (.i (.i (.i (.i (.i (.i (.o k1)))))))))))))
def k24550 : K := .o (.i (.i (.o (.o (.i (.i (.i (.i (.i (.i (.i (.i (.o k1)))))))))))))
def k24555 : K := .i (.i (.o (.i (.o (.i (.i (.i (.i (.i (.i (.i (.i (.o k1)))))))))))))
def k24562 : K := .o (.i (.o (.o (.i (.i (.i (.i (.i (.i (.i (.i (.i (.o k1)))))))))))))
def k24563 : K := .i (.i (.o (.o (.i (.i (.i (.i (.i (.i (.i (.i (.i (.o k1)))))))))))))
def k24564 : K := .o (.o (.i (.o (.i (.i (.i (.i (.i (.i (.i (.i (.i (.o k1)))))))))))))
def k24565 : K := .i (.o (.i (.o (.i (.i (.i (.i (.i (.i (.i (.i (.i (.o k1)))))))))))))
def k25860 : K := .o (.o (.i (.o (.o (.o (.o (.o (.i k50))))))))
def k25868 : K := .o (.o (.i (.i (.o (.o (.o (.o (.i k50))))))))
def k25886 : K := .o (.i (.i (.i (.i (.o (.o (.o (.i k50))))))))
def k25894 : K := .o (.i (.i (.o (.o (.i (.o (.o (.i k50))))))))
def k25902 : K := .o (.i (.i (.i (.o (.i (.o (.o (.i k50))))))))
def k25918 : K := .o (.i (.i (.i (.i (.i (.o (.o (.i k50))))))))
def k25926 : K := .o (.i (.i (.o (.o (.o (.i (.o (.i k50))))))))
def k25934 : K := .o (.i (.i (.i (.o (.o (.i (.o (.i k50))))))))
def k25945 : K := .i (.o (.o (.i (.i (.o (.i (.o (.i k50))))))))
def k25953 : K := .i (.o (.o (.o (.o (.i (.i (.o (.i k50))))))))
def k25961 : K := .i (.o (.o (.i (.o (.i (.i (.o (.i k50))))))))
def k25969 : K := .i (.o (.o (.o (.i (.i (.i (.o (.i k50))))))))
def k25976 : K := .o (.o (.o (.i (.i (.i (.i (.o (.i k50))))))))
def k25977 : K := .i (.o (.o (.i (.i (.i (.i (.o (.i k50))))))))
def k25978 : K := .o (.i (.o (.i (.i (.i (.i (.o (.i k50))))))))
def k25979 : K := .i (.i (.o (.i (.i (.i (.i (.o (.i k50))))))))
def k27282 : K := .o (.i (.o (.o (.i (.o (.o (.i (.o k53))))))))
def k27290 : K := .o (.i (.o (.i (.i (.o (.o (.i (.o k53))))))))
def k27308 : K := .o (.o (.i (.i (.o (.i (.o (.i (.o k53))))))))
def k27316 : K := .o (.o (.i (.o (.i (.i (.o (.i (.o k53))))))))
def k27324 : K := .o (.o (.i (.i (.i (.i (.o (.i (.o k53))))))))
def k27340 : K := .o (.o (.i (.i (.o (.o (.i (.i (.o k53))))))))
def k27348 : K := .o (.o (.i (.o (.i (.o (.i (.i (.o k53))))))))
def k27356 : K := .o (.o (.i (.i (.i (.o (.i (.i (.o k53))))))))
def k27367 : K := .i (.i (.i (.o (.o (.i (.i (.i (.o k53))))))))
def k27375 : K := .i (.i (.i (.i (.o (.i (.i (.i (.o k53))))))))
def k27383 : K := .i (.i (.i (.o (.i (.i (.i (.i (.o k53))))))))
def k27391 : K := .i (.i (.i (.i (.i (.i (.i (.i (.o k53))))))))
def k27398 : K := .o (.i (.i (.o (.o (.o (.o (.o (.i k53))))))))
def k27399 : K := .i (.i (.i (.o (.o (.o (.o (.o (.i k53))))))))
def bl0 : B := .row [(.nat .i64 15),(.nat .i64 0),(.nat .i64 0),(.str []),(.nat .i64 0),(.nat .i64 0),(.sl k14 0 0 1 1)] 7 24 false 0 0 0
def bl1 : B := .row [(.nat .i64 2),(.nat .i64 1),(.nat .i64 1),(.str []),(.nat .i64 0),(.nat .i64 0),(.nil 1)] 7 24 false 0 0 0
def bl2 : B := .row [(.nat .i64 2),(.nat .i64 1),(.nat .i64 1),(.str []),(.nat .i64 0),(.nat .i64 0),(.nil 1),(.nat .i64 5),(.nat .i64 0),(.nat .i64 0),(.str
  []),(.nat .i64 0),(.nat .i64 0),(.sl k22 0 0 2 2)] 14 24 false 0 0 0
def bl3 : B := .row [(.nat .i64 0)] 1 32 false 0 0 0
def bl4 : B := .row [(.nat .i64 3),(.nat .i64 0),(.nat .i64 0),(.str []),(.nat .i64 0),(.nat .i64 0),(.nil 1),(.nat .i64 2),(.nat .i64 1),(.nat .i64 1),(.str
  []),(.nat .i64 0),(.nat .i64 0),(.nil 1),(.nat .i64 7),(.nat .i64 0),(.nat .i64 0),(.str []),(.nat .i64 0),(.nat .i64 0),(.sl k7 0 0 1 1)] 21 24 false 0 0 0
def bl5 : B := .row [(.nat .i64 20),(.nat .i64 0),(.nat .i64 0),(.str [50]),(.nat .i64 0),(.nat .i64 0),(.sl k35 0 0 1 1)] 7 24 false 0 0 0
def bl6 : B := .row [(.nat .i64 1)] 1 3 false 0 0 0
def bl7 : B := .row [(.nat .i64 9),(.nat .i64 0),(.nat .i64 0),(.str []),(.nat .i64 0),(.nat .i64 0),(.sl k48 0 0 1 1)] 7 24 false 0 0 0
def bl8 : B := .row [(.nat .i64 2),(.nat .i64 2),(.nat .i64 2),(.str []),(.nat .i64 0),(.nat .i64 0),(.nil 1)] 7 24 false 0 0 0
def bl9 : B := .row [(.nat .i64 5),(.nat .i64 0),(.nat .i64 0),(.str []),(.nat .i64 0),(.nat .i64 0),(.sl k12 0 0 3 3)] 7 24 false 0 0 0
def bl10 : B := .row [(.nat .i64 2),(.nat .i64 2),(.nat .i64 2),(.str []),(.nat .i64 0),(.nat .i64 0),(.nil 1),(.nat .i64 2),(.nat .i64 2),(.nat .i64 2),(.str
  []),(.nat .i64 0),(.nat .i64 0),(.nil 1)] 14 24 false 0 0 0
def bl11 : B := .row [(.nat .i64 2)] 1 3 false 0 0 0
def bl12 : B := .row [(.nat .i64 11),(.nat .i64 0),(.nat .i64 0),(.str []),(.nat .i64 0),(.nat .i64 0),(.sl k24 0 0 2 2),(.nat .i64 7),(.nat .i64 0),(.nat .i64
  0),(.str []),(.nat .i64 0),(.nat .i64 0),(.sl k27 0 0 1 1)] 14 24 false 0 0 0
def bl13 : B := .row [(.nat .i64 6),(.nat .i64 0),(.nat .i64 0),(.str []),(.nat .i64 0),(.nat .i64 0),(.sl k43 0 0 2 2)] 7 24 false 0 0 0
def bl14 : B := .row [(.nat .i64 1),(.nat .i64 1),(.str [48]),(.nat .i64 1),(.nat .i64 2),(.nat .i64 2),(.str [48]),(.nat .i64 1)] 8 59 true 0 0 0
def bl15 : B := .row [(.nat .i64 3),(.nat .i64 0),(.nat .i64 0),(.str []),(.nat .i64 0),(.nat .i64 0),(.nil 1)] 7 24 false 0 0 0
def bl16 : B := .row [(.nat .i64 2),(.nat .i64 1),(.nat .i64 2),(.str []),(.nat .i64 0),(.nat .i64 0),(.nil 1)] 7 24 false 0 0 0
def bl17 : B := .row [(.nat .i64 10),(.nat .i64 0),(.nat .i64 0),(.str []),(.nat .i64 2),(.nat .i64 2),(.sl k50 0 0 1 1)] 7 24 false 0 0 0
def bl18 : B := .row [(.nat .i64 2),(.nat .i64 2),(.nat .i64 1),(.str []),(.nat .i64 0),(.nat .i64 0),(.nil 1)] 7 24 false 0 0 0
def bl19 : B := .row [(.nat .i64 16),(.nat .i64 0),(.nat .i64 0),(.str []),(.nat .i64 0),(.nat .i64 0),(.sl k36 0 0 1 1),(.nat .i64 20),(.nat .i64 0),(.nat .i64
  0),(.str [49]),(.nat .i64 0),(.nat .i64 0),(.sl k42 0 0 1 1)] 14 24 false 0 0 0
def bl20 : B := .row [(.nat .i64 12),(.nat .i64 0),(.nat .i64 0),(.str []),(.nat .i64 0),(.nat .i64 0),(.sl k29 0 0 2 2)] 7 24 false 0 0 0
def bl21 : B := .row [(.nat .i64 1),(.nat .i64 1),(.str [48]),(.nat .i64 4),(.nat .i64 2),(.nat .i64 2),(.str [48]),(.nat .i64 4)] 8 59 true 0 0 0
def bl22 : B := .row [(.nat .i64 1),(.nat .i64 1),(.str [48]),(.nat .i64 3),(.nat .i64 2),(.nat .i64 2),(.str [48]),(.nat .i64 3)] 8 59 true 0 0 0
def bl23 : B := .row [(.nat .i64 1),(.nat .i64 1),(.str [48]),(.nat .i64 2),(.nat .i64 2),(.nat .i64 2),(.str [48]),(.nat .i64 3)] 8 59 true 0 0 0
def bl24 : B := .row [(.nat .i64 2),(.nat .i64 2)] 2 3 false 0 0 0
def bl25 : B := .row [(.nat .i64 2),(.nat .i64 1)] 2 3 false 0 0 0
def bl26 : B := .row [(.nat .i64 0),(.nat .i64 0),(.str [48]),(.nat .i64 13)] 4 59 true 0 0 0
def bl27 : B := .row [(.nat .i64 1),(.nat .i64 1)] 2 3 false 0 0 0
def bl28 : B := .row [(.nat .i64 1),(.nat .i64 0),(.str [48]),(.nat .i64 1),(.nat .i64 0),(.nat .i64 0),(.str [48]),(.nat .i64 2)] 8 59 true 0 0 0
def bl29 : B := .row [(.nat .i64 0),(.nat .i64 0),(.str [48]),(.nat .i64 11)] 4 59 true 0 0 0
def bl30 : B := .row [(.nat .i64 0),(.nat .i64 1),(.str [48]),(.nat .i64 12)] 4 59 true 0 0 0
def bl31 : B := .row [(.nat .i64 0),(.nat .i64 0),(.str [48]),(.nat .i64 7),(.nat .i64 0),(.nat .i64 0),(.str [48]),(.nat .i64 8)] 8 59 true 0 0 0
def bl32 : B := .row [(.nat .i64 0),(.nat .i64 0),(.str [48]),(.nat .i64 10)] 4 59 true 0 0 0
def bl33 : B := .row [(.nat .i64 0),(.nat .i64 1),(.str [48]),(.nat .i64 6)] 4 59 true 0 0 0
def bl34 : B := .row [(.nat .i64 0),(.nat .i64 0),(.str [48]),(.nat .i64 9)] 4 59 true 0 0 0
def bl35 : B := .row [(.nat .i64 0),(.nat .i64 0),(.str [48]),(.nat .i64 5)] 4 59 true 0 0 0
def bl36 : B := .row [(.nat .i64 0),(.nat .i64 0),(.str [48]),(.nat .i64 3),(.nat .i64 0),(.nat .i64 0),(.str [48]),(.nat .i64 4)] 8 59 true 0 0 0
def bl37 : B := .row [(.nat .i64 0),(.nat .i64 0),(.str [48]),(.nat .i64 14)] 4 59 true 0 0 0
def bl38 : B := .row [(.nat .i64 0),(.nat .i64 0),(.str [50]),(.nat .i64 1),(.nat .i64 0),(.nat .i64 0),(.str [49]),(.nat .i64 3)] 8 59 true 0 0 0
def bl39 : B := .row [(.nat .i64 1),(.nat .i64 1),(.str [48]),(.nat .i64 2)] 4 59 true 0 0 0
def bl40 : B := .row [(.nat .i64 2),(.nat .i64 2),(.str [48]),(.nat .i64 4)] 4 59 true 0 0 0
def bl41 : B := .row [(.nat .i64 0),(.nat .i64 0),(.str [48]),(.nat .i64 1)] 4 59 true 0 0 0
def bl42 : B := .row [(.nat .i64 1),(.nat .i64 1),(.str [48]),(.nat .i64 10)] 4 59 true 0 0 0
def bl43 : B := .row [(.nat .i64 0),(.nat .i64 0),(.str [48]),(.nat .i64 8),(.nat .i64 0),(.nat .i64 0),(.str [48]),(.nat .i64 9)] 8 59 true 0 0 0
def bl44 : B := .row [(.nat .i64 0),(.nat .i64 0),(.str [48]),(.nat .i64 3)] 4 59 true 0 0 0
def bl45 : B := .row [(.nat .i64 0),(.nat .i64 0),(.str [48]),(.nat .i64 7)] 4 59 true 0 0 0
def bl46 : B := .row [(.nat .i64 0),(.nat .i64 0),(.str [48]),(.nat .i64 2)] 4 59 true 0 0 0
def bl47 : B := .row [(.nat .i64 0),(.nat .i64 0),(.str [48]),(.nat .i64 4),(.nat .i64 0),(.nat .i64 0),(.str [48]),(.nat .i64 5)] 8 59 true 0 0 0
def bl48 : B := .row [(.nat .i64 1),(.nat .i64 1),(.str [48]),(.nat .i64 6)] 4 59 true 0 0 0
def bl49 : B := .row [(.nat .i64 1),(.nat .i64 1),(.nat .i64 1)] 3 3 false 0 0 0
def bl50 : B := .row [(.nat .i64 5),(.nat .i64 0),(.nat .i64 0),(.str []),(.nat .i64 0),(.nat .i64 0),(.sl k18510 0 0 2 2)] 7 24 false 0 0 0
def bl51 : B := .row [(.nat .i64 2),(.nat .i64 1),(.nat .i64 1),(.str []),(.nat .i64 0),(.nat .i64 0),(.nil 1),(.nat .i64 2),(.nat .i64 2),(.nat .i64 2),(.str
  []),(.nat .i64 0),(.nat .i64 0),(.nil 1)] 14 24 false 0 0 0
def bl52 : B := .row [(.nat .i64 1),(.nat .i64 1),(.str [48]),(.nat .i64 1),(.nat .i64 2),(.nat .i64 2),(.str [48]),(.nat .i64 2)] 8 59 true 0 0 0
def bl53 : B := .row [(.nat .i64 1),(.nat .i64 1),(.str [48]),(.nat .i64 4),(.nat .i64 2),(.nat .i64 2),(.str [48]),(.nat .i64 2)] 8 59 true 0 0 0
def bl54 : B := .row [(.nat .i64 20),(.nat .i64 0),(.nat .i64 0),(.str [49, 47, 50]),(.nat .i64 0),(.nat .i64 0),(.sl k18503 0 0 1 1),(.nat .i64 6),(.nat .i64
  0),(.nat .i64 0),(.str []),(.nat .i64 0),(.nat .i64 0),(.sl k18508 0 0 2 2)] 14 24 false 0 0 0
def bl55 : B := .row [(.nat .i64 0),(.nat .i64 0),(.str [48]),(.nat .i64 6),(.nat .i64 0),(.nat .i64 0),(.str [48]),(.nat .i64 0)] 8 59 true 0 0 0
def bl56 : B := .row [(.nat .i64 0),(.nat .i64 0),(.str [48]),(.nat .i64 1),(.nat .i64 0),(.nat .i64 0),(.str [48]),(.nat .i64 3)] 8 59 true 0 0 0
def bl57 : B := .row [(.nat .i64 2),(.nat .i64 1),(.nat .i64 1),(.str []),(.nat .i64 0),(.nat .i64 0),(.nil 1),(.nat .i64 2),(.nat .i64 1),(.nat .i64 1),(.str
  []),(.nat .i64 0),(.nat .i64 0),(.nil 1)] 14 24 false 0 0 0
def bl58 : B := .row [(.nat .i64 1),(.nat .i64 1),(.str [48]),(.nat .i64 2),(.nat .i64 2),(.nat .i64 2),(.str [48]),(.nat .i64 2)] 8 59 true 0 0 0
def bl59 : B := .row [(.nat .i64 1),(.nat .i64 2),(.str [48]),(.nat .i64 7)] 4 59 true 0 0 0
def bl60 : B := .row [(.nat .i64 1),(.nat .i64 1),(.str [48]),(.nat .i64 3),(.nat .i64 2),(.nat .i64 2),(.str [48]),(.nat .i64 2)] 8 59 true 0 0 0
def bl61 : B := .row [(.nat .i64 14),(.nat .i64 0),(.nat .i64 0),(.str []),(.nat .i64 0),(.nat .i64 0),(.sl k18523 0 0 2 2)] 7 24 false 0 0 0
def bl62 : B := .row [(.nat .i64 1),(.nat .i64 0),(.str [48]),(.so k20895 10 0 5 0)] 4 37 false 0 0 0
def bl63 : B := .row [(.nat .i64 7),(.nat .i64 0),(.nat .i64 0),(.str []),(.nat .i64 0),(.nat .i64 0),(.sl k18515 0 0 1 1),(.nat .i64 5),(.nat .i64 0),(.nat
  .i64 0),(.str []),(.nat .i64 0),(.nat .i64 0),(.sl k18521 0 0 2 2)] 14 24 false 0 0 0
def bl64 : B := .row [(.nat .i64 7),(.nat .i64 0),(.nat .i64 0),(.str []),(.nat .i64 0),(.nat .i64 0),(.sl k18499 0 0 1 1)] 7 24 false 0 0 0
def bl65 : B := .row [(.str [48]),(.so k20882 8 0 2 0),(.str [48]),(.so k20909 8 0 2 0),(.str []),(.so k20933 8 0 2 0),(.str []),(.so k20958 8 0 2 0),(.str
  [48]),(.so k20982 8 0 2 0)] 10 57 true 0 0 0
def bl66 : B := .row [(.nat .i64 0),(.nat .i64 0),(.str [48]),(.nat .i64 4)] 4 59 true 0 0 0
def bl67 : B := .row [(.nat .i64 1),(.nat .i64 1),(.str [48]),(.nat .i64 5)] 4 59 true 0 0 0
def bl68 : B := .row [(.nat .i64 1),(.nat .i64 1),(.str [48]),(.nat .i64 8)] 4 59 true 0 0 0
def bl69 : B := .row [(.nat .i64 0),(.nat .i64 0),(.str [48]),(.nat .i64 6)] 4 59 true 0 0 0
def se0 : S := ⟨(tn (tn (tn (.nd (tr (.nd .lf bl1 .lf)) bl0 (.nd .lf bl2 (.nd .lf bl3 .lf))) (.nd (tn (.nd .lf bl5 .lf) (.nd .lf bl6 .lf)) bl4 (tl (tr (tr (tl
  (tr (tr (.nd .lf bl23 .lf))))))))) (tn (tn (tr (.nd .lf bl7 .lf)) (tn (.nd .lf bl8 .lf) (tl (tr (tl (tr (tr (.nd .lf (.row [(.str [48]),(.so k1869 8 0 2
  0),(.str [48]),(.so k1900 8 0 2 0),(.str []),(.so k1927 8 0 2 0),(.str [48]),(.so k1950 8 0 2 0),(.str []),(.so k1973 8 0 2 0)] 10 57 true 0 0 0) .lf))))))))
  (.nd (.nd .lf bl10 .lf) bl9 (tr (tl (tl (tr (tr (tr (.nd .lf bl22 .lf)))))))))) (tn (tr (tn (tr (.nd .lf bl11 (tl (tr (tr (tr (.nd .lf bl21 .lf))))))) (.nd
  (.nd (tr (tl (tr (tr (.nd .lf bl14 .lf))))) bl13 .lf) bl12 .lf))) (.nd (tn (tn (.nd .lf bl16 .lf) (.nd .lf bl17 .lf)) (.nd (.nd .lf bl19 .lf) bl18 .lf)) bl15
  (tn (tl (tl (tl (tr (tr (tr (.nd .lf bl21 .lf))))))) (.nd .lf bl20 .lf))))), k1997⟩
def hk0 : Hook := ⟨17, [(.ls 0 [(.nat .i64 1),(.nat .i64 0),(.str [48]),(.so k1882 10 0 5 0)]),(.nil 1),(.nil 1)], se0, (.str [48]), se0⟩
def se1 : S := ⟨(tn (tn (tn (.nd (tr (.nd (tr (tr (tr (tr (.nd .lf bl3 .lf))))) bl1 .lf)) bl0 (.nd .lf bl2 .lf)) (.nd (tn (.nd .lf bl5 .lf) (.nd .lf bl6 .lf))
  bl4 (tl (tl (tl (tl (tr (tr (tr (.nd .lf bl23 .lf)))))))))) (tn (tn (tr (.nd .lf bl7 .lf)) (tn (.nd .lf bl8 .lf) (tr (tr (tr (tl (tr (tr (.nd .lf (.row [(.str
  [48]),(.so k3821 8 0 2 0),(.str [48]),(.so k3852 8 0 2 0),(.str []),(.so k3879 8 0 2 0),(.str [48]),(.so k3902 8 0 2 0),(.str []),(.so k3925 8 0 2 0)] 10 57
  true 0 0 0) .lf))))))))) (.nd (.nd .lf bl10 .lf) bl9 (tr (tr (tl (tl (tr (tr (tr (.nd .lf bl22 .lf))))))))))) (tn (tr (tn (tr (.nd (tr (tl (tr (tr (tr (.nd
  .lf bl21 .lf)))))) bl11 .lf)) (.nd (.nd .lf bl13 (tr (tr (tl (tr (tr (.nd .lf bl14 .lf))))))) bl12 .lf))) (.nd (tn (tn (.nd .lf bl16 .lf) (.nd .lf bl17 .lf))
  (.nd (.nd .lf bl19 .lf) bl18 .lf)) bl15 (tn (tl (tr (tl (tl (tr (tr (tr (.nd .lf bl21 .lf)))))))) (.nd .lf bl20 .lf))))), k3949⟩
def hk1 : Hook := ⟨17, [(.ls 0 [(.nat .i64 1),(.nat .i64 0),(.str [48]),(.so k3834 10 0 5 0)]),(.sl k52 0 0 1 1),(.sl k52 0 0 1 1)], se1, (.str [48]), se1⟩
def se2 : S := ⟨(tn (tn (tn (.nd (tr (.nd .lf bl1 .lf)) bl0 (.nd (tr (tr (tr (tl (tr (tr (tl (.nd .lf bl22 .lf)))))))) bl2 .lf)) (.nd (tn (.nd .lf bl5 (tl (tr
  (tl (tr (tr (tl (.nd .lf (.row [(.str [48]),(.so k5783 8 0 2 0),(.str [48]),(.so k5814 8 0 2 0),(.str []),(.so k5841 8 0 2 0),(.str [48]),(.so k5864 8 0 2
  0),(.str []),(.so k5887 8 0 2 0)] 10 57 true 0 0 0) .lf)))))))) (.nd .lf bl6 .lf)) bl4 .lf)) (tn (tn (tr (.nd .lf bl7 (tr (tl (tr (tr (tr (.nd .lf bl3
  .lf)))))))) (tl (.nd .lf bl8 .lf))) (.nd (.nd .lf bl10 (tr (tl (tr (tl (tr (tr (tl (.nd .lf bl23 .lf))))))))) bl9 (tl (tr (tr (tl (tr (tr (tr (.nd .lf bl24
  .lf))))))))))) (tn (tn (tl (tr (tl (tr (tr (tl (tr (tr (tl (.nd .lf bl21 .lf)))))))))) (tn (tr (.nd .lf bl11 .lf)) (.nd (.nd .lf bl13 .lf) bl12 .lf))) (.nd
  (tn (tn (.nd .lf bl16 .lf) (.nd .lf bl17 .lf)) (.nd (.nd .lf bl19 .lf) bl18 .lf)) bl15 (tn (tr (tl (tl (tr (tl (tr (tr (tl (.nd .lf bl14 .lf))))))))) (.nd (tr
  (tr (tl (tr (tr (tr (.nd .lf bl24 .lf))))))) bl20 (tr (tr (tr (tl (tr (tr (tl (.nd .lf bl21 .lf))))))))))))), k5911⟩
def hk2 : Hook := ⟨17, [(.ls 0 [(.nat .i64 1),(.nat .i64 0),(.str [48]),(.so k5796 10 0 5 0)]),(.sl k3950 0 0 2 2),(.sl k3951 0 0 2 2)], se2, (.str [48]), se2⟩
def se3 : S := ⟨(tn (tn (tn (tn (tn (tr (tr (tl (tl (tr (tr (tr (.nd .lf bl23 .lf)))))))) (.nd .lf bl1 .lf)) (.nd .lf bl2 (tl (tl (tl (tr (tr (tr (tl (.nd .lf
  bl25 .lf)))))))))) (tn (tn (.nd .lf bl5 .lf) (.nd .lf bl6 .lf)) (tr (tl (tl (tl (tr (tr (tr (tl (.nd .lf bl3 .lf))))))))))) (tn (tn (tr (.nd (tl (tr (tl (tr
  (tr (tr (.nd .lf bl22 .lf))))))) bl7 .lf)) (tl (.nd .lf bl8 .lf))) (tn (.nd .lf bl10 .lf) (tl (tl (tr (tl (tl (tr (tr (tr (.nd .lf (.row [(.str [48]),(.so
  k7745 8 0 2 0),(.str [48]),(.so k7776 8 0 2 0),(.str []),(.so k7803 8 0 2 0),(.str [48]),(.so k7826 8 0 2 0),(.str []),(.so k7849 8 0 2 0)] 10 57 true 0 0 0)
  .lf)))))))))))) (tn (tn (tn (tl (tl (tr (tl (tl (tr (tr (tr (.nd .lf bl14 .lf))))))))) (tn (tr (tl (tr (tl (tr (tr (tr (.nd .lf bl21 .lf)))))))) (tl (tl (tl
  (tr (tr (tr (tl (.nd .lf bl25 .lf)))))))))) (tn (tr (.nd .lf bl11 .lf)) (.nd (.nd .lf bl13 .lf) bl12 .lf))) (tn (tn (tn (.nd .lf bl16 .lf) (.nd .lf bl17 .lf))
  (.nd (.nd .lf bl19 .lf) bl18 (tr (tr (tl (tl (tr (tr (tr (.nd .lf bl21 .lf)))))))))) (tr (.nd .lf bl20 .lf))))), k7873⟩
def hk3 : Hook := ⟨17, [(.ls 0 [(.nat .i64 1),(.nat .i64 0),(.str [48]),(.so k7758 10 0 5 0)]),(.sl k5912 0 0 2 2),(.sl k5913 0 0 2 2)], se3, (.str [105, 110,
  102]), se3⟩
def se4 : S := ⟨(tn (tn (tn (tn (tr (.nd .lf bl1 .lf)) (.nd (tr (tl (tl (tr (tr (tr (tl (tl (.nd .lf (.row [(.str []),(.so k10034 8 0 2 0),(.str []),(.so k10051
  8 0 2 0),(.str []),(.nil 1),(.str []),(.so k10077 4 0 1 0),(.str []),(.nil 1),(.str []),(.so k10189 4 0 1 0),(.str []),(.so k10201 8 0 2 0),(.str []),(.so
  k10221 4 0 1 0),(.str []),(.so k10233 4 0 1 0),(.str []),(.so k10246 4 0 1 0),(.str []),(.nil 1),(.str []),(.so k10358 4 0 1 0),(.str []),(.so k10370 4 0 1
  0),(.str [48]),(.so k10475 4 0 1 0),(.str []),(.nil 1)] 30 57 true 30 0 0) .lf))))))))) bl2 .lf)) (tl (tn (.nd .lf bl5 .lf) (.nd .lf bl6 .lf)))) (tn (tn (tn
  (tl (tn (tr (tl (tl (tl (tr (tl (.nd .lf bl26 .lf))))))) (tr (tl (tr (tr (tr (.nd .lf bl27 .lf)))))))) (.nd .lf bl7 (tl (tl (tr (tr (tr (tl (tl (.nd .lf bl28
  .lf)))))))))) (tl (.nd .lf bl8 .lf))) (tl (.nd (tl (tl (tl (tl (tl (tl (tr (tl (.nd .lf bl29 .lf))))))))) bl10 (tr (tr (tl (tl (tl (tl (tr (tl (.nd .lf bl30
  .lf))))))))))))) (tn (tn (tr (tr (tn (tr (tr (tr (tr (tr (tl (tl (.nd .lf bl31 .lf)))))))) (tr (tr (tr (tr (tr (tl (tl (.nd .lf bl32 .lf))))))))))) (tn (tn
  (tl (tr (tr (tl (tr (tr (tr (.nd .lf bl3 .lf)))))))) (.nd .lf bl11 .lf)) (.nd (.nd (tr (tr (tr (tr (tr (tl (tl (.nd .lf bl33 .lf)))))))) bl13 (tr (tr (tr (tr
  (tr (tl (tl (.nd .lf bl34 .lf))))))))) bl12 (tl (tr (tl (tr (tr (tr (tl (tl (.nd .lf bl35 .lf)))))))))))) (tn (tn (tn (.nd (tr (tl (tr (tr (tr (tl (tl (.nd
  .lf bl36 .lf)))))))) bl16 .lf) (.nd .lf bl17 .lf)) (.nd (.nd .lf bl19 (tr (tr (tl (tl (tl (tr (tl (.nd .lf bl37 .lf))))))))) bl18 .lf)) (tr (.nd .lf bl20
  .lf))))), k10485⟩
def hk4 : Hook := ⟨17, [(.ls 0 [(.nat .i64 1),(.nat .i64 0),(.str [48]),(.so k10024 30 0 15 0)]),(.sl k52 0 0 1 1),(.sl k7874 0 0 2 2)], se4, (.str [48]), se4⟩
def se5 : S := ⟨(tn (tn (tn (tl (tr (.nd .lf bl1 .lf))) (tn (tn (.nd .lf bl5 .lf) (.nd .lf bl6 .lf)) (tr (tl (tr (tl (tr (tl (tl (tl (tr (.nd .lf (.row [(.str
  []),(.so k12646 8 0 2 0),(.str []),(.so k12663 8 0 2 0),(.str []),(.nil 1),(.str []),(.so k12689 4 0 1 0),(.str []),(.nil 1),(.str []),(.so k12801 4 0 1
  0),(.str []),(.so k12813 8 0 2 0),(.str []),(.so k12833 4 0 1 0),(.str []),(.so k12845 4 0 1 0),(.str []),(.so k12858 4 0 1 0),(.str []),(.nil 1),(.str
  []),(.so k12970 4 0 1 0),(.str []),(.so k12982 4 0 1 0),(.str [48]),(.so k13087 4 0 1 0),(.str []),(.nil 1)] 30 57 true 30 0 0) .lf)))))))))))) (tn (tn (tr
  (.nd .lf bl7 .lf)) (tn (.nd .lf bl8 (tl (tr (tl (tr (tl (tl (tr (.nd .lf bl30 .lf))))))))) (tr (tl (tl (tl (tr (tl (tl (tr (.nd .lf bl29 .lf))))))))))) (tl
  (tn (tr (tr (tl (tr (tl (tl (tl (tr (.nd .lf bl28 .lf))))))))) (tr (tn (tr (tl (tr (tl (tl (tr (.nd .lf bl26 .lf))))))) (tr (tl (tl (tl (tr (tl (.nd .lf bl24
  .lf))))))))))))) (tn (tn (tn (tn (tn (tl (tl (tl (tr (tl (tl (tr (.nd .lf bl33 .lf)))))))) (tl (tl (tl (tr (tl (tl (tr (.nd .lf bl34 .lf))))))))) (tl (tl (tr
  (tr (tl (tl (tl (tr (.nd .lf bl35 .lf)))))))))) (tr (tr (tr (tr (tl (tl (tl (tr (tl (.nd .lf bl3 .lf))))))))))) (tn (tr (.nd .lf bl11 .lf)) (tl (.nd (tl (tl
  (tl (tr (tl (tl (tr (.nd .lf bl31 .lf)))))))) bl13 (tl (tl (tl (tr (tl (tl (tr (.nd .lf bl32 .lf)))))))))))) (tn (tn (tn (.nd .lf bl16 .lf) (.nd .lf bl17
  .lf)) (tl (.nd .lf bl19 .lf))) (tn (tr (tr (tr (tl (tr (tl (tl (tl (tr (.nd .lf bl36 .lf)))))))))) (tr (tl (tl (tl (tr (tr (tl (tl (tr (.nd .lf bl37
  .lf)))))))))))))), k13097⟩
def hk5 : Hook := ⟨17, [(.ls 0 [(.nat .i64 1),(.nat .i64 0),(.str [48]),(.so k12636 30 0 15 0)]),(.sl k52 0 0 1 1),(.sl k10486 0 0 2 2)], se5, (.str [105, 110,
  102]), se5⟩
def se6 : S := ⟨(tn (tn (tn (tn (tr (.nd .lf bl1 .lf)) (tn (tl (tl (tr (tl (tl (tl (tr (tr (.nd .lf (.row [(.str []),(.so k14488 8 0 2 0),(.str []),(.so k14484
  4 0 1 0),(.str [48]),(.nil 1),(.str []),(.so k14499 4 0 1 0),(.str [48]),(.nil 1)] 10 57 true 10 0 0) .lf))))))))) (tl (tl (tr (tl (tl (tl (tr (tr (.nd .lf
  bl38 .lf))))))))))) (tn (tn (.nd .lf bl5 .lf) (.nd (tl (tr (tl (tl (tl (tr (tr (.nd .lf bl39 .lf)))))))) bl6 .lf)) (tl (tr (tl (tl (tr (tr (tl (tl (tr (.nd
  .lf bl3 .lf)))))))))))) (tl (tn (tr (.nd .lf bl7 .lf)) (tl (.nd .lf bl8 .lf))))) (tn (tr (tn (tr (.nd .lf bl11 .lf)) (tl (.nd .lf bl13 .lf)))) (tl (tn (tn
  (.nd .lf bl16 (tl (tr (tl (tl (tl (tr (tr (.nd .lf bl40 .lf))))))))) (.nd .lf bl17 .lf)) (tl (.nd .lf bl19 .lf)))))), k14509⟩
def hk6 : Hook := ⟨17, [(.ls 0 [(.nat .i64 1),(.nat .i64 0),(.str [48]),(.so k14472 10 0 5 0)]),(.sl k52 0 0 1 1),(.sl k52 0 0 1 1)], se6, (.str [50]), se6⟩
def se7 : S := ⟨(tn (tn (tn (tn (tr (.nd .lf bl1 (tl (tr (tl (tl (tl (tr (tr (.nd .lf bl3 .lf)))))))))) (tr (tl (tl (tl (tl (tr (tr (tr (tr (.nd .lf bl39
  .lf))))))))))) (tn (tr (.nd .lf bl6 .lf)) (tn (tl (tl (tl (tl (tr (tr (tr (tr (.nd .lf (.row [(.str []),(.so k15900 8 0 2 0),(.str []),(.so k15896 4 0 1
  0),(.str [48]),(.nil 1),(.str []),(.so k15911 4 0 1 0),(.str [48]),(.nil 1)] 10 57 true 10 0 0) .lf))))))))) (tl (tl (tl (tl (tr (tr (tr (tr (.nd .lf bl38
  .lf)))))))))))) (tl (tl (tr (.nd .lf bl7 .lf))))) (tn (tr (tl (tr (.nd .lf bl11 .lf)))) (tn (tl (tr (.nd .lf bl17 .lf))) (tl (tl (tr (tl (tl (tl (tr (tr (tr
  (tr (.nd .lf bl40 .lf)))))))))))))), k15921⟩
def hk7 : Hook := ⟨17, [(.ls 0 [(.nat .i64 1),(.nat .i64 0),(.str [48]),(.so k15884 10 0 5 0)]),(.sl k53 0 0 1 1),(.sl k53 0 0 1 1)], se7, (.str [49]), se7⟩
def se8 : S := ⟨(tn (tn (tn (tl (tr (.nd .lf bl1 .lf))) (tl (tr (.nd .lf bl6 (tl (tl (tl (tr (tr (tr (tr (.nd .lf bl3 .lf)))))))))))) (tn (tn (tr (.nd .lf bl7
  (tr (tl (tl (tl (tl (tl (tl (tl (.nd .lf bl41 .lf))))))))))) (tr (tl (tl (tr (tl (tl (tl (tl (tl (tl (.nd .lf bl42 .lf)))))))))))) (tr (tn (tl (tl (tr (tl (tl
  (tl (tl (tl (tl (.nd .lf bl43 .lf)))))))))) (tn (tl (tr (tl (tl (tl (tl (tl (tl (.nd .lf bl46 .lf))))))))) (tr (tl (tl (tl (tl (tl (tl (tl (.nd .lf bl44
  .lf)))))))))))))) (tn (tn (tn (tl (tr (tl (tr (tl (tl (tl (tl (tl (tl (.nd .lf bl45 .lf))))))))))) (tr (tl (tr (tl (tl (tl (tl (tl (tl (tl (.nd .lf (.row
  [(.str []),(.so k16510 4 0 1 0),(.str []),(.so k16545 4 0 1 0),(.str [48]),(.nil 1),(.str []),(.so k16491 8 0 2 0),(.str []),(.so k16498 4 0 1 0),(.str
  []),(.so k16503 4 0 1 0),(.str []),(.so k16507 4 0 1 0),(.str []),(.so k16526 8 0 2 0),(.str []),(.so k16533 4 0 1 0),(.str []),(.so k16538 4 0 1 0),(.str
  []),(.so k16542 4 0 1 0)] 22 57 true 22 0 0) .lf)))))))))))) (tl (tr (tl (tl (tr (tl (tl (tl (tl (tl (tl (.nd .lf bl46 .lf))))))))))))) (tn (tn (tr (.nd .lf
  bl17 .lf)) (tn (tr (tr (tl (tl (tl (tl (tl (tl (tl (.nd .lf bl47 .lf)))))))))) (tr (tr (tl (tl (tl (tl (tl (tl (tl (.nd .lf bl41 .lf)))))))))))) (tl (tr (tr
  (tr (tl (tl (tl (tl (tl (tl (tl (.nd .lf bl48 .lf))))))))))))))), k16552⟩
def hk8 : Hook := ⟨17, [(.ls 0 [(.nat .i64 1),(.nat .i64 0),(.str [48]),(.so k16473 22 0 11 0)]),(.nil 1),(.nil 1)], se8, (.str [48]), se8⟩
def se9 : S := ⟨(tn (tn (tn (tn (tn (tr (tl (tl (tr (tr (tl (tl (tl (tl (.nd .lf bl45 .lf)))))))))) (.nd .lf bl1 .lf)) (tr (tl (tr (tr (tl (tr (tl (tl (tl (tl
  (.nd .lf (.row [(.str []),(.so k17149 4 0 1 0),(.str []),(.so k17184 4 0 1 0),(.str [48]),(.nil 1),(.str []),(.so k17130 8 0 2 0),(.str []),(.so k17137 4 0 1
  0),(.str []),(.so k17142 4 0 1 0),(.str []),(.so k17146 4 0 1 0),(.str []),(.so k17165 8 0 2 0),(.str []),(.so k17172 4 0 1 0),(.str []),(.so k17177 4 0 1
  0),(.str []),(.so k17181 4 0 1 0)] 22 57 true 22 0 0) .lf)))))))))))) (tl (tr (.nd (tl (tl (tr (tr (tl (tl (tl (tl (.nd .lf bl46 .lf))))))))) bl6 .lf)))) (tn
  (tn (tr (.nd .lf bl7 .lf)) (tn (tr (tr (tr (tl (tr (tl (tl (tl (tl (.nd .lf bl47 .lf)))))))))) (tr (tr (tr (tl (tr (tl (tl (tl (tl (.nd .lf bl41
  .lf)))))))))))) (tl (tr (tr (tr (tr (tl (tr (tl (tl (tl (tl (.nd .lf bl48 .lf)))))))))))))) (tn (tn (tn (tr (tr (tr (tr (tl (tr (tl (tl (tl (tl (.nd .lf bl41
  .lf))))))))))) (tr (tl (tl (tl (tr (tr (tl (tl (tl (tl (.nd .lf bl42 .lf)))))))))))) (tr (tn (tl (tl (tl (tr (tr (tl (tl (tl (tl (.nd .lf bl43 .lf))))))))))
  (tn (tl (tl (tr (tr (tl (tl (tl (tl (.nd .lf bl46 .lf))))))))) (tr (tr (tl (tr (tl (tl (tl (tl (.nd .lf bl44 .lf))))))))))))) (tl (tn (tr (.nd .lf bl17 .lf))
  (tl (tr (tl (tr (tl (tl (tl (tl (tl (tl (.nd .lf bl3 .lf))))))))))))))), k17191⟩
def hk9 : Hook := ⟨17, [(.ls 0 [(.nat .i64 1),(.nat .i64 0),(.str [48]),(.so k17112 22 0 11 0)]),(.sl k52 0 0 1 1),(.sl k52 0 0 1 1)], se9, (.str [48]), se9⟩
def se10 : S := ⟨(tn (tn (tn (tn (tr (.nd .lf bl1 .lf)) (tl (tr (tl (tl (tr (tr (tl (tl (tl (tl (.nd .lf bl27 .lf)))))))))))) (tr (tl (tr (tl (tl (tr (tr (tl
  (tl (tl (tl (.nd .lf bl3 .lf))))))))))))) (tn (tn (tn (tr (tl (tr (tr (tl (tr (tl (tl (tl (.nd .lf bl42 .lf)))))))))) (.nd .lf bl7 .lf)) (tr (tr (tr (tl (tr
  (tl (tr (tl (tl (tl (.nd .lf bl41 .lf)))))))))))) (tl (tn (tn (tl (tr (tr (tl (tr (tl (tl (tl (.nd .lf bl44 .lf))))))))) (tl (tr (tr (tl (tr (tl (tl (tl (.nd
  .lf bl46 .lf)))))))))) (tl (tl (tr (tr (tl (tr (tl (tl (tl (.nd .lf bl43 .lf)))))))))))))) (tn (tn (tn (tl (tr (tr (tl (tr (tl (tr (tl (tl (tl (.nd .lf (.row
  [(.str []),(.so k17798 4 0 1 0),(.str []),(.so k17833 4 0 1 0),(.str [48]),(.nil 1),(.str []),(.so k17779 8 0 2 0),(.str []),(.so k17786 4 0 1 0),(.str
  []),(.so k17791 4 0 1 0),(.str []),(.so k17795 4 0 1 0),(.str []),(.so k17814 8 0 2 0),(.str []),(.so k17821 4 0 1 0),(.str []),(.so k17826 4 0 1 0),(.str
  []),(.so k17830 4 0 1 0)] 22 57 true 22 0 0) .lf))))))))))) (tl (tr (tl (tn (tr (tr (tl (tl (tl (tl (.nd .lf bl27 .lf))))))) (tr (tl (tr (tl (tl (tl (.nd .lf
  bl45 .lf)))))))))))) (tr (tr (tl (tl (tr (tr (tl (tr (tl (tl (tl (.nd .lf bl46 .lf))))))))))))) (tn (tl (tn (tl (tl (tr (tr (tl (tr (tl (tl (tl (.nd .lf bl41
  .lf)))))))))) (.nd .lf bl17 (tr (tl (tr (tl (tr (tl (tl (tl (.nd .lf bl47 .lf)))))))))))) (tr (tr (tr (tr (tl (tr (tl (tr (tl (tl (tl (.nd .lf bl48
  .lf))))))))))))))), k17840⟩
def hk10 : Hook := ⟨17, [(.ls 0 [(.nat .i64 1),(.nat .i64 0),(.str [48]),(.so k17761 22 0 11 0)]),(.sl k17192 0 0 2 2),(.sl k17193 0 0 2 2)], se10, (.str [48]),
  se10⟩
def se11 : S := ⟨(tn (tn (tn (tl (tr (tl (tl (tl (tl (tl (tl (tr (tl (tl (.nd .lf bl48 .lf)))))))))))) (tl (tn (tl (tl (tl (tl (tl (tl (tr (tl (tl (.nd .lf bl47
  .lf)))))))))) (tl (tl (tl (tl (tl (tl (tr (tl (tl (.nd .lf bl41 .lf))))))))))))) (tn (tn (tr (tr (tn (tr (tr (tl (tr (tl (tl (tl (.nd .lf bl49 .lf)))))))) (tr
  (tr (tr (tr (tl (tl (tl (.nd .lf (.row [(.str []),(.so k18455 4 0 1 0),(.str []),(.so k18490 4 0 1 0),(.str [48]),(.nil 1),(.str []),(.so k18436 8 0 2
  0),(.str []),(.so k18443 4 0 1 0),(.str []),(.so k18448 4 0 1 0),(.str []),(.so k18452 4 0 1 0),(.str []),(.so k18471 8 0 2 0),(.str []),(.so k18478 4 0 1
  0),(.str []),(.so k18483 4 0 1 0),(.str []),(.so k18487 4 0 1 0)] 22 57 true 22 0 0) .lf))))))))))) (tr (tr (tl (tl (tl (tl (tl (tr (tl (tl (.nd .lf bl45
  .lf)))))))))))) (tr (tl (tr (tl (tl (tl (tl (tl (tr (tl (tl (.nd .lf bl46 .lf)))))))))))))) (tn (tn (tl (tr (tr (tl (tr (tr (tl (tr (tl (tl (tl (.nd .lf bl49
  .lf)))))))))))) (tl (tr (tr (tl (tr (tr (tl (tr (tl (tl (tl (.nd .lf bl3 .lf))))))))))))) (tn (tn (tr (tr (tl (tl (tl (tl (tl (tr (tl (tl (.nd .lf bl42
  .lf))))))))))) (tl (tl (tl (tl (tl (tl (tl (tr (tl (tl (.nd .lf bl41 .lf)))))))))))) (tl (tn (tr (tl (tl (tl (tl (tl (tr (tl (tl (.nd .lf bl43 .lf))))))))))
  (tn (tl (tl (tl (tl (tl (tr (tl (tl (.nd .lf bl44 .lf))))))))) (tl (tl (tl (tl (tl (tr (tl (tl (.nd .lf bl46 .lf))))))))))))))), k18497⟩
def hk11 : Hook := ⟨17, [(.ls 0 [(.nat .i64 1),(.nat .i64 0),(.str [48]),(.so k18418 22 0 11 0)]),(.sl k17841 0 0 3 3),(.sl k17842 0 0 3 3)], se11, (.str [105,
  110, 102]), se11⟩
def se12 : S := ⟨(tn (tn (tn (tn (tr (tl (tr (tl (tl (tl (tl (tr (tl (tl (.nd .lf bl50 .lf))))))))))) (tl (tl (tl (tl (tl (tr (tl (tl (tr (tl (.nd .lf bl3
  .lf)))))))))))) (tn (tl (tl (tn (tl (tl (tr (tl (tl (tr (tl (.nd .lf bl27 .lf)))))))) (tr (tl (tl (tl (tr (tr (tl (.nd .lf (.row [(.str []),(.so k22737 8 0 2
  0),(.str []),(.so k22745 4 0 1 0),(.str [48]),(.nil 1),(.str []),(.so k22751 4 0 1 0),(.str [48]),(.nil 1),(.str []),(.so k22766 8 0 2 0),(.str []),(.so
  k22773 4 0 1 0),(.str []),(.so k22778 4 0 1 0)] 16 57 true 16 0 0) .lf))))))))))) (tl (tl (tr (tl (tl (tl (tl (tr (tl (tl (.nd .lf bl51 .lf))))))))))))) (tn
  (tn (tr (tl (tl (tr (tr (tl (tl (tl (tr (tl (.nd .lf bl52 .lf))))))))))) (tr (tr (tr (tr (tl (tl (tl (tr (tr (tl (.nd .lf bl35 .lf)))))))))))) (tn (tr (tr (tr
  (tr (tr (tl (tl (tl (tr (tl (.nd .lf bl53 .lf))))))))))) (tn (tn (tr (tl (tl (tl (tl (tr (tl (tl (.nd .lf bl54 .lf))))))))) (tr (tr (tl (tl (tl (tr (tr (tl
  (.nd .lf bl55 .lf)))))))))) (tl (tr (tr (tr (tl (tl (tl (tr (tl (.nd .lf bl53 .lf)))))))))))))) (tn (tn (tn (tr (tl (tr (tr (tl (tl (tl (tr (tr (tl (.nd .lf
  bl56 .lf))))))))))) (tr (tl (tr (tn (tl (tl (tl (tr (tl (tl (.nd .lf bl57 .lf))))))) (tl (tl (tl (tr (tr (tl (.nd .lf bl39 .lf)))))))))))) (tn (tn (tl (tn (tl
  (tl (tr (tl (tl (tr (tl (.nd .lf bl25 .lf)))))))) (tr (tr (tl (tl (tl (tr (tl (.nd .lf bl58 .lf)))))))))) (tr (tr (tr (tl (tl (tl (tr (tr (tl (.nd .lf bl59
  .lf))))))))))) (tn (tr (tl (tr (tr (tl (tl (tl (tr (tl (.nd .lf bl60 .lf)))))))))) (tl (tr (tl (tl (tl (tl (tr (tl (tl (.nd .lf bl61 .lf))))))))))))) (tn (tn
  (tn (tl (tn (tl (tl (tr (tl (tl (tr (tl (.nd .lf bl62 .lf)))))))) (tl (tl (tl (tl (tr (tl (tl (.nd .lf bl16 .lf)))))))))) (tl (tr (tl (tl (tl (tl (tr (tl (tl
  (.nd .lf bl1 .lf))))))))))) (tr (tl (tr (tl (tl (tl (tl (tr (tl (tl (.nd .lf bl63 .lf)))))))))))) (tn (tl (tl (tr (tl (tl (tl (tl (tr (tl (tl (.nd .lf bl64
  .lf))))))))))) (tr (tl (tn (tr (tr (tl (tl (tl (tr (tl (.nd .lf bl65 .lf)))))))) (tr (tl (tl (tl (tr (tr (tl (.nd .lf bl40 .lf))))))))))))))), k22785⟩
def hk12 : Hook := ⟨17, [(.ls 0 [(.nat .i64 1),(.nat .i64 5),(.str [49, 47, 50]),(.so k22724 16 0 8 0)]),(.sl k20996 0 0 2 2),(.sl k20997 0 0 2 2)], se12, (.str
  [49, 47, 50]), se12⟩
def se13 : S := ⟨(tn (tn (tl (tl (tr (tl (tr (tr (tr (tr (tr (tr (tr (tl (.nd .lf bl40 .lf))))))))))))) (tn (tn (tn (tl (tn (tl (tr (tl (tl (tr (tr (tl (.nd .lf
  bl6 .lf)))))))) (tr (tr (tr (tr (tr (tr (tl (.nd .lf bl56 .lf)))))))))) (tl (tl (tr (tr (tl (tl (tl (tr (tl (.nd .lf bl52 .lf))))))))))) (tl (tl (tr (tr (tr
  (tr (tr (tr (tr (tl (.nd .lf bl39 .lf)))))))))))) (tn (tn (tr (tr (tr (tr (tr (tr (tr (tr (tl (.nd .lf bl59 .lf)))))))))) (tr (tr (tr (tr (tl (tl (tl (tr (tl
  (.nd .lf bl53 .lf))))))))))) (tr (tl (tr (tr (tr (tl (tl (tl (tr (tl (.nd .lf bl53 .lf)))))))))))))) (tn (tn (tr (tr (tl (tr (tl (tl (tl (tl (tr (tl (tl (.nd
  .lf bl57 .lf)))))))))))) (tn (tn (tl (tn (tl (tr (tl (tl (tr (tr (tl (.nd .lf bl3 .lf)))))))) (tr (tr (tl (tl (tl (tr (tl (.nd .lf bl58 .lf)))))))))) (tr (tl
  (tr (tr (tr (tr (tr (tr (tl (.nd .lf (.row [(.str []),(.so k24514 8 0 2 0),(.str []),(.so k24522 4 0 1 0),(.str [48]),(.nil 1),(.str []),(.so k24528 4 0 1
  0),(.str [48]),(.nil 1),(.str []),(.so k24543 8 0 2 0),(.str []),(.so k24550 4 0 1 0),(.str []),(.so k24555 4 0 1 0)] 16 57 true 16 0 0) .lf))))))))))) (tn
  (tr (tl (tr (tr (tl (tl (tl (tr (tl (.nd .lf bl60 .lf)))))))))) (tl (tr (tl (tl (tl (tl (tr (tl (tl (.nd .lf bl61 .lf))))))))))))) (tn (tn (tn (tl (tl (tl (tl
  (tr (tl (tl (tr (tl (.nd .lf bl62 .lf)))))))))) (tl (tr (tl (tl (tl (tl (tr (tl (tl (.nd .lf bl1 .lf))))))))))) (tn (tr (tr (tr (tr (tr (tr (tr (tr (tl (.nd
  .lf bl35 .lf)))))))))) (tl (tr (tl (tl (tl (tl (tr (tl (tl (.nd .lf bl63 .lf)))))))))))) (tr (tr (tl (tn (tr (tr (tl (tl (tl (tr (tl (.nd .lf bl65 .lf))))))))
  (tr (tr (tr (tr (tr (tr (tl (.nd .lf bl55 .lf))))))))))))))), k24562⟩
def hk13 : Hook := ⟨17, [(.ls 0 [(.nat .i64 1),(.nat .i64 5),(.str [49, 47, 50]),(.so k24501 16 0 8 0)]),(.sl k22786 0 0 1 1),(.nil 1)], se13, (.str [105, 110,
  102]), se13⟩
def se14 : S := ⟨(tn (tn (tr (tn (tn (tl (tl (tl (tr (tl (tr (tl (tl (tr (.nd .lf (.row [(.str [48]),(.so k25868 4 0 1 0),(.str []),(.so k25886 4 0 1 0),(.str
  []),(.so k25894 4 0 1 0),(.str [48]),(.so k25902 4 0 1 0),(.str []),(.so k25918 4 0 1 0),(.str []),(.so k25926 4 0 1 0),(.str []),(.so k25934 4 0 1 0),(.str
  []),(.so k25945 4 0 1 0),(.str []),(.so k25953 4 0 1 0),(.str [48]),(.so k25961 4 0 1 0),(.str []),(.so k25969 4 0 1 0)] 22 57 true 22 0 0) .lf)))))))))) (tr
  (tr (tr (tr (tr (tr (tr (tr (tl (.nd .lf bl6 .lf))))))))))) (tl (tl (tl (tl (tr (tl (tr (tl (tl (tr (.nd .lf bl41 .lf))))))))))))) (tn (tl (tr (tl (tl (tr (tr
  (tl (tl (tl (tr (tl (.nd .lf bl52 .lf)))))))))))) (tn (tn (tn (tr (tl (tr (tl (tr (tl (tl (tr (.nd .lf bl69 .lf))))))))) (tl (tl (tr (tl (tr (tl (tl (tr (.nd
  .lf bl44 .lf)))))))))) (tr (tr (tr (tr (tl (tl (tl (tr (tl (.nd .lf bl53 .lf))))))))))) (tn (tn (tr (tl (tr (tl (tr (tl (tl (tr (.nd .lf bl45 .lf))))))))) (tl
  (tl (tr (tl (tr (tl (tl (tr (.nd .lf bl66 .lf)))))))))) (tn (tn (tl (tr (tl (tr (tl (tl (tr (.nd .lf bl39 .lf)))))))) (tr (tr (tl (tl (tl (tr (tl (.nd .lf
  bl53 .lf))))))))) (tl (tl (tr (tl (tr (tl (tl (tr (.nd .lf bl67 .lf)))))))))))))) (tn (tn (tn (tn (tr (tr (tl (tr (tl (tr (tl (tl (tr (.nd .lf bl34
  .lf)))))))))) (tr (tr (tl (tr (tl (tr (tl (tl (tr (.nd .lf bl68 .lf))))))))))) (tn (tr (tr (tl (tr (tl (tr (tl (tl (tr (.nd .lf bl32 .lf)))))))))) (tl (tr (tl
  (tn (tl (tl (tr (tl (tl (.nd .lf bl57 .lf)))))) (tl (tr (tl (tl (tr (.nd .lf bl68 .lf)))))))))))) (tn (tl (tl (tr (tr (tr (tl (tl (tl (tr (tl (.nd .lf bl58
  .lf))))))))))) (tn (tr (tl (tr (tr (tl (tl (tl (tr (tl (.nd .lf bl60 .lf)))))))))) (tl (tr (tl (tl (tl (tl (tr (tl (tl (.nd .lf bl61 .lf))))))))))))) (tn (tn
  (tn (tl (tl (tl (tl (tr (tl (tl (tr (tl (.nd .lf bl62 .lf)))))))))) (tn (tr (tl (tl (tl (tl (tr (tl (tl (.nd .lf bl1 .lf))))))))) (tr (tr (tr (tr (tr (tr (tr
  (tl (.nd .lf bl6 .lf))))))))))) (tr (tl (tr (tl (tl (tl (tl (tr (tl (tl (.nd .lf bl63 .lf)))))))))))) (tn (tr (tr (tr (tr (tr (tr (tr (tr (tr (tl (.nd .lf bl3
  .lf))))))))))) (tr (tl (tl (tr (tr (tl (tl (tl (tr (tl (.nd .lf bl65 .lf))))))))))))))), k25976⟩
def hk14 : Hook := ⟨17, [(.ls 0 [(.nat .i64 1),(.nat .i64 0),(.str [48]),(.so k25860 22 0 11 0)]),(.sl k24563 0 0 1 1),(.sl k24564 0 0 1 1)], se14, (.str [48]),
  se14⟩
def se15 : S := ⟨(tn (tn (tr (tn (tr (tn (tr (tr (tl (tr (tl (tr (tl (tr (.nd .lf bl69 .lf))))))))) (tl (tr (tl (tr (tl (tr (tl (tr (.nd .lf bl44 .lf)))))))))))
  (tn (tn (tr (tr (tl (tr (tl (tr (tl (tr (.nd .lf bl67 .lf))))))))) (tl (tr (tl (tr (tl (tr (tl (tr (.nd .lf bl39 .lf)))))))))) (tn (tr (tr (tl (tr (tl (tr (tl
  (tr (.nd .lf bl45 .lf))))))))) (tl (tr (tl (tr (tl (tr (tl (tr (.nd .lf bl66 .lf))))))))))))) (tn (tn (tr (tl (tl (tr (tn (tr (tl (tr (tl (tr (.nd .lf (.row
  [(.str [48]),(.so k27290 4 0 1 0),(.str []),(.so k27308 4 0 1 0),(.str []),(.so k27316 4 0 1 0),(.str [48]),(.so k27324 4 0 1 0),(.str []),(.so k27340 4 0 1
  0),(.str []),(.so k27348 4 0 1 0),(.str []),(.so k27356 4 0 1 0),(.str []),(.so k27367 4 0 1 0),(.str []),(.so k27375 4 0 1 0),(.str [48]),(.so k27383 4 0 1
  0),(.str []),(.so k27391 4 0 1 0)] 22 57 true 22 0 0) .lf)))))) (tl (tl (tl (tr (tl (.nd .lf bl52 .lf))))))))))) (tr (tn (tl (tr (tl (tr (tl (tr (tl (tr (.nd
  .lf bl41 .lf))))))))) (tr (tl (tr (tl (tr (tl (tl (tr (.nd .lf bl27 .lf)))))))))))) (tn (tr (tr (tr (tr (tr (tl (tl (tl (tr (tl (.nd .lf bl53 .lf)))))))))))
  (tr (tl (tr (tr (tr (tl (tl (tl (tr (tl (.nd .lf bl53 .lf)))))))))))))) (tn (tn (tr (tr (tr (tr (tl (tr (tl (tr (tl (tl (tr (.nd .lf bl27 .lf)))))))))))) (tn
  (tl (tl (tr (tr (tr (tl (tl (tl (tr (tl (.nd .lf bl58 .lf))))))))))) (tn (tr (tl (tr (tr (tl (tl (tl (tr (tl (.nd .lf bl60 .lf)))))))))) (tr (tr (tl (tr (tl
  (tr (tl (tl (tr (.nd .lf bl3 .lf))))))))))))) (tn (tl (tl (tl (tl (tl (tl (tr (tl (tl (tr (tl (.nd .lf bl62 .lf)))))))))))) (tn (tn (tr (tr (tr (tl (tr (tl
  (tr (tl (tr (.nd .lf bl68 .lf)))))))))) (tr (tr (tr (tl (tr (tl (tr (tl (tr (.nd .lf bl32 .lf))))))))))) (tn (tr (tr (tr (tl (tr (tl (tr (tl (tr (.nd .lf bl34
  .lf)))))))))) (tn (tl (tr (tr (tl (tl (tl (tr (tl (.nd .lf bl65 .lf))))))))) (tr (tr (tl (tr (tl (tr (tl (tr (.nd .lf bl68 .lf))))))))))))))), k27398⟩
def hk15 : Hook := ⟨17, [(.ls 0 [(.nat .i64 1),(.nat .i64 0),(.str [48]),(.so k27282 22 0 11 0)]),(.sl k25977 0 0 2 2),(.sl k25978 0 0 2 2)], se15, (.str [105,
  110, 102]), se15⟩
def hk16 : Hook := ⟨8, [(.ls 0 [(.nat .i64 15),(.nat .i64 0),(.nat .i64 0),(.str []),(.nat .i64 0),(.nat .i64 0),(.sl k14 0 0 1 1)]),(.nil 1),(.nil 1),(.str
  [48])], ⟨(tn (tn (tn (.nd (tr (.nd .lf bl1 .lf)) bl0 (.nd .lf bl2 .lf)) (.nd (tn (.nd .lf bl5 .lf) (.nd .lf bl6 .lf)) bl4 .lf)) (tn (tn (tr (.nd .lf bl7 .lf))
  (tl (.nd .lf bl8 .lf))) (.nd (.nd .lf bl10 .lf) bl9 .lf))) (tn (tr (tn (tr (.nd .lf bl11 .lf)) (.nd (.nd .lf bl13 .lf) bl12 .lf))) (.nd (tn (tn (.nd .lf bl16
  .lf) (.nd .lf bl17 .lf)) (.nd (.nd .lf bl19 .lf) bl18 .lf)) bl15 (tr (.nd .lf bl20 .lf))))), k54⟩, (.bool true), ⟨(tn (tn (tn (.nd (tr (.nd .lf bl1 .lf)) bl0
  (.nd .lf bl2 .lf)) (.nd (tn (.nd .lf bl5 .lf) (.nd .lf bl6 .lf)) bl4 .lf)) (tn (tn (tr (.nd .lf bl7 .lf)) (tl (.nd .lf bl8 .lf))) (.nd (.nd .lf bl10 .lf) bl9
  .lf))) (tn (tr (tn (tr (.nd .lf bl11 .lf)) (.nd (.nd .lf bl13 .lf) bl12 .lf))) (.nd (tn (tn (.nd .lf bl16 .lf) (.nd .lf bl17 .lf)) (.nd (.nd .lf bl19 .lf)
  bl18 .lf)) bl15 (tr (.nd .lf bl20 .lf))))), k1998⟩⟩
def hk17 : Hook := ⟨8, [(.ls 0 [(.nat .i64 15),(.nat .i64 0),(.nat .i64 0),(.str []),(.nat .i64 0),(.nat .i64 0),(.sl k14 0 0 1 1)]),(.sl k52 0 0 1 1),(.sl k52
  0 0 1 1),(.str [48])], ⟨(tn (tn (tn (.nd (tr (.nd .lf bl1 .lf)) bl0 (.nd .lf bl2 .lf)) (.nd (tn (.nd .lf bl5 .lf) (.nd .lf bl6 .lf)) bl4 .lf)) (tn (tn (tr
  (.nd .lf bl7 .lf)) (tl (.nd .lf bl8 .lf))) (.nd (.nd .lf bl10 .lf) bl9 .lf))) (tn (tr (tn (tr (.nd .lf bl11 .lf)) (.nd (.nd .lf bl13 .lf) bl12 .lf))) (.nd (tn
  (tn (.nd .lf bl16 .lf) (.nd .lf bl17 .lf)) (.nd (.nd .lf bl19 .lf) bl18 .lf)) bl15 (tr (.nd .lf bl20 .lf))))), k1998⟩, (.bool true), ⟨(tn (tn (tn (.nd (tr
  (.nd .lf bl1 .lf)) bl0 (.nd .lf bl2 .lf)) (.nd (tn (.nd .lf bl5 .lf) (.nd .lf bl6 .lf)) bl4 .lf)) (tn (tn (tr (.nd .lf bl7 .lf)) (tl (.nd .lf bl8 .lf))) (.nd
  (.nd .lf bl10 .lf) bl9 .lf))) (tn (tr (tn (tr (.nd .lf bl11 .lf)) (.nd (.nd .lf bl13 .lf) bl12 .lf))) (.nd (tn (tn (.nd .lf bl16 .lf) (.nd .lf bl17 .lf)) (.nd
  (.nd .lf bl19 .lf) bl18 .lf)) bl15 (tr (.nd .lf bl20 .lf))))), k3950⟩⟩
def hk18 : Hook := ⟨8, [(.ls 0 [(.nat .i64 15),(.nat .i64 0),(.nat .i64 0),(.str []),(.nat .i64 0),(.nat .i64 0),(.sl k14 0 0 1 1)]),(.sl k3950 0 0 2 2),(.sl
  k3951 0 0 2 2),(.str [48])], ⟨(tn (tn (tn (.nd (tr (.nd .lf bl1 .lf)) bl0 (.nd .lf bl2 .lf)) (.nd (tn (.nd .lf bl5 .lf) (.nd .lf bl6 .lf)) bl4 .lf)) (tn (tn
  (tr (.nd .lf bl7 .lf)) (tl (.nd .lf bl8 .lf))) (.nd (.nd .lf bl10 .lf) bl9 (tl (tr (tr (tl (tr (tr (tr (.nd .lf bl24 .lf))))))))))) (tn (tr (tn (tr (.nd .lf
  bl11 .lf)) (.nd (.nd .lf bl13 .lf) bl12 .lf))) (.nd (tn (tn (.nd .lf bl16 .lf) (.nd .lf bl17 .lf)) (.nd (.nd .lf bl19 .lf) bl18 .lf)) bl15 (tr (.nd (tr (tr
  (tl (tr (tr (tr (.nd .lf bl24 .lf))))))) bl20 .lf))))), k3952⟩, (.bool true), ⟨(tn (tn (tn (.nd (tr (.nd .lf bl1 .lf)) bl0 (.nd .lf bl2 .lf)) (.nd (tn (.nd
  .lf bl5 .lf) (.nd .lf bl6 .lf)) bl4 .lf)) (tn (tn (tr (.nd .lf bl7 .lf)) (tl (.nd .lf bl8 .lf))) (.nd (.nd .lf bl10 .lf) bl9 .lf))) (tn (tr (tn (tr (.nd .lf
  bl11 .lf)) (.nd (.nd .lf bl13 .lf) bl12 .lf))) (.nd (tn (tn (.nd .lf bl16 .lf) (.nd .lf bl17 .lf)) (.nd (.nd .lf bl19 .lf) bl18 .lf)) bl15 (tr (.nd .lf bl20
  .lf))))), k5912⟩⟩
def hk19 : Hook := ⟨8, [(.ls 0 [(.nat .i64 15),(.nat .i64 0),(.nat .i64 0),(.str []),(.nat .i64 0),(.nat .i64 0),(.sl k14 0 0 1 1)]),(.sl k5912 0 0 2 2),(.sl
  k5913 0 0 2 2),(.str [105, 110, 102])], ⟨(tn (tn (tn (tn (tr (.nd .lf bl1 .lf)) (.nd .lf bl2 (tl (tl (tl (tr (tr (tr (tl (.nd .lf bl25 .lf)))))))))) (.nd (tn
  (.nd .lf bl5 .lf) (.nd .lf bl6 .lf)) bl4 .lf)) (tn (tn (tr (.nd .lf bl7 .lf)) (tl (.nd .lf bl8 .lf))) (.nd (.nd .lf bl10 .lf) bl9 .lf))) (tn (tn (tr (tr (tl
  (tl (tl (tr (tr (tr (tl (.nd .lf bl25 .lf)))))))))) (tn (tr (.nd .lf bl11 .lf)) (.nd (.nd .lf bl13 .lf) bl12 .lf))) (.nd (tn (tn (.nd .lf bl16 .lf) (.nd .lf
  bl17 .lf)) (.nd (.nd .lf bl19 .lf) bl18 .lf)) bl15 (tr (.nd .lf bl20 .lf))))), k5914⟩, (.bool true), ⟨(tn (tn (tn (tn (tr (.nd .lf bl1 .lf)) (.nd .lf bl2
  .lf)) (tl (tn (.nd .lf bl5 .lf) (.nd .lf bl6 .lf)))) (tn (tn (tr (.nd .lf bl7 .lf)) (tl (.nd .lf bl8 .lf))) (tl (.nd .lf bl10 .lf)))) (tn (tr (tn (tr (.nd .lf
  bl11 .lf)) (.nd (.nd .lf bl13 .lf) bl12 .lf))) (tn (tn (tn (.nd .lf bl16 .lf) (.nd .lf bl17 .lf)) (.nd (.nd .lf bl19 .lf) bl18 .lf)) (tr (.nd .lf bl20
  .lf))))), k7874⟩⟩
def hk20 : Hook := ⟨8, [(.ls 0 [(.nat .i64 12),(.nat .i64 0),(.nat .i64 0),(.str []),(.nat .i64 0),(.nat .i64 0),(.sl k29 0 0 2 2)]),(.sl k52 0 0 1 1),(.sl
  k7874 0 0 2 2),(.str [48])], ⟨(tn (tn (tn (tn (tr (.nd .lf bl1 .lf)) (.nd .lf bl2 .lf)) (tl (tn (.nd .lf bl5 .lf) (.nd .lf bl6 .lf)))) (tn (tn (tn (tl (tr (tr
  (tl (tr (tr (tr (.nd .lf bl27 .lf)))))))) (.nd .lf bl7 .lf)) (tl (.nd .lf bl8 .lf))) (tl (.nd .lf bl10 .lf)))) (tn (tr (tn (tr (.nd .lf bl11 .lf)) (.nd (.nd
  .lf bl13 .lf) bl12 .lf))) (tn (tn (tn (.nd .lf bl16 .lf) (.nd .lf bl17 .lf)) (.nd (.nd .lf bl19 .lf) bl18 .lf)) (tr (.nd .lf bl20 .lf))))), k7875⟩, (.bool
  true), ⟨(tn (tn (tn (tn (tr (.nd .lf bl1 .lf)) (.nd .lf bl2 .lf)) (tl (tn (.nd .lf bl5 .lf) (.nd .lf bl6 .lf)))) (tn (tn (tr (.nd .lf bl7 .lf)) (tl (.nd .lf
  bl8 .lf))) (tl (.nd .lf bl10 .lf)))) (tn (tr (tn (tr (.nd .lf bl11 .lf)) (.nd (.nd .lf bl13 .lf) bl12 .lf))) (tn (tn (tn (.nd .lf bl16 .lf) (.nd .lf bl17
  .lf)) (.nd (.nd .lf bl19 .lf) bl18 .lf)) (tr (.nd .lf bl20 .lf))))), k10486⟩⟩
def hk21 : Hook := ⟨8, [(.ls 0 [(.nat .i64 12),(.nat .i64 0),(.nat .i64 0),(.str []),(.nat .i64 0),(.nat .i64 0),(.sl k29 0 0 2 2)]),(.sl k52 0 0 1 1),(.sl
  k10486 0 0 2 2),(.str [105, 110, 102])], ⟨(tn (tn (tn (tn (tr (.nd .lf bl1 .lf)) (.nd .lf bl2 .lf)) (tl (tn (.nd .lf bl5 .lf) (.nd .lf bl6 .lf)))) (tn (tn (tr
  (.nd .lf bl7 .lf)) (tl (.nd .lf bl8 .lf))) (tl (.nd .lf bl10 (tr (tr (tr (tl (tl (tl (tr (tl (.nd .lf bl24 .lf))))))))))))) (tn (tr (tn (tr (.nd .lf bl11
  .lf)) (.nd (.nd .lf bl13 .lf) bl12 .lf))) (tl (tn (tn (.nd .lf bl16 .lf) (.nd .lf bl17 .lf)) (.nd (.nd .lf bl19 .lf) bl18 .lf))))), k10487⟩, (.bool true),
  ⟨(tn (tn (tn (tl (tr (.nd .lf bl1 .lf))) (tl (tn (.nd .lf bl5 .lf) (.nd .lf bl6 .lf)))) (tl (tn (tr (.nd .lf bl7 .lf)) (tl (.nd .lf bl8 .lf))))) (tn (tr (tn
  (tr (.nd .lf bl11 .lf)) (tl (.nd .lf bl13 .lf)))) (tl (tn (tn (.nd .lf bl16 .lf) (.nd .lf bl17 .lf)) (tl (.nd .lf bl19 .lf)))))), k13098⟩⟩
def hk22 : Hook := ⟨8, [(.ls 0 [(.nat .i64 6),(.nat .i64 0),(.nat .i64 0),(.str []),(.nat .i64 0),(.nat .i64 0),(.sl k43 0 0 2 2)]),(.sl k52 0 0 1 1),(.sl k52 0
  0 1 1),(.str [50])], ⟨(tn (tn (tn (tl (tr (.nd .lf bl1 .lf))) (tl (tn (.nd .lf bl5 .lf) (.nd .lf bl6 .lf)))) (tl (tn (tr (.nd .lf bl7 .lf)) (tl (.nd .lf bl8
  .lf))))) (tn (tr (tn (tr (.nd .lf bl11 .lf)) (tl (.nd .lf bl13 .lf)))) (tl (tn (tn (.nd .lf bl16 .lf) (.nd .lf bl17 .lf)) (tl (.nd .lf bl19 .lf)))))),
  k13098⟩, (.bool true), ⟨(tn (tn (tn (tl (tr (.nd .lf bl1 .lf))) (tl (tn (.nd .lf bl5 .lf) (.nd .lf bl6 .lf)))) (tl (tn (tr (.nd .lf bl7 .lf)) (tl (.nd .lf bl8
  .lf))))) (tn (tr (tn (tr (.nd .lf bl11 .lf)) (tl (.nd .lf bl13 .lf)))) (tl (tn (tn (.nd .lf bl16 .lf) (.nd .lf bl17 .lf)) (tl (.nd .lf bl19 .lf)))))),
  k14510⟩⟩
def hk23 : Hook := ⟨8, [(.ls 0 [(.nat .i64 6),(.nat .i64 0),(.nat .i64 0),(.str []),(.nat .i64 0),(.nat .i64 0),(.sl k43 0 0 2 2)]),(.sl k53 0 0 1 1),(.sl k53 0
  0 1 1),(.str [49])], ⟨(tn (tn (tn (tl (tr (.nd .lf bl1 .lf))) (tl (tn (.nd .lf bl5 .lf) (.nd .lf bl6 .lf)))) (tl (tn (tr (.nd .lf bl7 .lf)) (tl (.nd .lf bl8
  .lf))))) (tn (tr (tl (tr (.nd .lf bl11 .lf)))) (tl (tn (tn (.nd .lf bl16 .lf) (.nd .lf bl17 .lf)) (tl (.nd .lf bl19 .lf)))))), k14510⟩, (.bool true), ⟨(tn (tn
  (tn (tl (tr (.nd .lf bl1 .lf))) (tl (tr (.nd .lf bl6 .lf)))) (tl (tl (tr (.nd .lf bl7 .lf))))) (tr (tl (tl (tr (.nd .lf bl17 .lf)))))), k15922⟩⟩
def hk24 : Hook := ⟨8, [(.ls 0 [(.nat .i64 10),(.nat .i64 0),(.nat .i64 0),(.str []),(.nat .i64 2),(.nat .i64 2),(.sl k50 0 0 1 1)]),(.nil 1),(.nil 1),(.str
  [48])], ⟨(tn (tn (tn (tl (tr (.nd .lf bl1 .lf))) (tl (tr (.nd .lf bl6 .lf)))) (tl (tl (tr (.nd .lf bl7 .lf))))) (tr (tl (tl (tr (.nd .lf bl17 .lf)))))),
  k15922⟩, (.bool true), ⟨(tn (tn (tn (tl (tr (.nd .lf bl1 .lf))) (tl (tr (.nd .lf bl6 .lf)))) (tl (tl (tr (.nd .lf bl7 .lf))))) (tr (tl (tl (tr (.nd .lf bl17
  .lf)))))), k16553⟩⟩
def hk25 : Hook := ⟨8, [(.ls 0 [(.nat .i64 10),(.nat .i64 0),(.nat .i64 0),(.str []),(.nat .i64 2),(.nat .i64 2),(.sl k50 0 0 1 1)]),(.sl k52 0 0 1 1),(.sl k52
  0 0 1 1),(.str [48])], ⟨(tn (tn (tn (tl (tr (.nd .lf bl1 .lf))) (tl (tr (.nd .lf bl6 .lf)))) (tl (tl (tr (.nd .lf bl7 .lf))))) (tr (tl (tl (tr (.nd .lf bl17
  .lf)))))), k16553⟩, (.bool true), ⟨(tn (tn (tl (tl (tr (.nd .lf bl1 .lf)))) (tl (tl (tr (.nd .lf bl7 .lf))))) (tr (tl (tl (tr (.nd .lf bl17 .lf)))))),
  k17192⟩⟩
def hk26 : Hook := ⟨8, [(.ls 0 [(.nat .i64 10),(.nat .i64 0),(.nat .i64 0),(.str []),(.nat .i64 2),(.nat .i64 2),(.sl k50 0 0 1 1)]),(.sl k17192 0 0 2 2),(.sl
  k17193 0 0 2 2),(.str [48])], ⟨(tn (tn (tl (tn (tr (.nd .lf bl1 .lf)) (tl (tr (tl (tl (tr (tr (tl (tl (tl (tl (.nd .lf bl27 .lf))))))))))))) (tl (tl (tr (.nd
  .lf bl7 .lf))))) (tn (tl (tr (tl (tr (tl (tl (tr (tr (tl (tl (tl (tl (.nd .lf bl27 .lf))))))))))))) (tl (tl (tr (.nd .lf bl17 .lf)))))), k17194⟩, (.bool
  true), ⟨(tn (tn (tl (tl (tr (.nd .lf bl1 .lf)))) (tl (tl (tr (.nd .lf bl7 .lf))))) (tr (tl (tl (tr (.nd .lf bl17 .lf)))))), k17841⟩⟩
def hk27 : Hook := ⟨8, [(.ls 0 [(.nat .i64 10),(.nat .i64 0),(.nat .i64 0),(.str []),(.nat .i64 2),(.nat .i64 2),(.sl k50 0 0 1 1)]),(.sl k17841 0 0 3 3),(.sl
  k17842 0 0 3 3),(.str [105, 110, 102])], ⟨(tn (tn (tl (tl (tr (.nd .lf bl1 .lf)))) (tl (tl (tr (.nd .lf bl7 (tl (tr (tr (tl (tr (tl (tl (tl (.nd .lf bl49
  .lf)))))))))))))) (tl (tl (tl (tr (tr (tl (tr (tr (tl (tr (tl (tl (tl (.nd .lf bl49 .lf))))))))))))))), k17843⟩, (.bool true), ⟨.lf, k18498⟩⟩
def hk28 : Hook := ⟨8, [(.ls 0 [(.nat .i64 5),(.nat .i64 0),(.nat .i64 0),(.str []),(.nat .i64 0),(.nat .i64 0),(.sl k18510 0 0 2 2)]),(.sl k20996 0 0 2 2),(.sl
  k20997 0 0 2 2),(.str [49, 47, 50])], ⟨(tn (tn (tn (tl (tr (tl (tr (tl (tl (tl (tl (tr (tl (tl (.nd .lf bl50 .lf)))))))))))) (tn (tl (tl (tl (tl (tl (tr (tl
  (tl (tr (tl (.nd .lf bl27 .lf))))))))))) (tl (tl (tr (tl (tl (tl (tl (tr (tl (tl (.nd .lf bl51 .lf))))))))))))) (tn (tl (tr (tl (tl (tr (tr (tl (tl (tl (tr
  (tl (.nd .lf bl52 .lf)))))))))))) (tn (tr (tr (tr (tr (tr (tl (tl (tl (tr (tl (.nd .lf bl53 .lf))))))))))) (tn (tl (tr (tl (tl (tl (tl (tr (tl (tl (.nd .lf
  bl54 .lf)))))))))) (tl (tr (tr (tr (tl (tl (tl (tr (tl (.nd .lf bl53 .lf)))))))))))))) (tn (tn (tr (tr (tl (tr (tl (tl (tl (tl (tr (tl (tl (.nd .lf bl57
  .lf)))))))))))) (tn (tl (tl (tn (tl (tl (tr (tl (tl (tr (tl (.nd .lf bl25 .lf)))))))) (tr (tr (tl (tl (tl (tr (tl (.nd .lf bl58 .lf))))))))))) (tn (tr (tl (tr
  (tr (tl (tl (tl (tr (tl (.nd .lf bl60 .lf)))))))))) (tl (tr (tl (tl (tl (tl (tr (tl (tl (.nd .lf bl61 .lf))))))))))))) (tn (tn (tn (tl (tn (tl (tl (tr (tl (tl
  (tr (tl (.nd .lf bl62 .lf)))))))) (tl (tl (tl (tl (tr (tl (tl (.nd .lf bl16 .lf)))))))))) (tl (tr (tl (tl (tl (tl (tr (tl (tl (.nd .lf bl1 .lf))))))))))) (tr
  (tl (tr (tl (tl (tl (tl (tr (tl (tl (.nd .lf bl63 .lf)))))))))))) (tn (tl (tl (tr (tl (tl (tl (tl (tr (tl (tl (.nd .lf bl64 .lf))))))))))) (tr (tl (tl (tr (tr
  (tl (tl (tl (tr (tl (.nd .lf bl65 .lf))))))))))))))), k20998⟩, (.bool true), ⟨(tn (tn (tn (tl (tr (tl (tr (tl (tl (tl (tl (tr (tl (tl (.nd .lf bl50
  .lf)))))))))))) (tr (tl (tl (tr (tl (tl (tl (tl (tr (tl (tl (.nd .lf bl51 .lf))))))))))))) (tn (tl (tr (tl (tl (tr (tr (tl (tl (tl (tr (tl (.nd .lf bl52
  .lf)))))))))))) (tn (tr (tr (tr (tr (tr (tl (tl (tl (tr (tl (.nd .lf bl53 .lf))))))))))) (tn (tl (tr (tl (tl (tl (tl (tr (tl (tl (.nd .lf bl54 .lf))))))))))
  (tl (tr (tr (tr (tl (tl (tl (tr (tl (.nd .lf bl53 .lf)))))))))))))) (tn (tn (tr (tr (tl (tr (tl (tl (tl (tl (tr (tl (tl (.nd .lf bl57 .lf)))))))))))) (tn (tl
  (tl (tr (tr (tr (tl (tl (tl (tr (tl (.nd .lf bl58 .lf))))))))))) (tn (tr (tl (tr (tr (tl (tl (tl (tr (tl (.nd .lf bl60 .lf)))))))))) (tl (tr (tl (tl (tl (tl
  (tr (tl (tl (.nd .lf bl61 .lf))))))))))))) (tn (tn (tn (tl (tn (tl (tl (tr (tl (tl (tr (tl (.nd .lf bl62 .lf)))))))) (tl (tl (tl (tl (tr (tl (tl (.nd .lf bl16
  .lf)))))))))) (tl (tr (tl (tl (tl (tl (tr (tl (tl (.nd .lf bl1 .lf))))))))))) (tr (tl (tr (tl (tl (tl (tl (tr (tl (tl (.nd .lf bl63 .lf)))))))))))) (tn (tl
  (tl (tr (tl (tl (tl (tl (tr (tl (tl (.nd .lf bl64 .lf))))))))))) (tr (tl (tl (tr (tr (tl (tl (tl (tr (tl (.nd .lf bl65 .lf))))))))))))))), k22786⟩⟩
def hk29 : Hook := ⟨8, [(.ls 0 [(.nat .i64 5),(.nat .i64 0),(.nat .i64 0),(.str []),(.nat .i64 0),(.nat .i64 0),(.sl k18510 0 0 2 2)]),(.sl k22786 0 0 1
  1),(.nil 1),(.str [105, 110, 102])], ⟨(tn (tn (tr (tr (tl (tl (tr (tl (tl (tl (tl (tr (tl (tl (.nd .lf bl51 .lf))))))))))))) (tn (tl (tn (tl (tl (tl (tr (tl
  (tl (tr (tr (tl (.nd .lf bl6 .lf)))))))))) (tl (tl (tr (tr (tl (tl (tl (tr (tl (.nd .lf bl52 .lf)))))))))))) (tn (tr (tr (tr (tr (tr (tl (tl (tl (tr (tl (.nd
  .lf bl53 .lf))))))))))) (tn (tl (tr (tl (tl (tl (tl (tr (tl (tl (.nd .lf bl54 .lf)))))))))) (tl (tr (tr (tr (tl (tl (tl (tr (tl (.nd .lf bl53
  .lf)))))))))))))) (tn (tn (tr (tr (tl (tr (tl (tl (tl (tl (tr (tl (tl (.nd .lf bl57 .lf)))))))))))) (tn (tl (tl (tr (tr (tr (tl (tl (tl (tr (tl (.nd .lf bl58
  .lf))))))))))) (tn (tr (tl (tr (tr (tl (tl (tl (tr (tl (.nd .lf bl60 .lf)))))))))) (tl (tr (tl (tl (tl (tl (tr (tl (tl (.nd .lf bl61 .lf))))))))))))) (tn (tn
  (tn (tl (tn (tl (tl (tr (tl (tl (tr (tl (.nd .lf bl62 .lf)))))))) (tl (tl (tl (tl (tr (tl (tl (.nd .lf bl16 .lf)))))))))) (tl (tr (tl (tl (tl (tl (tr (tl (tl
  (.nd .lf bl1 .lf))))))))))) (tr (tl (tr (tl (tl (tl (tl (tr (tl (tl (.nd .lf bl63 .lf)))))))))))) (tn (tl (tl (tr (tl (tl (tl (tl (tr (tl (tl (.nd .lf bl64
  .lf))))))))))) (tr (tl (tl (tr (tr (tl (tl (tl (tr (tl (.nd .lf bl65 .lf))))))))))))))), k22787⟩, (.bool true), ⟨(tn (tr (tn (tl (tr (tl (tl (tr (tr (tl (tl
  (tl (tr (tl (.nd .lf bl52 .lf)))))))))))) (tn (tr (tr (tr (tr (tr (tl (tl (tl (tr (tl (.nd .lf bl53 .lf))))))))))) (tr (tl (tr (tr (tr (tl (tl (tl (tr (tl
  (.nd .lf bl53 .lf)))))))))))))) (tn (tn (tr (tr (tl (tr (tl (tl (tl (tl (tr (tl (tl (.nd .lf bl57 .lf)))))))))))) (tn (tl (tl (tr (tr (tr (tl (tl (tl (tr (tl
  (.nd .lf bl58 .lf))))))))))) (tn (tr (tl (tr (tr (tl (tl (tl (tr (tl (.nd .lf bl60 .lf)))))))))) (tl (tr (tl (tl (tl (tl (tr (tl (tl (.nd .lf bl61
  .lf))))))))))))) (tn (tn (tn (tl (tl (tl (tl (tr (tl (tl (tr (tl (.nd .lf bl62 .lf)))))))))) (tl (tr (tl (tl (tl (tl (tr (tl (tl (.nd .lf bl1 .lf)))))))))))
  (tr (tl (tr (tl (tl (tl (tl (tr (tl (tl (.nd .lf bl63 .lf)))))))))))) (tr (tr (tl (tl (tr (tr (tl (tl (tl (tr (tl (.nd .lf bl65 .lf))))))))))))))), k24563⟩⟩
def hk30 : Hook := ⟨8, [(.ls 0 [(.nat .i64 14),(.nat .i64 0),(.nat .i64 0),(.str []),(.nat .i64 0),(.nat .i64 0),(.sl k18523 0 0 2 2)]),(.sl k24563 0 0 1
  1),(.sl k24564 0 0 1 1),(.str [48])], ⟨(tn (tn (tr (tl (tr (tr (tr (tr (tr (tr (tr (tr (tr (tl (.nd .lf bl6 .lf))))))))))))) (tn (tl (tr (tl (tl (tr (tr (tl
  (tl (tl (tr (tl (.nd .lf bl52 .lf)))))))))))) (tn (tr (tr (tr (tr (tr (tl (tl (tl (tr (tl (.nd .lf bl53 .lf))))))))))) (tr (tl (tr (tr (tr (tl (tl (tl (tr (tl
  (.nd .lf bl53 .lf)))))))))))))) (tn (tn (tr (tr (tl (tr (tl (tl (tl (tl (tr (tl (tl (.nd .lf bl57 .lf)))))))))))) (tn (tl (tl (tr (tr (tr (tl (tl (tl (tr (tl
  (.nd .lf bl58 .lf))))))))))) (tn (tr (tl (tr (tr (tl (tl (tl (tr (tl (.nd .lf bl60 .lf)))))))))) (tl (tr (tl (tl (tl (tl (tr (tl (tl (.nd .lf bl61
  .lf))))))))))))) (tn (tn (tn (tl (tl (tl (tl (tr (tl (tl (tr (tl (.nd .lf bl62 .lf)))))))))) (tn (tr (tl (tl (tl (tl (tr (tl (tl (.nd .lf bl1 .lf))))))))) (tr
  (tr (tr (tr (tr (tr (tr (tl (.nd .lf bl6 .lf))))))))))) (tr (tl (tr (tl (tl (tl (tl (tr (tl (tl (.nd .lf bl63 .lf)))))))))))) (tr (tr (tl (tl (tr (tr (tl (tl
  (tl (tr (tl (.nd .lf bl65 .lf))))))))))))))), k24565⟩, (.bool true), ⟨(tn (tr (tn (tl (tr (tl (tl (tr (tr (tl (tl (tl (tr (tl (.nd .lf bl52 .lf))))))))))))
  (tn (tr (tr (tr (tr (tr (tl (tl (tl (tr (tl (.nd .lf bl53 .lf))))))))))) (tr (tl (tr (tr (tr (tl (tl (tl (tr (tl (.nd .lf bl53 .lf)))))))))))))) (tn (tn (tr
  (tr (tl (tr (tl (tl (tl (tl (tr (tl (tl (.nd .lf bl57 .lf)))))))))))) (tn (tl (tl (tr (tr (tr (tl (tl (tl (tr (tl (.nd .lf bl58 .lf))))))))))) (tn (tr (tl (tr
  (tr (tl (tl (tl (tr (tl (.nd .lf bl60 .lf)))))))))) (tl (tr (tl (tl (tl (tl (tr (tl (tl (.nd .lf bl61 .lf))))))))))))) (tn (tn (tn (tl (tl (tl (tl (tr (tl (tl
  (tr (tl (.nd .lf bl62 .lf)))))))))) (tl (tr (tl (tl (tl (tl (tr (tl (tl (.nd .lf bl1 .lf))))))))))) (tr (tl (tr (tl (tl (tl (tl (tr (tl (tl (.nd .lf bl63
  .lf)))))))))))) (tr (tr (tl (tl (tr (tr (tl (tl (tl (tr (tl (.nd .lf bl65 .lf))))))))))))))), k25977⟩⟩
def hk31 : Hook := ⟨8, [(.ls 0 [(.nat .i64 14),(.nat .i64 0),(.nat .i64 0),(.str []),(.nat .i64 0),(.nat .i64 0),(.sl k18523 0 0 2 2)]),(.sl k25977 0 0 2
  2),(.sl k25978 0 0 2 2),(.str [105, 110, 102])], ⟨(tn (tr (tn (tn (tr (tl (tl (tr (tr (tl (tl (tl (tr (tl (.nd .lf bl52 .lf))))))))))) (tr (tr (tr (tl (tr (tl
  (tr (tl (tl (tr (.nd .lf bl27 .lf)))))))))))) (tn (tr (tr (tr (tr (tr (tl (tl (tl (tr (tl (.nd .lf bl53 .lf))))))))))) (tr (tl (tr (tr (tr (tl (tl (tl (tr (tl
  (.nd .lf bl53 .lf)))))))))))))) (tn (tn (tr (tr (tn (tr (tl (tl (tl (tl (tr (tl (tl (.nd .lf bl57 .lf))))))))) (tr (tl (tr (tl (tr (tl (tl (tr (.nd .lf bl27
  .lf)))))))))))) (tn (tl (tl (tr (tr (tr (tl (tl (tl (tr (tl (.nd .lf bl58 .lf))))))))))) (tl (tr (tl (tr (tr (tl (tl (tl (tr (tl (.nd .lf bl60
  .lf))))))))))))) (tn (tn (tn (tl (tl (tl (tl (tr (tl (tl (tr (tl (.nd .lf bl62 .lf)))))))))) (tl (tr (tl (tl (tl (tl (tr (tl (tl (.nd .lf bl1 .lf)))))))))))
  (tr (tl (tr (tl (tl (tl (tl (tr (tl (tl (.nd .lf bl63 .lf)))))))))))) (tr (tr (tl (tl (tr (tr (tl (tl (tl (tr (tl (.nd .lf bl65 .lf))))))))))))))), k25979⟩,
  (.bool true), ⟨(tn (tr (tn (tl (tr (tl (tl (tr (tr (tl (tl (tl (tr (tl (.nd .lf bl52 .lf)))))))))))) (tn (tr (tr (tr (tr (tr (tl (tl (tl (tr (tl (.nd .lf bl53
  .lf))))))))))) (tr (tl (tr (tr (tr (tl (tl (tl (tr (tl (.nd .lf bl53 .lf)))))))))))))) (tn (tr (tn (tl (tl (tr (tr (tr (tl (tl (tl (tr (tl (.nd .lf bl58
  .lf))))))))))) (tl (tr (tl (tr (tr (tl (tl (tl (tr (tl (.nd .lf bl60 .lf))))))))))))) (tn (tl (tl (tl (tl (tl (tl (tr (tl (tl (tr (tl (.nd .lf bl62
  .lf)))))))))))) (tr (tr (tl (tl (tr (tr (tl (tl (tl (tr (tl (.nd .lf bl65 .lf))))))))))))))), k27399⟩⟩
def hk32 : Hook := ⟨12, [(.ls 0 [(.nat .i64 14),(.nat .i64 0),(.nat .i64 0),(.str []),(.nat .i64 0),(.nat .i64 0),(.sl k18523 0 0 2 2)]),(.nat .i64 2)], ⟨(tn
  (tn (tn (tl (tr (tl (tr (tl (tl (tl (tl (tr (tl (tl (.nd .lf bl50 .lf)))))))))))) (tr (tl (tl (tr (tl (tl (tl (tl (tr (tl (tl (.nd .lf bl51 .lf)))))))))))))
  (tr (tr (tl (tl (tr (tl (tl (tl (tl (tr (tl (tl (.nd .lf bl54 .lf)))))))))))))) (tn (tn (tr (tr (tl (tr (tl (tl (tl (tl (tr (tl (tl (.nd .lf bl57
  .lf)))))))))))) (tr (tr (tl (tr (tl (tl (tl (tl (tr (tl (tl (.nd .lf bl61 .lf))))))))))))) (tn (tn (tn (tl (tr (tl (tl (tl (tl (tr (tl (tl (.nd .lf bl16
  .lf)))))))))) (tl (tr (tl (tl (tl (tl (tr (tl (tl (.nd .lf bl1 .lf))))))))))) (tr (tl (tr (tl (tl (tl (tl (tr (tl (tl (.nd .lf bl63 .lf)))))))))))) (tl (tl
  (tl (tr (tl (tl (tl (tl (tr (tl (tl (.nd .lf bl64 .lf))))))))))))))), k18586⟩, (.ls 1 [(.ls 0 [(.nat .i64 1),(.nat .i64 0),(.str [48]),(.so k20895 10 0 5
  0)]),(.nat .i64 0)]), ⟨(tn (tn (tn (tl (tr (tl (tr (tl (tl (tl (tl (tr (tl (tl (.nd .lf bl50 .lf)))))))))))) (tr (tl (tl (tr (tl (tl (tl (tl (tr (tl (tl (.nd
  .lf bl51 .lf))))))))))))) (tn (tl (tr (tl (tl (tr (tr (tl (tl (tl (tr (tl (.nd .lf bl52 .lf)))))))))))) (tn (tr (tr (tr (tr (tr (tl (tl (tl (tr (tl (.nd .lf
  bl53 .lf))))))))))) (tn (tl (tr (tl (tl (tl (tl (tr (tl (tl (.nd .lf bl54 .lf)))))))))) (tl (tr (tr (tr (tl (tl (tl (tr (tl (.nd .lf bl53 .lf))))))))))))))
  (tn (tn (tr (tr (tl (tr (tl (tl (tl (tl (tr (tl (tl (.nd .lf bl57 .lf)))))))))))) (tn (tl (tl (tr (tr (tr (tl (tl (tl (tr (tl (.nd .lf bl58 .lf))))))))))) (tn
  (tr (tl (tr (tr (tl (tl (tl (tr (tl (.nd .lf bl60 .lf)))))))))) (tl (tr (tl (tl (tl (tl (tr (tl (tl (.nd .lf bl61 .lf))))))))))))) (tn (tn (tn (tl (tr (tl (tl
  (tl (tl (tr (tl (tl (.nd .lf bl16 .lf)))))))))) (tl (tr (tl (tl (tl (tl (tr (tl (tl (.nd .lf bl1 .lf))))))))))) (tr (tl (tr (tl (tl (tl (tl (tr (tl (tl (.nd
  .lf bl63 .lf)))))))))))) (tn (tl (tl (tr (tl (tl (tl (tl (tr (tl (tl (.nd .lf bl64 .lf))))))))))) (tr (tl (tl (tr (tr (tl (tl (tl (tr (tl (.nd .lf bl65
  .lf))))))))))))))), k20995⟩⟩
end Go.Proofs.YtobflfopdndfdaaGreatDoor.regexExamples
