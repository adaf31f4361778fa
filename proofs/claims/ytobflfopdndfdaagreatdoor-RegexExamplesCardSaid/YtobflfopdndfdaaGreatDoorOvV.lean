/- What the evaluator makes of the functions that the statements reach: one equation for each run of operations, by the kernel. No statement of the seat stands here. No condition. By an AI agent. -/
import Derived.Test.YtobflfopdndfdaaGreatDoorOvA
import Derived.Test.YtobflfopdndfdaaGreatDoorProg
import Derived.KernelRfl
namespace Go.Proofs.YtobflfopdndfdaaGreatDoor.oev
open Go.Ev Go.Proofs
set_option maxRecDepth 100000
noncomputable def pc (hooks : List Hook) : PC := PC.of Tryz.prog hooks [0, 0, 1, 20769187434139310514121985316880128, 224, 56, 224, 480, 33552384,
 9671406556917033397648936, 69267081072640, 129984, 4122430242752, 288195190705610688, 2417851639198471889600512, 2, 12574592,
 85807770353859583205453152173646770487551006714061914112, 14680032, 549755813824, 140736414117888, 31745151725696, 79228162513074824341929064448,
 70368735784800, 562949945028448, 2040, 262080, 4080, 33554400, 8589934528, 7904, 1056964592, 4080, 520688, 36605257513560959488, 1030791094272, 4080,
 1016, 398655360, 8, 16328, 1952, 8, 456, 134156032, 36, 4064, 4064, 104, 484, 65008, 8386568, 144114672678729728, 70368744168960, 17591682693120,
 17179868864, 484, 34587645138138185600, 8164, 65504, 590293839423849099264, 4503591037304448, 309182776060598402215280384, 532668352,
 21778071482618506735861013308488957231104, 16328, 1008, 1008, 1008, 34662321095378961161338743808, 16352, 2199023189888, 2194224446208,
 4543259750641845459761594177158656, 24, 12574592, 649037029945047576837886721114112, 16352, 4501336175669248, 3568,
 170141183460466738322183768001071808256, 480, 56, 504, 15856, 2040, 17996745120149504, 68048387584, 24, 6228864, 10384593407414639918073416691740640,
 56, 2305825412699119296, 496, 8, 1032128, 132120064, 18887160055355137835008, 0, 32, 16128, 268428272, 64, 19342813112848872164551680, 64, 132120064,
 8935141660702932864, 89794636423602880087156592636474722530567799319756800, 4294934272, 30, 79225895778352558100046659584,
 158446644767534338890306928640, 504, 3114368, 248, 524224, 24, 16376, 16368, 504, 16777184, 457792, 30, 21778061098346189844478291628122334298112,
 248, 2097120, 4177344, 1073602816, 4194302, 504, 504, 103582791362410496, 24, 48640, 524224, 16304, 16304, 288230376143288320, 480, 56, 192, 192, 192,
 35764913150590976, 240, 240, 281337470646784, 240, 524220, 24, 2147475296, 469761536, 1984, 48, 515848, 1984, 2064064, 1016, 1016, 48,
 562948879675136, 72057592963659776, 36893479342736111616, 123286018324422656, 4294958848, 10888952654262176519432384150372830132224, 131040,
 19342794090620444689299456, 374144419134252505651064520051920053992477580849152, 524008, 33537768, 148754255977818640873472, 17171475456, 928,
 4835703260440209768046592, 7936, 457792, 65264, 1073740800, 0, 18014381321090304, 32696, 6473907284443136, 4160745472, 4398046510976, 1030792150528,
 134217696, 1984, 128960, 75557859222245976505344, 120, 8589934584, 32640, 68719474688, 56, 1984, 8064, 103048806384, 34342829312, 4186048, 258016,
 260013824, 274877644160, 1504, 2080760, 130944, 2251799813668864, 32744, 32752, 184149205606795480238948490449146349755637850570752,
 5050176389969560855884357697536, 2266699018289282147153920, 140736414328832, 16320, 2016, 240, 261952, 8796093022080, 134217696, 268172288, 32192,
 8384256, 20282409471425404962397755244544, 17163084480, 224, 7696579557248, 224, 56, 0, 248, 248, 196032, 1016, 536543040, 144115179485392896, 61408,
 16637888, 37778931860723777658880, 500, 520048, 2147155456, 262112, 10448029773009037967681152029858612457160704, 224,
 182686308445276092278898780960839177993124249600, 224, 42524890909723710779775849120990470144, 9007190629408768, 261632, 444288, 444288, 1048064,
 16360, 16360, 137403301872, 150525431606284996046848, 2096608, 7904, 176, 962064154560, 34090744768, 8556375552, 224, 0, 56,
 2266735911759287759665152, 523264, 4294961792, 224, 31457136, 248, 56, 0, 548648513024, 1073741792, 0, 0, 0, 0, 0, 0, 0, 0, 0, 0, 0, 0, 0, 0, 0, 0, 0,
 0, 0, 0, 0, 0, 0, 0, 7] [(179, 1), (272, 2)] [(7, [7, 7, 0, 7]), (8, [7, 7, 0, 7]), (58, [7, 7, 8, 7]), (59, [7, 7, 8, 7]), (71, [7]), (72, [7]),
 (143, [7, 7, 0]), (144, [7, 7, 0]), (148, [7, 7]), (149, [7, 7]), (158, [7]), (159, [7]), (176, [8, 8, 8]), (179, [7, 7, 7]), (180, [7, 7, 7]), (203,
 [0, 8, 8]), (204, [0, 8, 8]), (230, []), (231, [])] [999999]
noncomputable def pc0 : PC := pc []
/- abugida/regex.search: parameters 3, slots in the frame: [(0, 0), (1, 1), (2, 2), (3, 3), (4, 4), (5, 5), (6, 6), (7, 7), (8, 8), (9, 9), (10, 10), (11, 11), (12, 12), (13, 13), (14, 14), (15, 15), (16, 16), (17, 17), (18, 18), (19, 19), (20, 20), (21, 21), (22, 22), (23, 23), (24, 39), (25, 40), (26, 41), (27, 53), (28, 55), (29, 64), (30, 65), (31, 66), (32, 67), (33, 96), (34, 112), (35, 129), (36, 152), (37, 160), (38, 162), (39, 173), (40, 183)] -/
def fiSearch : FI := ⟨85807770353859583205453152173646770487551006714061914112, 186, 4⟩
noncomputable def bodySearch := bodyOf Tryz.prog 17
noncomputable def cSearch_1 := comp pc0 fiSearch (subC [0] bodySearch)
noncomputable def cSearch_3 := comp pc0 fiSearch (subC [1, 0] bodySearch)
noncomputable def cSearch_5 := comp pc0 fiSearch (subC [1, 1, 0] bodySearch)
noncomputable def cSearch_7 := comp pc0 fiSearch (subC [1, 1, 1, 0] bodySearch)
noncomputable def cSearch_10 := comp pc0 fiSearch (subC [1, 1, 1, 1, 0, 0] bodySearch)
noncomputable def cSearch_16 := comp pc0 fiSearch (subC [1, 1, 1, 1, 0, 1, 0, 0, 0, 0, 0] bodySearch)
noncomputable def cSearch_19 := comp pc0 fiSearch (subC [1, 1, 1, 1, 0, 1, 0, 0, 0, 0, 1, 0, 0] bodySearch)
noncomputable def cSearch_23 := comp pc0 fiSearch (subC [1, 1, 1, 1, 0, 1, 0, 0, 0, 0, 1, 0, 1, 0, 0, 0] bodySearch)
noncomputable def cSearch_31 := comp pc0 fiSearch (subC [1, 1, 1, 1, 0, 1, 0, 0, 0, 0, 1, 0, 1, 0, 0, 1, 1, 0, 0, 0] bodySearch)
noncomputable def cSearch_33 := comp pc0 fiSearch (subC [1, 1, 1, 1, 0, 1, 0, 0, 0, 0, 1, 0, 1, 0, 0, 1, 1, 0, 0, 1, 0] bodySearch)
noncomputable def cSearch_35 := comp pc0 fiSearch (subC [1, 1, 1, 1, 0, 1, 0, 0, 0, 0, 1, 0, 1, 0, 0, 1, 1, 0, 0, 1, 1, 0] bodySearch)
noncomputable def cSearch_39 := comp pc0 fiSearch (subC [1, 1, 1, 1, 0, 1, 0, 0, 0, 0, 1, 0, 1, 0, 0, 1, 1, 0, 0, 1, 1, 1, 0, 0, 0] bodySearch)
noncomputable def cSearch_46 := comp pc0 fiSearch (subC [1, 1, 1, 1, 0, 1, 0, 0, 0, 0, 1, 0, 1, 0, 0, 1, 1, 0, 0, 1, 1, 1, 0, 0, 1, 1, 0, 0] bodySearch)
noncomputable def cSearch_48 := comp pc0 fiSearch (subC [1, 1, 1, 1, 0, 1, 0, 0, 0, 0, 1, 0, 1, 0, 0, 1, 1, 0, 0, 1, 1, 1, 0, 0, 1, 1, 0, 1, 0] bodySearch)
noncomputable def cSearch_52 := comp pc0 fiSearch (subC [1, 1, 1, 1, 0, 1, 0, 0, 0, 0, 1, 0, 1, 0, 0, 1, 1, 0, 0, 1, 1, 1, 0, 0, 1, 1, 0, 1, 1, 0, 0, 0] bodySearch)
noncomputable def cSearch_60 := comp pc0 fiSearch (subC [1, 1, 1, 1, 0, 1, 0, 0, 0, 0, 1, 0, 1, 0, 0, 1, 1, 0, 0, 1, 1, 1, 0, 0, 1, 1, 0, 1, 1, 0, 0, 1, 1, 0, 0, 0] bodySearch)
noncomputable def uSearch_62 := subC [1, 1, 1, 1, 0, 1, 0, 0, 0, 0, 1, 0, 1, 0, 0, 1, 1, 0, 0, 1, 1, 1, 0, 0, 1, 1, 0, 1, 1, 0, 0, 1, 1, 0, 0, 1, 0] bodySearch
noncomputable def cSearch_62 := comp pc0 fiSearch uSearch_62
noncomputable def qSearch_62_25 := dqOf pc0 fiSearch uSearch_62 25 3 [95, 94, 93, 92, 91, 90, 89, 88, 87, 86, 85, 84, 83, 82, 81, 80, 79, 78, 77, 76, 75, 74, 73, 72, 71]
noncomputable def qSearch_62_18 := dqOf pc0 fiSearch uSearch_62 18 7 [88, 87, 86, 85, 84, 83, 82, 81, 80, 79, 78, 77, 76, 75, 74, 73, 72, 71]
noncomputable def qSearch_62_12 := dqOf pc0 fiSearch uSearch_62 12 6 [82, 81, 80, 79, 78, 77, 76, 75, 74, 73, 72, 71]
noncomputable def qSearch_62_5 := dqOf pc0 fiSearch uSearch_62 5 7 [75, 74, 73, 72, 71]
noncomputable def qSearch_62_0 := dqOf pc0 fiSearch uSearch_62 0 5 []
noncomputable def uSearch_65 := subC [1, 1, 1, 1, 0, 1, 0, 0, 0, 0, 1, 0, 1, 0, 0, 1, 1, 0, 0, 1, 1, 1, 0, 0, 1, 1, 0, 1, 1, 0, 0, 1, 1, 0, 0, 1, 1, 0, 0] bodySearch
noncomputable def cSearch_65 := comp pc0 fiSearch uSearch_65
noncomputable def qSearch_65_3 := qOf pc0 fiSearch uSearch_65 3 2 [100, 99, 98]
noncomputable def qSearch_65_2 := qOf pc0 fiSearch uSearch_65 2 1 [99, 98]
noncomputable def qSearch_65_0 := qOf pc0 fiSearch uSearch_65 0 2 []
noncomputable def cSearch_67 := comp pc0 fiSearch (subC [1, 1, 1, 1, 0, 1, 0, 0, 0, 0, 1, 0, 1, 0, 0, 1, 1, 0, 0, 1, 1, 1, 0, 0, 1, 1, 0, 1, 1, 0, 0, 1, 1, 0, 0, 1, 1, 0, 1, 0] bodySearch)
noncomputable def uSearch_69 := subC [1, 1, 1, 1, 0, 1, 0, 0, 0, 0, 1, 0, 1, 0, 0, 1, 1, 0, 0, 1, 1, 1, 0, 0, 1, 1, 0, 1, 1, 0, 0, 1, 1, 0, 0, 1, 1, 0, 1, 1, 0] bodySearch
noncomputable def cSearch_69 := comp pc0 fiSearch uSearch_69
noncomputable def qSearch_69_5 := qOf pc0 fiSearch uSearch_69 5 2 [118, 117, 116, 115, 114]
noncomputable def qSearch_69_2 := qOf pc0 fiSearch uSearch_69 2 3 [115, 114]
noncomputable def qSearch_69_0 := qOf pc0 fiSearch uSearch_69 0 2 []
noncomputable def cSearch_71 := comp pc0 fiSearch (subC [1, 1, 1, 1, 0, 1, 0, 0, 0, 0, 1, 0, 1, 0, 0, 1, 1, 0, 0, 1, 1, 1, 0, 0, 1, 1, 0, 1, 1, 0, 0, 1, 1, 0, 0, 1, 1, 0, 1, 1, 1, 0] bodySearch)
noncomputable def uSearch_73 := subC [1, 1, 1, 1, 0, 1, 0, 0, 0, 0, 1, 0, 1, 0, 0, 1, 1, 0, 0, 1, 1, 1, 0, 0, 1, 1, 0, 1, 1, 0, 0, 1, 1, 0, 0, 1, 1, 0, 1, 1, 1, 1, 0] bodySearch
noncomputable def cSearch_73 := comp pc0 fiSearch uSearch_73
noncomputable def qSearch_73_5 := qOf pc0 fiSearch uSearch_73 5 2 [135, 134, 133, 132, 131]
noncomputable def qSearch_73_4 := qOf pc0 fiSearch uSearch_73 4 1 [134, 133, 132, 131]
noncomputable def qSearch_73_0 := qOf pc0 fiSearch uSearch_73 0 4 []
noncomputable def cSearch_75 := comp pc0 fiSearch (subC [1, 1, 1, 1, 0, 1, 0, 0, 0, 0, 1, 0, 1, 0, 0, 1, 1, 0, 0, 1, 1, 1, 0, 0, 1, 1, 0, 1, 1, 0, 0, 1, 1, 0, 0, 1, 1, 0, 1, 1, 1, 1, 1, 0] bodySearch)
noncomputable def cSearch_77 := comp pc0 fiSearch (subC [1, 1, 1, 1, 0, 1, 0, 0, 0, 0, 1, 0, 1, 0, 0, 1, 1, 0, 0, 1, 1, 1, 0, 0, 1, 1, 0, 1, 1, 0, 0, 1, 1, 1] bodySearch)
noncomputable def uSearch_50 := subC [1, 1, 1, 1, 0, 1, 0, 0, 0, 0, 1, 0, 1, 0, 0, 1, 1, 0, 0, 1, 1, 1, 0, 0, 1, 1, 0, 1, 1, 0] bodySearch
noncomputable def cSearch_50 := comp pc0 fiSearch uSearch_50
noncomputable def uSearch_37 := subC [1, 1, 1, 1, 0, 1, 0, 0, 0, 0, 1, 0, 1, 0, 0, 1, 1, 0, 0, 1, 1, 1, 0] bodySearch
noncomputable def cSearch_37 := comp pc0 fiSearch uSearch_37
noncomputable def cSearch_78 := comp pc0 fiSearch (subC [1, 1, 1, 1, 0, 1, 0, 0, 0, 0, 1, 0, 1, 0, 0, 1, 1, 1] bodySearch)
noncomputable def uSearch_21 := subC [1, 1, 1, 1, 0, 1, 0, 0, 0, 0, 1, 0, 1, 0] bodySearch
noncomputable def cSearch_21 := comp pc0 fiSearch uSearch_21
noncomputable def cSearch_81 := comp pc0 fiSearch (subC [1, 1, 1, 1, 0, 1, 0, 0, 0, 0, 1, 1, 0, 0] bodySearch)
noncomputable def cSearch_85 := comp pc0 fiSearch (subC [1, 1, 1, 1, 0, 1, 0, 0, 0, 0, 1, 1, 1] bodySearch)
noncomputable def cSearch_86 := comp pc0 fiSearch (subC [1, 1, 1, 1, 0, 1, 0, 0, 1] bodySearch)
noncomputable def uSearch_12 := subC [1, 1, 1, 1, 0, 1, 0] bodySearch
noncomputable def cSearch_12 := comp pc0 fiSearch uSearch_12
noncomputable def cSearch_88 := comp pc0 fiSearch (subC [1, 1, 1, 1, 1, 0] bodySearch)
noncomputable def cSearch_91 := comp pc0 fiSearch (subC [1, 1, 1, 1, 1, 1, 0, 0] bodySearch)
noncomputable def cSearch_95 := comp pc0 fiSearch (subC [1, 1, 1, 1, 1, 1, 0, 1, 0, 0, 0] bodySearch)
noncomputable def cSearch_102 := comp pc0 fiSearch (subC [1, 1, 1, 1, 1, 1, 0, 1, 0, 0, 1, 1, 0, 0] bodySearch)
noncomputable def cSearch_104 := comp pc0 fiSearch (subC [1, 1, 1, 1, 1, 1, 0, 1, 0, 0, 1, 1, 0, 1, 0] bodySearch)
noncomputable def cSearch_106 := comp pc0 fiSearch (subC [1, 1, 1, 1, 1, 1, 0, 1, 0, 0, 1, 1, 0, 1, 1, 0] bodySearch)
noncomputable def cSearch_108 := comp pc0 fiSearch (subC [1, 1, 1, 1, 1, 1, 0, 1, 0, 0, 1, 1, 0, 1, 1, 1, 0] bodySearch)
noncomputable def uSearch_93 := subC [1, 1, 1, 1, 1, 1, 0, 1, 0] bodySearch
noncomputable def cSearch_93 := comp pc0 fiSearch uSearch_93
noncomputable def cSearch_112 := comp pc0 fiSearch (subC [1, 1, 1, 1, 1, 1, 1, 0, 0] bodySearch)
noncomputable def cSearch_114 := comp pc0 fiSearch (subC [1, 1, 1, 1, 1, 1, 1, 0, 1, 0] bodySearch)
noncomputable def cSearch_117 := comp pc0 fiSearch (subC [1, 1, 1, 1, 1, 1, 1, 0, 1, 1, 0, 0] bodySearch)
noncomputable def cSearch_121 := comp pc0 fiSearch (subC [1, 1, 1, 1, 1, 1, 1, 1, 0] bodySearch)
noncomputable def cSearch_0 := comp pc0 fiSearch bodySearch
noncomputable def finSearch := finN (resC pc0 fiSearch (resOf Tryz.prog 17)).run
theorem eSearchx :
 (((((∀ r s x0 x1 x2, (fnC pc0 17).run r [x0, x1, x2] s = outF (bindR (fun tm s => finSearch tm s) (cSearch_0.run r (sp 2 x2 (sp 1 x1 (sp 0 x0 T.new))) s))) ∧
 (∀ s tm, finSearch tm s = finV (gp 240 tm) (resV [(gp 6 tm)] s))) ∧
 ((∀ r s tm, cSearch_0.run r tm s = seqA (fun tm s => seqA (fun tm s => seqA (fun tm s => seqA (fun tm s => seqA (fun tm s => seqA (fun tm s => seqA (fun tm s => seqA (fun tm s => seqA (fun tm s => .ret tm s) (cSearch_121.run r tm s)) (seqA (fun tm s => seqA (fun tm s => condV (gp 40 tm) (seqA (fun tm s => .ret tm s) (cSearch_117.run r tm s)) (.nrm tm s)) (cSearch_114.run r tm s)) (cSearch_112.run r tm s))) (seqA (fun tm s => blockN 9 (cSearch_93.run r tm s)) (cSearch_91.run r tm s))) (cSearch_88.run r tm s)) (seqA (fun tm s => blockN 0 (cSearch_12.run r tm s)) (cSearch_10.run r tm s))) (cSearch_7.run r tm s)) (cSearch_5.run r tm s)) (cSearch_3.run r tm s)) (cSearch_1.run r tm s)) ∧
 ((∀ g r s tm le, (qSearch_62_0 g).run r tm (le) s = xLenS (gp 1 tm) fun v2 => xBin ⟨9, []⟩ false .lss (gp 9 tm) v2 fun v3 => g.run r tm (v3 :: v3 :: v2 :: (gp 1 tm) :: (gp 9 tm) :: le) s) ∧
 (∀ g r s tm le, (qSearch_62_5 g).run r tm ((.bool true) :: le) s = xFieldAddr 0 (gp 15 tm) fun v5 => xLoad false 1 v5 s fun v6 s => xIdxAddrS 1 (gp 1 tm) (gp 9 tm) fun v9 => xLoad false 1 v9 s fun v10 s => xBin ⟨7, []⟩ false .eql v6 v10 fun v11 => g.run r tm (v11 :: v10 :: v9 :: (gp 9 tm) :: (gp 1 tm) :: v6 :: v5 :: (.bool true) :: le) s)))) ∧
 (((∀ g r s tm le, (qSearch_62_5 g).run r tm ((.bool false) :: le) s = g.run r tm (Go.Ev.undef :: Go.Ev.undef :: Go.Ev.undef :: Go.Ev.undef :: Go.Ev.undef :: Go.Ev.undef :: Go.Ev.undef :: (.bool false) :: le) s) ∧
 ((∀ g r s tm le x0_ x1_ x2_ x3_ x4_ x5_ x6_ x7_, (qSearch_62_12 g).run r tm (x0_ :: x1_ :: x2_ :: x3_ :: x4_ :: x5_ :: x6_ :: x7_ :: le) s = xPick x7_ (fun _ => xLoad false 1 (gp 5 tm) s fun v14 s => xLenS v14 fun v15 => xBin ⟨9, []⟩ false .lss (gp 11 tm) v15 fun v16 => g.run r tm (v16 :: v16 :: v15 :: v14 :: (gp 11 tm) :: x0_ :: x0_ :: x1_ :: x2_ :: x3_ :: x4_ :: x5_ :: x6_ :: x7_ :: le) s) (fun _ => xLoad false 1 (gp 5 tm) s fun v14 s => xLenS v14 fun v15 => xBin ⟨9, []⟩ false .lss (gp 11 tm) v15 fun v16 => g.run r tm (v16 :: v16 :: v15 :: v14 :: (gp 11 tm) :: (V.bool false) :: x0_ :: x1_ :: x2_ :: x3_ :: x4_ :: x5_ :: x6_ :: x7_ :: le) s)) ∧
 (∀ g r s tm le, (qSearch_62_18 g).run r tm ((.bool true) :: le) s = xFieldAddr 1 (gp 15 tm) fun v18 => xLoad false 1 v18 s fun v19 s => xLoad false 1 (gp 5 tm) s fun v20 s => xIdxAddrS 1 v20 (gp 11 tm) fun v22 => xLoad false 1 v22 s fun v23 s => xBin ⟨7, []⟩ false .eql v19 v23 fun v24 => g.run r tm (v24 :: v23 :: v22 :: (gp 11 tm) :: v20 :: v19 :: v18 :: (.bool true) :: le) s))) ∧
 ((∀ g r s tm le, (qSearch_62_18 g).run r tm ((.bool false) :: le) s = g.run r tm (Go.Ev.undef :: Go.Ev.undef :: Go.Ev.undef :: Go.Ev.undef :: Go.Ev.undef :: Go.Ev.undef :: Go.Ev.undef :: (.bool false) :: le) s) ∧
 ((∀ g r s tm le x0_ x1_ x2_ x3_ x4_ x5_ x6_ x7_ x8_ x9_ x10_ x11_ x12_, (qSearch_62_25 g).run r tm (x0_ :: x1_ :: x2_ :: x3_ :: x4_ :: x5_ :: x6_ :: x7_ :: x8_ :: x9_ :: x10_ :: x11_ :: x12_ :: le) s = xPick x7_ (fun _ => g.run r (sp 17 x0_ (sp 16 x12_ tm)) (x0_ :: x12_ :: x0_ :: x0_ :: x1_ :: x2_ :: x3_ :: x4_ :: x5_ :: x6_ :: x7_ :: x8_ :: x9_ :: x10_ :: x11_ :: x12_ :: le) s) (fun _ => g.run r (sp 17 (V.bool false) (sp 16 x12_ tm)) ((V.bool false) :: x12_ :: (V.bool false) :: x0_ :: x1_ :: x2_ :: x3_ :: x4_ :: x5_ :: x6_ :: x7_ :: x8_ :: x9_ :: x10_ :: x11_ :: x12_ :: le) s)) ∧
 (∀ g r s tm le, (qSearch_65_0 g).run r tm (le) s = g.run r tm ((gp 16 tm) :: (gp 16 tm) :: le) s))))) ∧
 ((((∀ g r s tm le, (qSearch_65_2 g).run r tm ((.bool true) :: le) s = g.run r tm ((gp 17 tm) :: (.bool true) :: le) s) ∧
 (∀ g r s tm le, (qSearch_65_2 g).run r tm ((.bool false) :: le) s = g.run r tm (Go.Ev.undef :: (.bool false) :: le) s)) ∧
 ((∀ g r s tm le x0_ x1_, (qSearch_65_3 g).run r tm (x0_ :: x1_ :: le) s = xPick x1_ (fun _ => g.run r (sp 33 x0_ tm) (x0_ :: x0_ :: x0_ :: x1_ :: le) s) (fun _ => g.run r (sp 33 (V.bool false) tm) ((V.bool false) :: (V.bool false) :: x0_ :: x1_ :: le) s)) ∧
 ((∀ g r s tm le, (qSearch_69_0 g).run r tm (le) s = g.run r tm ((gp 16 tm) :: (gp 16 tm) :: le) s) ∧
 (∀ g r s tm le, (qSearch_69_2 g).run r tm ((.bool true) :: le) s = xFieldAddr 1 (gp 15 tm) fun v2 => xLoad false 1 v2 s fun v3 s => xBin ⟨7, []⟩ true .eql v3 (V.nat .i64 0) fun v4 => g.run r tm (v4 :: v3 :: v2 :: (.bool true) :: le) s)))) ∧
 (((∀ g r s tm le, (qSearch_69_2 g).run r tm ((.bool false) :: le) s = g.run r tm (Go.Ev.undef :: Go.Ev.undef :: Go.Ev.undef :: (.bool false) :: le) s) ∧
 ((∀ g r s tm le x0_ x1_ x2_ x3_, (qSearch_69_5 g).run r tm (x0_ :: x1_ :: x2_ :: x3_ :: le) s = xPick x3_ (fun _ => g.run r (sp 34 x0_ tm) (x0_ :: x0_ :: x0_ :: x1_ :: x2_ :: x3_ :: le) s) (fun _ => g.run r (sp 34 (V.bool false) tm) ((V.bool false) :: (V.bool false) :: x0_ :: x1_ :: x2_ :: x3_ :: le) s)) ∧
 (∀ g r s tm le, (qSearch_73_0 g).run r tm (le) s = xFieldAddr 0 (gp 15 tm) fun v0 => xLoad false 1 v0 s fun v1 s => xBin ⟨7, []⟩ true .eql v1 (V.nat .i64 0) fun v2 => g.run r tm (v2 :: v2 :: v1 :: v0 :: le) s))) ∧
 ((∀ g r s tm le, (qSearch_73_4 g).run r tm ((.bool true) :: le) s = g.run r tm ((gp 17 tm) :: (.bool true) :: le) s) ∧
 ((∀ g r s tm le, (qSearch_73_4 g).run r tm ((.bool false) :: le) s = g.run r tm (Go.Ev.undef :: (.bool false) :: le) s) ∧
 (∀ g r s tm le x0_ x1_, (qSearch_73_5 g).run r tm (x0_ :: x1_ :: le) s = xPick x1_ (fun _ => g.run r (sp 35 x0_ tm) (x0_ :: x0_ :: x0_ :: x1_ :: le) s) (fun _ => g.run r (sp 35 (V.bool false) tm) ((V.bool false) :: (V.bool false) :: x0_ :: x1_ :: le) s))))))) := by
 and_intros <;> (intros; kernel_rfl)
theorem rgSearch_1 : ∀ r s tm, cSearch_1.run r tm s = cellsC 4 (gp 0 tm) fun l0 => Go.Ev.newRow s 37 l0 false fun a0k _ s => cellsC 1 (gp 2 tm) fun l1 => Go.Ev.newRow s 29 l1 false fun a1k _ s => .nrm (sp 6 (V.str []) (sp 5 (V.ptr a1k 0 0) (sp 3 (V.ptr a0k 0 0) tm))) s := reg1 3
theorem rgSearch_3 : ∀ r s tm, cSearch_3.run r tm s = .nrm (sp 7 (V.fn (.func 33) [] [(gp 5 tm)]) tm) s := reg1 2
theorem rgSearch_5 : ∀ r s tm, cSearch_5.run r tm s = callV r (gp 7 tm) [] tm s fun v1 s => .nrm (sp 8 v1 tm) s := reg1 3
theorem rgSearch_7 : ∀ r s tm, cSearch_7.run r tm s = xIdxAddrS 1 (gp 8 tm) (V.nat .i64 0) fun v1 => xLoad false 1 v1 s fun v2 s => xFieldAddr 1 (gp 3 tm) fun v3 => xLoad false 1 v3 s fun v4 s => xFieldAddr 2 (gp 3 tm) fun v5 => xLoad false 1 v5 s fun v6 s => xMapUpd ⟨7, []⟩ v2 v4 v6 s fun _ s => .nrm tm s := dreg1 8
theorem rgSearch_10 : ∀ r s tm, cSearch_10.run r tm s = .nrm (sp 9 (V.nat .i64 0) tm) s := reg1 1
theorem rgSearch_16 : ∀ r s tm, cSearch_16.run r tm s = callV r (gp 7 tm) [] tm s fun v1 s => .nrm (sp 10 v1 tm) s := reg1 3
theorem rgSearch_19 : ∀ r s tm, cSearch_19.run r tm s = xLenS (gp 8 tm) fun v1 => .nrm (sp 25 (V.nat .i64 0) (sp 24 v1 tm)) s := reg1 3
theorem rgSearch_23 : ∀ r s tm, cSearch_23.run r tm s = xBin ⟨9, []⟩ false .lss (gp 25 tm) (gp 24 tm) fun v0 => .nrm (sp 26 v0 tm) s := reg1 1
theorem rgSearch_31 : ∀ r s tm, cSearch_31.run r tm s = .nrm (sp 11 (gp 25 tm) tm) s := reg1 2
theorem rgSearch_33 : ∀ r s tm, cSearch_33.run r tm s = xIdxAddrS 1 (gp 8 tm) (gp 11 tm) fun v2 => xLoad false 1 v2 s fun v3 s => xLoad true 4 (gp 3 tm) s fun v4 s => foldF (r.det.call 34 [v3, v4] s) fun _ s => .nrm tm s := dreg1 6
theorem rgSearch_35 : ∀ r s tm, cSearch_35.run r tm s = xIdxAddrS 1 (gp 8 tm) (gp 11 tm) fun v2 => xLoad false 1 v2 s fun v3 s => xRangeM v3 s fun v4 s => .nrm (sp 27 v4 tm) s := reg1 5
theorem rgSearch_39 : ∀ r s tm, cSearch_39.run r tm s = xNextM (gp 27 tm) s fun v0 s => xExtract 0 v0 fun v1 => .nrm (sp 28 v1 tm) s := by intros; kernel_rfl
theorem rgSearch_46 : ∀ r s tm, cSearch_46.run r tm s = xEntry (gp 27 tm) s fun v0 => xExtract 0 v0 fun v1 => xExtract 1 v0 fun v2 => .nrm (sp 13 v2 (sp 12 v1 tm)) s := reg1 5
theorem rgSearch_48 : ∀ r s tm, cSearch_48.run r tm s = xFieldAddr 3 (gp 3 tm) fun v0 => xLoad false 1 v0 s fun v1 s => xIdxAddrS 2 v1 (gp 12 tm) fun v3 => xFieldAddr 1 v3 fun v4 => xLoad false 1 v4 s fun v5 s => xLenS v5 fun v6 => .nrm (sp 31 (V.nat .i64 0) (sp 30 v6 (sp 29 v5 tm))) s := reg1 8
theorem rgSearch_52 : ∀ r s tm, cSearch_52.run r tm s = xBin ⟨9, []⟩ false .lss (gp 31 tm) (gp 30 tm) fun v0 => .nrm (sp 32 v0 tm) s := reg1 1
theorem rgSearch_60 : ∀ r s tm, cSearch_60.run r tm s = xIdxAddrS 4 (gp 29 tm) (gp 31 tm) fun v0 => xLoad true 4 v0 s fun v1 s => Go.Ev.newRow s 59 [(V.nat .i64 0), (V.nat .i64 0), (V.str []), (V.nat .i64 0)] false fun a2k _ s => xStore 4 (V.ptr a2k 0 0) v1 s fun _ s => .nrm (sp 15 (V.ptr a2k 0 0) tm) s := reg1 4
theorem rgSearch_62 : ∀ r s tm, cSearch_62.run r tm s = (qSearch_62_0 (qSearch_62_5 (qSearch_62_12 (qSearch_62_18 (qSearch_62_25 nilL))))).run r.det tm [] s := reg_drun (by kernel_rfl) (dchS rfl (by kernel_rfl) (dchS rfl (by kernel_rfl) (dchS rfl (by kernel_rfl) (dchS rfl (by kernel_rfl) dchL))))
theorem rgSearch_65 : ∀ r s tm, cSearch_65.run r tm s = (qSearch_65_0 (qSearch_65_2 (qSearch_65_3 nilL))).run r tm [] s := reg_run (by kernel_rfl) (chS rfl (by kernel_rfl) (chS rfl (by kernel_rfl) chL))
theorem rgSearch_67 : ∀ r s tm, cSearch_67.run r tm s = xBin ⟨9, []⟩ false .add (gp 11 tm) (V.nat .i64 1) fun v2 => xIdxAddrS 1 (gp 10 tm) v2 fun v3 => xLoad false 1 v3 s fun v4 s => xFieldAddr 3 (gp 15 tm) fun v5 => xLoad false 1 v5 s fun v6 s => xFieldAddr 2 (gp 15 tm) fun v8 => xLoad false 1 v8 s fun v9 s => foldF (r.det.call 35 [v4, v6, (gp 13 tm), v9] s) fun _ s => .nrm tm s := dreg1 11
theorem rgSearch_69 : ∀ r s tm, cSearch_69.run r tm s = (qSearch_69_0 (qSearch_69_2 (qSearch_69_5 nilL))).run r tm [] s := reg_run (by kernel_rfl) (chS rfl (by kernel_rfl) (chS rfl (by kernel_rfl) chL))
theorem rgSearch_71 : ∀ r s tm, cSearch_71.run r tm s = xIdxAddrS 1 (gp 10 tm) (gp 11 tm) fun v2 => xLoad false 1 v2 s fun v3 s => xFieldAddr 3 (gp 15 tm) fun v4 => xLoad false 1 v4 s fun v5 s => xFieldAddr 2 (gp 15 tm) fun v7 => xLoad false 1 v7 s fun v8 s => foldF (r.det.call 35 [v3, v5, (gp 13 tm), v8] s) fun _ s => .nrm tm s := dreg1 10
theorem rgSearch_73 : ∀ r s tm, cSearch_73.run r tm s = (qSearch_73_0 (qSearch_73_4 (qSearch_73_5 nilL))).run r tm [] s := reg_run (by kernel_rfl) (chS rfl (by kernel_rfl) (chS rfl (by kernel_rfl) chL))
theorem rgSearch_75 : ∀ r s tm, cSearch_75.run r tm s = xBin ⟨9, []⟩ false .add (gp 11 tm) (V.nat .i64 1) fun v2 => xIdxAddrS 1 (gp 8 tm) v2 fun v3 => xLoad false 1 v3 s fun v4 s => xFieldAddr 3 (gp 15 tm) fun v5 => xLoad false 1 v5 s fun v6 s => xFieldAddr 2 (gp 15 tm) fun v8 => xLoad false 1 v8 s fun v9 s => foldF (r.det.call 35 [v4, v6, (gp 13 tm), v9] s) fun _ s => .nrm tm s := dreg1 11
theorem rgSearch_77 : ∀ r s tm, cSearch_77.run r tm s = xBin ⟨9, []⟩ false .add (gp 31 tm) (V.nat .i64 1) fun v0 => .nrm (sp 31 v0 tm) s := reg1 2
theorem rgSearch_78 : ∀ r s tm, cSearch_78.run r tm s = xBin ⟨9, []⟩ false .add (gp 25 tm) (V.nat .i64 1) fun v0 => .nrm (sp 25 v0 tm) s := reg1 2
theorem rgSearch_81 : ∀ r s tm, cSearch_81.run r tm s = xLenS (gp 1 tm) fun v2 => xBin ⟨7, []⟩ false .eql (gp 9 tm) v2 fun v3 => .nrm (sp 36 v3 tm) s := reg1 4
theorem rgSearch_85 : ∀ r s tm, cSearch_85.run r tm s = .nrm (sp 8 (gp 10 tm) tm) s := reg1 2
theorem rgSearch_86 : ∀ r s tm, cSearch_86.run r tm s = xBin ⟨9, []⟩ false .add (gp 9 tm) (V.nat .i64 1) fun v1 => .nrm (sp 9 v1 tm) s := reg1 3
theorem rgSearch_88 : ∀ r s tm, cSearch_88.run r tm s = hnew s (.map [] 0) fun a0k s => .nrm (sp 18 (V.ref 0 a0k) tm) s := reg1 2
theorem rgSearch_91 : ∀ r s tm, cSearch_91.run r tm s = xLoad false 1 (gp 5 tm) s fun v1 s => xLenS v1 fun v2 => xIdxAddrS 1 (gp 8 tm) v2 fun v3 => xLoad false 1 v3 s fun v4 s => xRangeM v4 s fun v5 s => .nrm (sp 37 v5 tm) s := reg1 6
theorem rgSearch_95 : ∀ r s tm, cSearch_95.run r tm s = xNextM (gp 37 tm) s fun v0 s => xExtract 0 v0 fun v1 => .nrm (sp 38 v1 tm) s := by intros; kernel_rfl
theorem rgSearch_102 : ∀ r s tm, cSearch_102.run r tm s = xEntry (gp 37 tm) s fun v0 => xExtract 0 v0 fun v1 => xExtract 1 v0 fun v2 => .nrm (sp 20 v2 (sp 19 v1 tm)) s := reg1 5
theorem rgSearch_104 : ∀ r s tm, cSearch_104.run r tm s = xFieldAddr 3 (gp 3 tm) fun v0 => xLoad false 1 v0 s fun v1 s => xIdxAddrS 2 v1 (gp 19 tm) fun v3 => xFieldAddr 0 v3 fun v4 => xLoad false 1 v4 s fun v5 s => .nrm (sp 21 v5 tm) s := reg1 7
theorem rgSearch_106 : ∀ r s tm, cSearch_106.run r tm s = xBin ⟨8, []⟩ true .neq (gp 21 tm) (V.str []) fun v1 => .nrm (sp 39 v1 tm) s := reg1 2
theorem rgSearch_108 : ∀ r s tm, cSearch_108.run r tm s = foldF (r.call 35 [(gp 18 tm), (V.nat .i64 0), (gp 20 tm), (gp 21 tm)] s) fun _ s => .nrm tm s := reg1 4
theorem rgSearch_112 : ∀ r s tm, cSearch_112.run r tm s = xLookup ⟨7, []⟩ (V.str []) true (gp 18 tm) (V.nat .i64 0) s fun v1 => xExtract 0 v1 fun v3 => xExtract 1 v1 fun v4 => .nrm (sp 23 v4 (sp 22 v3 tm)) s := reg1 7
theorem rgSearch_114 : ∀ r s tm, cSearch_114.run r tm s = .nrm (sp 40 (gp 23 tm) tm) s := reg1 1
theorem rgSearch_117 : ∀ r s tm, cSearch_117.run r tm s = .nrm (sp 6 (gp 22 tm) tm) s := reg1 2
theorem rgSearch_121 : ∀ r s tm, cSearch_121.run r tm s = foldF (r.call 36 [(V.nat .i64 1)] s) fun v0 s => .nrm (sp 6 v0 tm) s := reg1 2
theorem szSearch_50 : sizeC uSearch_50 = 114 := by kernel_rfl
theorem szSearch_37 : sizeC uSearch_37 = 142 := by kernel_rfl
theorem szSearch_21 : sizeC uSearch_21 = 175 := by kernel_rfl
theorem szSearch_12 : sizeC uSearch_12 = 207 := by kernel_rfl
theorem szSearch_93 : sizeC uSearch_93 = 37 := by kernel_rfl
theorem lpSearch_50 : ∀ r s tm, cSearch_50.run r tm s = seqA (fun tm s => r.code fiSearch uSearch_50 tm s) (seqA (fun tm s => seqA (fun tm s => seqA (fun tm s => cSearch_77.run r tm s) (blockN 7 (seqA (fun tm s => seqA (fun tm s => blockN 8 (seqA (fun tm s => condV (gp 33 tm) (cSearch_67.run r tm s) (seqA (fun tm s => condV (gp 34 tm) (cSearch_71.run r tm s) (seqA (fun tm s => condV (gp 35 tm) (cSearch_75.run r tm s) (.nrm tm s)) (cSearch_73.run r tm s))) (cSearch_69.run r tm s))) (cSearch_65.run r tm s))) (cSearch_62.run r tm s)) (cSearch_60.run r tm s)))) (condV (gp 32 tm) (.nrm tm s) (.ext 6 tm s))) (cSearch_52.run r tm s)) := by intros; kernel_rfl
theorem lpSearch_37 : ∀ r s tm, cSearch_37.run r tm s = seqA (fun tm s => r.code fiSearch uSearch_37 tm s) (seqA (fun tm s => seqA (fun tm s => blockN 5 (seqA (fun tm s => seqA (fun tm s => blockN 6 (cSearch_50.run r tm s)) (cSearch_48.run r tm s)) (cSearch_46.run r tm s))) (condV (gp 28 tm) (.nrm tm s) (.ext 4 tm s))) (cSearch_39.run r tm s)) := by intros; kernel_rfl
theorem lpSearch_21 : ∀ r s tm, cSearch_21.run r tm s = seqA (fun tm s => r.code fiSearch uSearch_21 tm s) (seqA (fun tm s => seqA (fun tm s => seqA (fun tm s => cSearch_78.run r tm s) (blockN 3 (seqA (fun tm s => seqA (fun tm s => seqA (fun tm s => blockN 4 (cSearch_37.run r tm s)) (cSearch_35.run r tm s)) (cSearch_33.run r tm s)) (cSearch_31.run r tm s)))) (condV (gp 26 tm) (.nrm tm s) (.ext 2 tm s))) (cSearch_23.run r tm s)) := by intros; kernel_rfl
theorem lpSearch_12 : ∀ r s tm, cSearch_12.run r tm s = seqA (fun tm s => r.code fiSearch uSearch_12 tm s) (seqA (fun tm s => cSearch_86.run r tm s) (blockN 1 (seqA (fun tm s => seqA (fun tm s => seqA (fun tm s => cSearch_85.run r tm s) (seqA (fun tm s => condV (gp 36 tm) (.ext 0 tm s) (.nrm tm s)) (cSearch_81.run r tm s))) (seqA (fun tm s => blockN 2 (cSearch_21.run r tm s)) (cSearch_19.run r tm s))) (cSearch_16.run r tm s)))) := by intros; kernel_rfl
theorem lpSearch_93 : ∀ r s tm, cSearch_93.run r tm s = seqA (fun tm s => r.code fiSearch uSearch_93 tm s) (seqA (fun tm s => seqA (fun tm s => blockN 10 (seqA (fun tm s => seqA (fun tm s => seqA (fun tm s => condV (gp 39 tm) (cSearch_108.run r tm s) (.nrm tm s)) (cSearch_106.run r tm s)) (cSearch_104.run r tm s)) (cSearch_102.run r tm s))) (condV (gp 38 tm) (.nrm tm s) (.ext 9 tm s))) (cSearch_95.run r tm s)) := by intros; kernel_rfl
theorem allSearch : type_of% (And.intro rgSearch_1 <| And.intro rgSearch_3 <| And.intro rgSearch_5 <| And.intro rgSearch_7 <| And.intro rgSearch_10 <| And.intro rgSearch_16 <| And.intro rgSearch_19 <| And.intro rgSearch_23 <| And.intro rgSearch_31 <| And.intro rgSearch_33 <| And.intro rgSearch_35 <| And.intro rgSearch_39 <| And.intro rgSearch_46 <| And.intro rgSearch_48 <| And.intro rgSearch_52 <| And.intro rgSearch_60 <| And.intro rgSearch_62 <| And.intro rgSearch_65 <| And.intro rgSearch_67 <| And.intro rgSearch_69 <| And.intro rgSearch_71 <| And.intro rgSearch_73 <| And.intro rgSearch_75 <| And.intro rgSearch_77 <| And.intro rgSearch_78 <| And.intro rgSearch_81 <| And.intro rgSearch_85 <| And.intro rgSearch_86 <| And.intro rgSearch_88 <| And.intro rgSearch_91 <| And.intro rgSearch_95 <| And.intro rgSearch_102 <| And.intro rgSearch_104 <| And.intro rgSearch_106 <| And.intro rgSearch_108 <| And.intro rgSearch_112 <| And.intro rgSearch_114 <| And.intro rgSearch_117 <| And.intro rgSearch_121 <| eSearchx) := And.intro rgSearch_1 <| And.intro rgSearch_3 <| And.intro rgSearch_5 <| And.intro rgSearch_7 <| And.intro rgSearch_10 <| And.intro rgSearch_16 <| And.intro rgSearch_19 <| And.intro rgSearch_23 <| And.intro rgSearch_31 <| And.intro rgSearch_33 <| And.intro rgSearch_35 <| And.intro rgSearch_39 <| And.intro rgSearch_46 <| And.intro rgSearch_48 <| And.intro rgSearch_52 <| And.intro rgSearch_60 <| And.intro rgSearch_62 <| And.intro rgSearch_65 <| And.intro rgSearch_67 <| And.intro rgSearch_69 <| And.intro rgSearch_71 <| And.intro rgSearch_73 <| And.intro rgSearch_75 <| And.intro rgSearch_77 <| And.intro rgSearch_78 <| And.intro rgSearch_81 <| And.intro rgSearch_85 <| And.intro rgSearch_86 <| And.intro rgSearch_88 <| And.intro rgSearch_91 <| And.intro rgSearch_95 <| And.intro rgSearch_102 <| And.intro rgSearch_104 <| And.intro rgSearch_106 <| And.intro rgSearch_108 <| And.intro rgSearch_112 <| And.intro rgSearch_114 <| And.intro rgSearch_117 <| And.intro rgSearch_121 <| eSearchx
/- abugida/regex.search$1: parameters 0, slots in the frame: [(0, 0), (1, 1), (2, 2), (3, 3), (4, 9), (5, 10), (6, 11)] -/
def fiSearchC : FI := ⟨520688, 19, 4⟩
noncomputable def bodySearchC := bodyOf Tryz.prog 33
noncomputable def cSearchC_1 := comp pc0 fiSearchC (subC [0] bodySearchC)
noncomputable def cSearchC_3 := comp pc0 fiSearchC (subC [1, 0] bodySearchC)
noncomputable def cSearchC_6 := comp pc0 fiSearchC (subC [1, 1, 0, 0] bodySearchC)
noncomputable def cSearchC_10 := comp pc0 fiSearchC (subC [1, 1, 0, 1, 0, 0, 0] bodySearchC)
noncomputable def cSearchC_18 := comp pc0 fiSearchC (subC [1, 1, 0, 1, 0, 0, 1, 1, 0, 0, 0] bodySearchC)
noncomputable def cSearchC_19 := comp pc0 fiSearchC (subC [1, 1, 0, 1, 0, 0, 1, 1, 0, 0, 1] bodySearchC)
noncomputable def cSearchC_20 := comp pc0 fiSearchC (subC [1, 1, 0, 1, 0, 0, 1, 1, 1] bodySearchC)
noncomputable def uSearchC_8 := subC [1, 1, 0, 1, 0] bodySearchC
noncomputable def cSearchC_8 := comp pc0 fiSearchC uSearchC_8
noncomputable def cSearchC_22 := comp pc0 fiSearchC (subC [1, 1, 1, 0] bodySearchC)
noncomputable def cSearchC_0 := comp pc0 fiSearchC bodySearchC
noncomputable def finSearchC := finN (resC pc0 fiSearchC (resOf Tryz.prog 33)).run
theorem eSearchCx :
 ((∀ r s x0, (fnC pc0 33).run r [x0] s = outF (bindR (fun tm s => finSearchC tm s) (cSearchC_0.run r (sp 0 x0 T.new) s))) ∧
 ((∀ s tm, finSearchC tm s = finV (gp 240 tm) (resV [(gp 1 tm)] s)) ∧
 (∀ r s tm, cSearchC_0.run r tm s = seqA (fun tm s => seqA (fun tm s => seqA (fun tm s => seqA (fun tm s => .ret tm s) (cSearchC_22.run r tm s)) (seqA (fun tm s => blockN 0 (cSearchC_8.run r tm s)) (cSearchC_6.run r tm s))) (cSearchC_3.run r tm s)) (cSearchC_1.run r tm s)))) := by
 and_intros <;> (intros; kernel_rfl)
theorem rgSearchC_1 : ∀ r s tm, cSearchC_1.run r tm s = .nrm (sp 1 (V.nil 1) tm) s := reg1 1
theorem rgSearchC_3 : ∀ r s tm, cSearchC_3.run r tm s = xLoad false 1 (gp 0 tm) s fun v0 s => xLenS v0 fun v1 => xBin ⟨9, []⟩ false .add v1 (V.nat .i64 1) fun v2 => xMakeSlice 76 8 [(V.nil 2)] v2 v2 s fun v3 s => .nrm (sp 2 v3 tm) s := reg1 5
theorem rgSearchC_6 : ∀ r s tm, cSearchC_6.run r tm s = xLenS (gp 2 tm) fun v1 => .nrm (sp 5 (V.nat .i64 0) (sp 4 v1 tm)) s := reg1 3
theorem rgSearchC_10 : ∀ r s tm, cSearchC_10.run r tm s = xBin ⟨9, []⟩ false .lss (gp 5 tm) (gp 4 tm) fun v0 => .nrm (sp 6 v0 tm) s := reg1 1
theorem rgSearchC_18 : ∀ r s tm, cSearchC_18.run r tm s = .nrm (sp 3 (gp 5 tm) tm) s := reg1 2
theorem rgSearchC_19 : ∀ r s tm, cSearchC_19.run r tm s = hnew s (.map [] 0) fun a2k s => xIdxAddrS 1 (gp 2 tm) (gp 3 tm) fun v3 => xStore 1 v3 (V.ref 0 a2k) s fun _ s => .nrm tm s := reg1 5
theorem rgSearchC_20 : ∀ r s tm, cSearchC_20.run r tm s = xBin ⟨9, []⟩ false .add (gp 5 tm) (V.nat .i64 1) fun v0 => .nrm (sp 5 v0 tm) s := reg1 2
theorem rgSearchC_22 : ∀ r s tm, cSearchC_22.run r tm s = .nrm (sp 1 (gp 2 tm) tm) s := reg1 2
theorem szSearchC_8 : sizeC uSearchC_8 = 23 := by kernel_rfl
theorem lpSearchC_8 : ∀ r s tm, cSearchC_8.run r tm s = seqA (fun tm s => r.code fiSearchC uSearchC_8 tm s) (seqA (fun tm s => seqA (fun tm s => seqA (fun tm s => cSearchC_20.run r tm s) (blockN 1 (seqA (fun tm s => cSearchC_19.run r tm s) (cSearchC_18.run r tm s)))) (condV (gp 6 tm) (.nrm tm s) (.ext 0 tm s))) (cSearchC_10.run r tm s)) := by intros; kernel_rfl
theorem allSearchC : type_of% (And.intro rgSearchC_1 <| And.intro rgSearchC_3 <| And.intro rgSearchC_6 <| And.intro rgSearchC_10 <| And.intro rgSearchC_18 <| And.intro rgSearchC_19 <| And.intro rgSearchC_20 <| And.intro rgSearchC_22 <| eSearchCx) := And.intro rgSearchC_1 <| And.intro rgSearchC_3 <| And.intro rgSearchC_6 <| And.intro rgSearchC_10 <| And.intro rgSearchC_18 <| And.intro rgSearchC_19 <| And.intro rgSearchC_20 <| And.intro rgSearchC_22 <| eSearchCx
/- (abugida/regex.values).spread: parameters 2, slots in the frame: [(0, 0), (1, 1), (2, 2), (3, 3), (4, 4), (5, 5), (6, 6), (7, 7), (8, 8), (9, 10), (10, 12), (11, 23), (12, 34), (13, 35), (14, 36), (15, 37), (16, 58)] -/
def fiSpread : FI := ⟨36605257513560959488, 65, 4⟩
noncomputable def bodySpread := bodyOf Tryz.prog 34
noncomputable def cSpread_1 := comp pc0 fiSpread (subC [0] bodySpread)
noncomputable def cSpread_3 := comp pc0 fiSpread (subC [1, 0] bodySpread)
noncomputable def cSpread_6 := comp pc0 fiSpread (subC [1, 1, 0, 0] bodySpread)
noncomputable def cSpread_10 := comp pc0 fiSpread (subC [1, 1, 0, 1, 0, 0, 0] bodySpread)
noncomputable def cSpread_17 := comp pc0 fiSpread (subC [1, 1, 0, 1, 0, 0, 1, 1, 0, 0] bodySpread)
noncomputable def cSpread_18 := comp pc0 fiSpread (subC [1, 1, 0, 1, 0, 0, 1, 1, 0, 1] bodySpread)
noncomputable def uSpread_8 := subC [1, 1, 0, 1, 0] bodySpread
noncomputable def cSpread_8 := comp pc0 fiSpread uSpread_8
noncomputable def cSpread_20 := comp pc0 fiSpread (subC [1, 1, 1, 0] bodySpread)
noncomputable def cSpread_25 := comp pc0 fiSpread (subC [1, 1, 1, 1, 0, 0, 0, 0] bodySpread)
noncomputable def cSpread_31 := comp pc0 fiSpread (subC [1, 1, 1, 1, 0, 0, 1, 0, 0] bodySpread)
noncomputable def cSpread_33 := comp pc0 fiSpread (subC [1, 1, 1, 1, 0, 0, 1, 0, 1, 0] bodySpread)
noncomputable def cSpread_35 := comp pc0 fiSpread (subC [1, 1, 1, 1, 0, 0, 1, 0, 1, 1, 0] bodySpread)
noncomputable def cSpread_39 := comp pc0 fiSpread (subC [1, 1, 1, 1, 0, 0, 1, 0, 1, 1, 1, 0, 0, 0] bodySpread)
noncomputable def cSpread_47 := comp pc0 fiSpread (subC [1, 1, 1, 1, 0, 0, 1, 0, 1, 1, 1, 0, 0, 1, 1, 0, 0, 0] bodySpread)
noncomputable def uSpread_49 := subC [1, 1, 1, 1, 0, 0, 1, 0, 1, 1, 1, 0, 0, 1, 1, 0, 0, 1, 0] bodySpread
noncomputable def cSpread_49 := comp pc0 fiSpread uSpread_49
noncomputable def qSpread_49_18 := qOf pc0 fiSpread uSpread_49 18 1 [58, 57, 56, 55, 54, 53, 52, 51, 50, 49, 48, 47, 46, 45, 44, 43, 42, 41]
noncomputable def qSpread_49_9 := qOf pc0 fiSpread uSpread_49 9 9 [49, 48, 47, 46, 45, 44, 43, 42, 41]
noncomputable def qSpread_49_7 := qOf pc0 fiSpread uSpread_49 7 2 [47, 46, 45, 44, 43, 42, 41]
noncomputable def qSpread_49_4 := qOf pc0 fiSpread uSpread_49 4 3 [44, 43, 42, 41]
noncomputable def qSpread_49_0 := qOf pc0 fiSpread uSpread_49 0 4 []
noncomputable def cSpread_51 := comp pc0 fiSpread (subC [1, 1, 1, 1, 0, 0, 1, 0, 1, 1, 1, 0, 0, 1, 1, 0, 0, 1, 1, 0] bodySpread)
noncomputable def cSpread_53 := comp pc0 fiSpread (subC [1, 1, 1, 1, 0, 0, 1, 0, 1, 1, 1, 0, 0, 1, 1, 1] bodySpread)
noncomputable def uSpread_37 := subC [1, 1, 1, 1, 0, 0, 1, 0, 1, 1, 1, 0] bodySpread
noncomputable def cSpread_37 := comp pc0 fiSpread uSpread_37
noncomputable def uSpread_22 := subC [1, 1, 1, 1, 0] bodySpread
noncomputable def cSpread_22 := comp pc0 fiSpread uSpread_22
noncomputable def cSpread_0 := comp pc0 fiSpread bodySpread
noncomputable def finSpread := finN (resC pc0 fiSpread (resOf Tryz.prog 34)).run
theorem eSpreadx :
 ((((∀ r s x0 x1, (fnC pc0 34).run r [x0, x1] s = outF (bindR (fun tm s => finSpread tm s) (cSpread_0.run r (sp 1 x1 (sp 0 x0 T.new)) s))) ∧
 (∀ s tm, finSpread tm s = finV (gp 240 tm) (resV [] s))) ∧
 ((∀ r s tm, cSpread_0.run r tm s = seqA (fun tm s => seqA (fun tm s => seqA (fun tm s => seqA (fun tm s => blockN 2 (cSpread_22.run r tm s)) (cSpread_20.run r tm s)) (seqA (fun tm s => blockN 0 (cSpread_8.run r tm s)) (cSpread_6.run r tm s))) (cSpread_3.run r tm s)) (cSpread_1.run r tm s)) ∧
 ((∀ g r s tm le, (qSpread_49_0 g).run r tm (le) s = xFieldAddr 0 (gp 8 tm) fun v0 => xLoad false 1 v0 s fun v1 s => xBin ⟨7, []⟩ true .eql v1 (V.nat .i64 0) fun v2 => g.run r tm (v2 :: v2 :: v1 :: v0 :: le) s) ∧
 (∀ g r s tm le, (qSpread_49_4 g).run r tm ((.bool true) :: le) s = xFieldAddr 1 (gp 8 tm) fun v4 => xLoad false 1 v4 s fun v5 s => xBin ⟨7, []⟩ true .eql v5 (V.nat .i64 0) fun v6 => g.run r tm (v6 :: v5 :: v4 :: (.bool true) :: le) s)))) ∧
 (((∀ g r s tm le, (qSpread_49_4 g).run r tm ((.bool false) :: le) s = g.run r tm (Go.Ev.undef :: Go.Ev.undef :: Go.Ev.undef :: (.bool false) :: le) s) ∧
 (∀ g r s tm le x0_ x1_ x2_ x3_, (qSpread_49_7 g).run r tm (x0_ :: x1_ :: x2_ :: x3_ :: le) s = xPick x3_ (fun _ => g.run r tm (x0_ :: x0_ :: x0_ :: x1_ :: x2_ :: x3_ :: le) s) (fun _ => g.run r tm ((V.bool false) :: (V.bool false) :: x0_ :: x1_ :: x2_ :: x3_ :: le) s))) ∧
 ((∀ g r s tm le, (qSpread_49_9 g).run r tm ((.bool true) :: le) s = xFieldAddr 3 (gp 8 tm) fun v10 => xLoad false 1 v10 s fun v11 s => xLookup ⟨7, []⟩ (V.str []) false (gp 0 tm) (gp 6 tm) s fun v14 => xFieldAddr 2 (gp 8 tm) fun v15 => xLoad false 1 v15 s fun v16 s => foldF (r.call 35 [(gp 0 tm), v11, v14, v16] s) fun v17 s => g.run r tm (v17 :: v16 :: v15 :: v14 :: (gp 6 tm) :: (gp 0 tm) :: v11 :: v10 :: (gp 0 tm) :: (.bool true) :: le) s) ∧
 ((∀ g r s tm le, (qSpread_49_9 g).run r tm ((.bool false) :: le) s = g.run r tm (Go.Ev.undef :: Go.Ev.undef :: Go.Ev.undef :: Go.Ev.undef :: Go.Ev.undef :: Go.Ev.undef :: Go.Ev.undef :: Go.Ev.undef :: Go.Ev.undef :: (.bool false) :: le) s) ∧
 (∀ g r s tm le x0_ x1_ x2_ x3_ x4_ x5_ x6_ x7_ x8_ x9_, (qSpread_49_18 g).run r tm (x0_ :: x1_ :: x2_ :: x3_ :: x4_ :: x5_ :: x6_ :: x7_ :: x8_ :: x9_ :: le) s = xPick x9_ (fun _ => g.run r (sp 16 x0_ tm) (x0_ :: x0_ :: x1_ :: x2_ :: x3_ :: x4_ :: x5_ :: x6_ :: x7_ :: x8_ :: x9_ :: le) s) (fun _ => g.run r (sp 16 (V.bool false) tm) ((V.bool false) :: x0_ :: x1_ :: x2_ :: x3_ :: x4_ :: x5_ :: x6_ :: x7_ :: x8_ :: x9_ :: le) s)))))) := by
 and_intros <;> (intros; kernel_rfl)
theorem rgSpread_1 : ∀ r s tm, cSpread_1.run r tm s = cellsC 4 (gp 1 tm) fun l0 => Go.Ev.newRow s 37 l0 false fun a0k _ s => .nrm (sp 3 (V.ptr a0k 0 0) tm) s := reg1 1
theorem rgSpread_3 : ∀ r s tm, cSpread_3.run r tm s = .nrm (sp 4 (V.nil 1) tm) s := reg1 1
theorem rgSpread_6 : ∀ r s tm, cSpread_6.run r tm s = xRangeM (gp 0 tm) s fun v1 s => .nrm (sp 9 v1 tm) s := reg1 2
theorem rgSpread_10 : ∀ r s tm, cSpread_10.run r tm s = xNextM (gp 9 tm) s fun v0 s => xExtract 0 v0 fun v1 => .nrm (sp 10 v1 tm) s := by intros; kernel_rfl
theorem rgSpread_17 : ∀ r s tm, cSpread_17.run r tm s = xEntry (gp 9 tm) s fun v0 => xExtract 0 v0 fun v1 => .nrm (sp 5 v1 tm) s := reg1 3
theorem rgSpread_18 : ∀ r s tm, cSpread_18.run r tm s = repL [(V.nat .i64 0)] 1 fun l2z => cellsC 1 (gp 5 tm) fun x2_0 => updL x2_0 0 l2z fun l2_0 => Go.Ev.newRow s 3 l2_0 false fun a2k _ s => xAppend 3 1 (gp 4 tm) (V.sl a2k 0 0 1 1) s fun v3 s => .nrm (sp 4 v3 tm) s := reg1 5
theorem rgSpread_20 : ∀ r s tm, cSpread_20.run r tm s = foldF (r.call 85 [(gp 4 tm)] s) fun _ s => .nrm tm s := reg1 2
theorem rgSpread_25 : ∀ r s tm, cSpread_25.run r tm s = xLenS (gp 4 tm) fun v1 => xBin ⟨9, []⟩ false .gtr v1 (V.nat .i64 0) fun v2 => .nrm (sp 11 v2 tm) s := reg1 3
theorem rgSpread_31 : ∀ r s tm, cSpread_31.run r tm s = xIdxAddrS 1 (gp 4 tm) (V.nat .i64 0) fun v1 => xLoad false 1 v1 s fun v2 s => .nrm (sp 6 v2 tm) s := reg1 4
theorem rgSpread_33 : ∀ r s tm, cSpread_33.run r tm s = xSlice 3 1 (gp 4 tm) (some (V.nat .i64 1)) none none s fun v1 => .nrm (sp 4 v1 tm) s := reg1 3
theorem rgSpread_35 : ∀ r s tm, cSpread_35.run r tm s = xFieldAddr 3 (gp 3 tm) fun v0 => xLoad false 1 v0 s fun v1 s => xIdxAddrS 2 v1 (gp 6 tm) fun v3 => xFieldAddr 1 v3 fun v4 => xLoad false 1 v4 s fun v5 s => xLenS v5 fun v6 => .nrm (sp 14 (V.nat .i64 0) (sp 13 v6 (sp 12 v5 tm))) s := reg1 8
theorem rgSpread_39 : ∀ r s tm, cSpread_39.run r tm s = xBin ⟨9, []⟩ false .lss (gp 14 tm) (gp 13 tm) fun v0 => .nrm (sp 15 v0 tm) s := reg1 1
theorem rgSpread_47 : ∀ r s tm, cSpread_47.run r tm s = xIdxAddrS 4 (gp 12 tm) (gp 14 tm) fun v0 => xLoad true 4 v0 s fun v1 s => Go.Ev.newRow s 59 [(V.nat .i64 0), (V.nat .i64 0), (V.str []), (V.nat .i64 0)] false fun a2k _ s => xStore 4 (V.ptr a2k 0 0) v1 s fun _ s => .nrm (sp 8 (V.ptr a2k 0 0) tm) s := reg1 4
theorem rgSpread_49 : ∀ r s tm, cSpread_49.run r tm s = (qSpread_49_0 (qSpread_49_4 (qSpread_49_7 (qSpread_49_9 (qSpread_49_18 nilL))))).run r tm [] s := reg_run (by kernel_rfl) (chS rfl (by kernel_rfl) (chS rfl (by kernel_rfl) (chS rfl (by kernel_rfl) (chS rfl (by kernel_rfl) chL))))
theorem rgSpread_51 : ∀ r s tm, cSpread_51.run r tm s = xFieldAddr 3 (gp 8 tm) fun v1 => xLoad false 1 v1 s fun v2 s => repL [(V.nat .i64 0)] 1 fun l3z => cellsC 1 v2 fun x3_0 => updL x3_0 0 l3z fun l3_0 => Go.Ev.newRow s 3 l3_0 false fun a3k _ s => xAppend 3 1 (gp 4 tm) (V.sl a3k 0 0 1 1) s fun v4 s => .nrm (sp 4 v4 tm) s := reg1 6
theorem rgSpread_53 : ∀ r s tm, cSpread_53.run r tm s = xBin ⟨9, []⟩ false .add (gp 14 tm) (V.nat .i64 1) fun v0 => .nrm (sp 14 v0 tm) s := reg1 2
theorem szSpread_8 : sizeC uSpread_8 = 21 := by kernel_rfl
theorem szSpread_37 : sizeC uSpread_37 = 49 := by kernel_rfl
theorem szSpread_22 : sizeC uSpread_22 = 82 := by kernel_rfl
theorem lpSpread_8 : ∀ r s tm, cSpread_8.run r tm s = seqA (fun tm s => r.code fiSpread uSpread_8 tm s) (seqA (fun tm s => seqA (fun tm s => blockN 1 (seqA (fun tm s => cSpread_18.run r tm s) (cSpread_17.run r tm s))) (condV (gp 10 tm) (.nrm tm s) (.ext 0 tm s))) (cSpread_10.run r tm s)) := by intros; kernel_rfl
theorem lpSpread_37 : ∀ r s tm, cSpread_37.run r tm s = seqA (fun tm s => r.code fiSpread uSpread_37 tm s) (seqA (fun tm s => seqA (fun tm s => seqA (fun tm s => cSpread_53.run r tm s) (blockN 5 (seqA (fun tm s => seqA (fun tm s => condV (gp 16 tm) (cSpread_51.run r tm s) (.nrm tm s)) (cSpread_49.run r tm s)) (cSpread_47.run r tm s)))) (condV (gp 15 tm) (.nrm tm s) (.ext 4 tm s))) (cSpread_39.run r tm s)) := by intros; kernel_rfl
theorem lpSpread_22 : ∀ r s tm, cSpread_22.run r tm s = seqA (fun tm s => r.code fiSpread uSpread_22 tm s) (seqA (fun tm s => blockN 3 (seqA (fun tm s => seqA (fun tm s => seqA (fun tm s => blockN 4 (cSpread_37.run r tm s)) (cSpread_35.run r tm s)) (cSpread_33.run r tm s)) (cSpread_31.run r tm s))) (seqA (fun tm s => condV (gp 11 tm) (.nrm tm s) (.ext 2 tm s)) (cSpread_25.run r tm s))) := by intros; kernel_rfl
theorem allSpread : type_of% (And.intro rgSpread_1 <| And.intro rgSpread_3 <| And.intro rgSpread_6 <| And.intro rgSpread_10 <| And.intro rgSpread_17 <| And.intro rgSpread_18 <| And.intro rgSpread_20 <| And.intro rgSpread_25 <| And.intro rgSpread_31 <| And.intro rgSpread_33 <| And.intro rgSpread_35 <| And.intro rgSpread_39 <| And.intro rgSpread_47 <| And.intro rgSpread_49 <| And.intro rgSpread_51 <| And.intro rgSpread_53 <| eSpreadx) := And.intro rgSpread_1 <| And.intro rgSpread_3 <| And.intro rgSpread_6 <| And.intro rgSpread_10 <| And.intro rgSpread_17 <| And.intro rgSpread_18 <| And.intro rgSpread_20 <| And.intro rgSpread_25 <| And.intro rgSpread_31 <| And.intro rgSpread_33 <| And.intro rgSpread_35 <| And.intro rgSpread_39 <| And.intro rgSpread_47 <| And.intro rgSpread_49 <| And.intro rgSpread_51 <| And.intro rgSpread_53 <| eSpreadx
/- (abugida/regex.values).reach: parameters 4, slots in the frame: [(0, 0), (1, 1), (2, 2), (3, 3), (4, 4), (5, 5), (6, 6), (7, 7), (8, 8), (9, 9), (10, 10), (11, 11), (12, 12), (13, 20), (14, 36)] -/
def fiReach : FI := ⟨1030791094272, 40, 4⟩
noncomputable def bodyReach := bodyOf Tryz.prog 35
noncomputable def cReach_1 := comp pc0 fiReach (subC [0] bodyReach)
noncomputable def cReach_3 := comp pc0 fiReach (subC [1, 0] bodyReach)
noncomputable def cReach_6 := comp pc0 fiReach (subC [1, 1, 0, 0] bodyReach)
noncomputable def cReach_8 := comp pc0 fiReach (subC [1, 1, 0, 1, 0] bodyReach)
noncomputable def cReach_11 := comp pc0 fiReach (subC [1, 1, 1, 0] bodyReach)
noncomputable def uReach_14 := subC [1, 1, 1, 1, 0, 0] bodyReach
noncomputable def cReach_14 := comp pc0 fiReach uReach_14
noncomputable def qReach_14_6 := qOf pc0 fiReach uReach_14 6 1 [36, 35, 34, 33, 32, 31]
noncomputable def qReach_14_2 := qOf pc0 fiReach uReach_14 2 4 [32, 31]
noncomputable def qReach_14_0 := qOf pc0 fiReach uReach_14 0 2 []
noncomputable def cReach_17 := comp pc0 fiReach (subC [1, 1, 1, 1, 0, 1, 0, 0] bodyReach)
noncomputable def cReach_21 := comp pc0 fiReach (subC [1, 1, 1, 1, 1, 0] bodyReach)
noncomputable def cReach_23 := comp pc0 fiReach (subC [1, 1, 1, 1, 1, 1, 0] bodyReach)
noncomputable def cReach_0 := comp pc0 fiReach bodyReach
noncomputable def finReach := finN (resC pc0 fiReach (resOf Tryz.prog 35)).run
theorem eReachx :
 (((∀ r s x0 x1 x2 x3, (fnC pc0 35).run r [x0, x1, x2, x3] s = outF (bindR (fun tm s => finReach tm s) (cReach_0.run r (sp 3 x3 (sp 2 x2 (sp 1 x1 (sp 0 x0 T.new)))) s))) ∧
 ((∀ s tm, finReach tm s = finV (gp 240 tm) (resV [(gp 8 tm)] s)) ∧
 (∀ r s tm, cReach_0.run r tm s = seqA (fun tm s => seqA (fun tm s => seqA (fun tm s => seqA (fun tm s => seqA (fun tm s => seqA (fun tm s => seqA (fun tm s => .ret tm s) (cReach_23.run r tm s)) (cReach_21.run r tm s)) (seqA (fun tm s => condV (gp 14 tm) (seqA (fun tm s => .ret tm s) (cReach_17.run r tm s)) (.nrm tm s)) (cReach_14.run r tm s))) (cReach_11.run r tm s)) (seqA (fun tm s => condV (gp 13 tm) (cReach_8.run r tm s) (.nrm tm s)) (cReach_6.run r tm s))) (cReach_3.run r tm s)) (cReach_1.run r tm s)))) ∧
 (((∀ g r s tm le, (qReach_14_0 g).run r tm (le) s = g.run r tm ((gp 12 tm) :: (gp 12 tm) :: le) s) ∧
 (∀ g r s tm le, (qReach_14_2 g).run r tm ((.bool true) :: le) s = foldF (r.call 87 [(V.nat .i64 1), (gp 9 tm), (gp 11 tm)] s) fun v4 s => xBin ⟨9, []⟩ false .geq v4 (V.nat .i64 0) fun v5 => g.run r tm (v5 :: v4 :: (gp 11 tm) :: (gp 9 tm) :: (.bool true) :: le) s)) ∧
 ((∀ g r s tm le, (qReach_14_2 g).run r tm ((.bool false) :: le) s = g.run r tm (Go.Ev.undef :: Go.Ev.undef :: Go.Ev.undef :: Go.Ev.undef :: (.bool false) :: le) s) ∧
 (∀ g r s tm le x0_ x1_ x2_ x3_ x4_, (qReach_14_6 g).run r tm (x0_ :: x1_ :: x2_ :: x3_ :: x4_ :: le) s = xPick x4_ (fun _ => g.run r (sp 14 x0_ tm) (x0_ :: x0_ :: x1_ :: x2_ :: x3_ :: x4_ :: le) s) (fun _ => g.run r (sp 14 (V.bool false) tm) ((V.bool false) :: x0_ :: x1_ :: x2_ :: x3_ :: x4_ :: le) s))))) := by
 and_intros <;> (intros; kernel_rfl)
theorem rgReach_1 : ∀ r s tm, cReach_1.run r tm s = .nrm (sp 8 (V.bool false) tm) s := reg1 1
theorem rgReach_3 : ∀ r s tm, cReach_3.run r tm s = foldF (r.call 86 [(V.nat .i64 1), (gp 2 tm), (gp 3 tm)] s) fun v2 s => xExtract 0 v2 fun v4 => xExtract 1 v2 fun v5 => .nrm (sp 10 v5 (sp 9 v4 tm)) s := reg1 8
theorem rgReach_6 : ∀ r s tm, cReach_6.run r tm s = xBin ⟨7, []⟩ true .neq (gp 10 tm) (V.nat .i64 0) fun v1 => .nrm (sp 13 v1 tm) s := reg1 2
theorem rgReach_11 : ∀ r s tm, cReach_11.run r tm s = xLookup ⟨7, []⟩ (V.str []) true (gp 0 tm) (gp 1 tm) s fun v2 => xExtract 0 v2 fun v4 => xExtract 1 v2 fun v5 => .nrm (sp 12 v5 (sp 11 v4 tm)) s := reg1 8
theorem rgReach_14 : ∀ r s tm, cReach_14.run r tm s = (qReach_14_0 (qReach_14_2 (qReach_14_6 nilL))).run r tm [] s := reg_run (by kernel_rfl) (chS rfl (by kernel_rfl) (chS rfl (by kernel_rfl) chL))
theorem rgReach_17 : ∀ r s tm, cReach_17.run r tm s = .nrm (sp 8 (V.bool false) tm) s := reg1 1
theorem rgReach_21 : ∀ r s tm, cReach_21.run r tm s = xMapUpd ⟨7, []⟩ (gp 0 tm) (gp 1 tm) (gp 9 tm) s fun _ s => .nrm tm s := reg1 4
theorem rgReach_23 : ∀ r s tm, cReach_23.run r tm s = .nrm (sp 8 (V.bool true) tm) s := reg1 1
theorem allReach : type_of% (And.intro rgReach_1 <| And.intro rgReach_3 <| And.intro rgReach_6 <| And.intro rgReach_11 <| And.intro rgReach_14 <| And.intro rgReach_17 <| And.intro rgReach_21 <| And.intro rgReach_23 <| eReachx) := And.intro rgReach_1 <| And.intro rgReach_3 <| And.intro rgReach_6 <| And.intro rgReach_11 <| And.intro rgReach_14 <| And.intro rgReach_17 <| And.intro rgReach_21 <| And.intro rgReach_23 <| eReachx
/- slices.Sort[[]int,int]: parameters 1, slots in the frame: [(0, 0), (1, 1), (2, 2)] -/
def fiSortI : FI := ⟨2040, 11, 4⟩
noncomputable def bodySortI := bodyOf Tryz.prog 85
noncomputable def cSortI_1 := comp pc0 fiSortI (subC [0] bodySortI)
noncomputable def cSortI_2 := comp pc0 fiSortI (subC [1] bodySortI)
noncomputable def cSortI_0 := comp pc0 fiSortI bodySortI
noncomputable def finSortI := finN (resC pc0 fiSortI (resOf Tryz.prog 85)).run
theorem eSortIx :
 ((∀ r s x0, (fnC pc0 85).run r [x0] s = outF (bindR (fun tm s => finSortI tm s) (cSortI_0.run r (sp 0 x0 T.new) s))) ∧
 ((∀ s tm, finSortI tm s = finV (gp 240 tm) (resV [] s)) ∧
 (∀ r s tm, cSortI_0.run r tm s = seqA (fun tm s => cSortI_2.run r tm s) (cSortI_1.run r tm s)))) := by
 and_intros <;> (intros; kernel_rfl)
theorem rgSortI_1 : ∀ r s tm, cSortI_1.run r tm s = xLenS (gp 0 tm) fun v1 => .nrm (sp 2 v1 tm) s := reg1 3
theorem rgSortI_2 : ∀ r s tm, cSortI_2.run r tm s = xIntConv .u64 (gp 2 tm) fun v3 => foldF (r.call 124 [v3] s) fun v4 s => foldF (r.call 123 [(gp 0 tm), (V.nat .i64 0), (gp 2 tm), v4] s) fun _ s => .nrm tm s := reg1 6
theorem allSortI : type_of% (And.intro rgSortI_1 <| And.intro rgSortI_2 <| eSortIx) := And.intro rgSortI_1 <| And.intro rgSortI_2 <| eSortIx
/- slices.pdqsortOrdered[int]: parameters 4, slots in the frame: [(0, 0), (1, 1), (2, 2), (3, 3), (4, 4), (5, 5), (6, 6), (7, 7), (8, 8), (9, 9), (10, 10), (11, 11), (12, 12), (13, 13), (14, 14), (15, 15), (16, 16), (17, 17), (18, 18), (19, 23), (20, 29), (21, 35), (22, 50), (23, 68), (24, 72), (25, 87), (26, 113)] -/
def fiPdqI : FI := ⟨21778061098346189844478291628122334298112, 134, 4⟩
noncomputable def bodyPdqI := bodyOf Tryz.prog 123
noncomputable def cPdqI_1 := comp pc0 fiPdqI (subC [0] bodyPdqI)
noncomputable def cPdqI_3 := comp pc0 fiPdqI (subC [1, 0] bodyPdqI)
noncomputable def cPdqI_8 := comp pc0 fiPdqI (subC [1, 1, 0, 0, 0, 0] bodyPdqI)
noncomputable def cPdqI_11 := comp pc0 fiPdqI (subC [1, 1, 0, 0, 0, 1, 0, 0] bodyPdqI)
noncomputable def cPdqI_14 := comp pc0 fiPdqI (subC [1, 1, 0, 0, 0, 1, 0, 1, 0, 0] bodyPdqI)
noncomputable def cPdqI_19 := comp pc0 fiPdqI (subC [1, 1, 0, 0, 0, 1, 1, 0, 0] bodyPdqI)
noncomputable def cPdqI_22 := comp pc0 fiPdqI (subC [1, 1, 0, 0, 0, 1, 1, 0, 1, 0, 0] bodyPdqI)
noncomputable def cPdqI_27 := comp pc0 fiPdqI (subC [1, 1, 0, 0, 0, 1, 1, 1, 0, 0] bodyPdqI)
noncomputable def cPdqI_30 := comp pc0 fiPdqI (subC [1, 1, 0, 0, 0, 1, 1, 1, 0, 1, 0, 0] bodyPdqI)
noncomputable def cPdqI_31 := comp pc0 fiPdqI (subC [1, 1, 0, 0, 0, 1, 1, 1, 0, 1, 0, 1] bodyPdqI)
noncomputable def cPdqI_34 := comp pc0 fiPdqI (subC [1, 1, 0, 0, 0, 1, 1, 1, 1, 0] bodyPdqI)
noncomputable def cPdqI_37 := comp pc0 fiPdqI (subC [1, 1, 0, 0, 0, 1, 1, 1, 1, 1, 0, 0] bodyPdqI)
noncomputable def cPdqI_40 := comp pc0 fiPdqI (subC [1, 1, 0, 0, 0, 1, 1, 1, 1, 1, 0, 1, 0, 0] bodyPdqI)
noncomputable def cPdqI_42 := comp pc0 fiPdqI (subC [1, 1, 0, 0, 0, 1, 1, 1, 1, 1, 0, 1, 0, 1, 0] bodyPdqI)
noncomputable def cPdqI_43 := comp pc0 fiPdqI (subC [1, 1, 0, 0, 0, 1, 1, 1, 1, 1, 0, 1, 0, 1, 1] bodyPdqI)
noncomputable def uPdqI_47 := subC [1, 1, 0, 0, 0, 1, 1, 1, 1, 1, 1, 0, 0] bodyPdqI
noncomputable def cPdqI_47 := comp pc0 fiPdqI uPdqI_47
noncomputable def qPdqI_47_7 := qOf pc0 fiPdqI uPdqI_47 7 1 [68, 67, 66, 65, 64, 63, 62]
noncomputable def qPdqI_47_5 := qOf pc0 fiPdqI uPdqI_47 5 2 [66, 65, 64, 63, 62]
noncomputable def qPdqI_47_3 := qOf pc0 fiPdqI uPdqI_47 3 2 [64, 63, 62]
noncomputable def qPdqI_47_2 := qOf pc0 fiPdqI uPdqI_47 2 1 [63, 62]
noncomputable def qPdqI_47_0 := qOf pc0 fiPdqI uPdqI_47 0 2 []
noncomputable def cPdqI_50 := comp pc0 fiPdqI (subC [1, 1, 0, 0, 0, 1, 1, 1, 1, 1, 1, 0, 1, 0, 0] bodyPdqI)
noncomputable def uPdqI_57 := subC [1, 1, 0, 0, 0, 1, 1, 1, 1, 1, 1, 1, 0, 0] bodyPdqI
noncomputable def cPdqI_57 := comp pc0 fiPdqI uPdqI_57
noncomputable def qPdqI_57_14 := dqOf pc0 fiPdqI uPdqI_57 14 1 [87, 86, 85, 84, 83, 82, 81, 80, 79, 78, 77, 76, 75, 74]
noncomputable def qPdqI_57_3 := dqOf pc0 fiPdqI uPdqI_57 3 11 [76, 75, 74]
noncomputable def qPdqI_57_0 := dqOf pc0 fiPdqI uPdqI_57 0 3 []
noncomputable def cPdqI_60 := comp pc0 fiPdqI (subC [1, 1, 0, 0, 0, 1, 1, 1, 1, 1, 1, 1, 0, 1, 0, 0] bodyPdqI)
noncomputable def cPdqI_62 := comp pc0 fiPdqI (subC [1, 1, 0, 0, 0, 1, 1, 1, 1, 1, 1, 1, 0, 1, 0, 1, 0] bodyPdqI)
noncomputable def cPdqI_66 := comp pc0 fiPdqI (subC [1, 1, 0, 0, 0, 1, 1, 1, 1, 1, 1, 1, 1, 0] bodyPdqI)
noncomputable def cPdqI_68 := comp pc0 fiPdqI (subC [1, 1, 0, 0, 0, 1, 1, 1, 1, 1, 1, 1, 1, 1, 0] bodyPdqI)
noncomputable def cPdqI_70 := comp pc0 fiPdqI (subC [1, 1, 0, 0, 0, 1, 1, 1, 1, 1, 1, 1, 1, 1, 1, 0] bodyPdqI)
noncomputable def cPdqI_72 := comp pc0 fiPdqI (subC [1, 1, 0, 0, 0, 1, 1, 1, 1, 1, 1, 1, 1, 1, 1, 1, 0] bodyPdqI)
noncomputable def cPdqI_74 := comp pc0 fiPdqI (subC [1, 1, 0, 0, 0, 1, 1, 1, 1, 1, 1, 1, 1, 1, 1, 1, 1, 0] bodyPdqI)
noncomputable def cPdqI_77 := comp pc0 fiPdqI (subC [1, 1, 0, 0, 0, 1, 1, 1, 1, 1, 1, 1, 1, 1, 1, 1, 1, 1, 0, 0] bodyPdqI)
noncomputable def cPdqI_79 := comp pc0 fiPdqI (subC [1, 1, 0, 0, 0, 1, 1, 1, 1, 1, 1, 1, 1, 1, 1, 1, 1, 1, 0, 1, 0] bodyPdqI)
noncomputable def cPdqI_80 := comp pc0 fiPdqI (subC [1, 1, 0, 0, 0, 1, 1, 1, 1, 1, 1, 1, 1, 1, 1, 1, 1, 1, 0, 1, 1] bodyPdqI)
noncomputable def cPdqI_82 := comp pc0 fiPdqI (subC [1, 1, 0, 0, 0, 1, 1, 1, 1, 1, 1, 1, 1, 1, 1, 1, 1, 1, 1, 0] bodyPdqI)
noncomputable def cPdqI_84 := comp pc0 fiPdqI (subC [1, 1, 0, 0, 0, 1, 1, 1, 1, 1, 1, 1, 1, 1, 1, 1, 1, 1, 1, 1, 0] bodyPdqI)
noncomputable def cPdqI_85 := comp pc0 fiPdqI (subC [1, 1, 0, 0, 0, 1, 1, 1, 1, 1, 1, 1, 1, 1, 1, 1, 1, 1, 1, 1, 1] bodyPdqI)
noncomputable def uPdqI_5 := subC [1, 1, 0] bodyPdqI
noncomputable def cPdqI_5 := comp pc0 fiPdqI uPdqI_5
noncomputable def cPdqI_0 := comp pc0 fiPdqI bodyPdqI
noncomputable def finPdqI := finN (resC pc0 fiPdqI (resOf Tryz.prog 123)).run
theorem ePdqIx :
 ((((∀ r s x0 x1 x2 x3, (fnC pc0 123).run r [x0, x1, x2, x3] s = outF (bindR (fun tm s => finPdqI tm s) (cPdqI_0.run r (sp 3 x3 (sp 2 x2 (sp 1 x1 (sp 0 x0 T.new)))) s))) ∧
 ((∀ s tm, finPdqI tm s = finV (gp 240 tm) (resV [] s)) ∧
 (∀ r s tm, cPdqI_0.run r tm s = seqA (fun tm s => seqA (fun tm s => blockN 0 (cPdqI_5.run r tm s)) (cPdqI_3.run r tm s)) (cPdqI_1.run r tm s)))) ∧
 (((∀ g r s tm le, (qPdqI_47_0 g).run r tm (le) s = g.run r tm ((gp 8 tm) :: (gp 8 tm) :: le) s) ∧
 (∀ g r s tm le, (qPdqI_47_2 g).run r tm ((.bool true) :: le) s = g.run r tm ((gp 9 tm) :: (.bool true) :: le) s)) ∧
 ((∀ g r s tm le, (qPdqI_47_2 g).run r tm ((.bool false) :: le) s = g.run r tm (Go.Ev.undef :: (.bool false) :: le) s) ∧
 (∀ g r s tm le x0_ x1_, (qPdqI_47_3 g).run r tm (x0_ :: x1_ :: le) s = xPick x1_ (fun _ => g.run r tm (x0_ :: x0_ :: x0_ :: x1_ :: le) s) (fun _ => g.run r tm ((V.bool false) :: (V.bool false) :: x0_ :: x1_ :: le) s))))) ∧
 (((∀ g r s tm le, (qPdqI_47_5 g).run r tm ((.bool true) :: le) s = xBin ⟨7, []⟩ true .eql (gp 12 tm) (V.nat .i64 1) fun v6 => g.run r tm (v6 :: (gp 12 tm) :: (.bool true) :: le) s) ∧
 ((∀ g r s tm le, (qPdqI_47_5 g).run r tm ((.bool false) :: le) s = g.run r tm (Go.Ev.undef :: Go.Ev.undef :: (.bool false) :: le) s) ∧
 (∀ g r s tm le x0_ x1_ x2_, (qPdqI_47_7 g).run r tm (x0_ :: x1_ :: x2_ :: le) s = xPick x2_ (fun _ => g.run r (sp 23 x0_ tm) (x0_ :: x0_ :: x1_ :: x2_ :: le) s) (fun _ => g.run r (sp 23 (V.bool false) tm) ((V.bool false) :: x0_ :: x1_ :: x2_ :: le) s)))) ∧
 (((∀ g r s tm le, (qPdqI_57_0 g).run r tm (le) s = xBin ⟨9, []⟩ false .gtr (gp 1 tm) (V.nat .i64 0) fun v1 => g.run r tm (v1 :: v1 :: (gp 1 tm) :: le) s) ∧
 (∀ g r s tm le, (qPdqI_57_3 g).run r tm ((.bool true) :: le) s = xBin ⟨9, []⟩ false .sub (gp 1 tm) (V.nat .i64 1) fun v5 => xIdxAddrS 1 (gp 0 tm) v5 fun v6 => xLoad false 1 v6 s fun v7 s => xIdxAddrS 1 (gp 0 tm) (gp 11 tm) fun v10 => xLoad false 1 v10 s fun v11 s => foldF (r.call 166 [v7, v11] s) fun v12 s => xUn .not v12 fun v13 => g.run r tm (v13 :: v12 :: v11 :: v10 :: (gp 11 tm) :: (gp 0 tm) :: v7 :: v6 :: v5 :: (gp 1 tm) :: (gp 0 tm) :: (.bool true) :: le) s)) ∧
 ((∀ g r s tm le, (qPdqI_57_3 g).run r tm ((.bool false) :: le) s = g.run r tm (Go.Ev.undef :: Go.Ev.undef :: Go.Ev.undef :: Go.Ev.undef :: Go.Ev.undef :: Go.Ev.undef :: Go.Ev.undef :: Go.Ev.undef :: Go.Ev.undef :: Go.Ev.undef :: Go.Ev.undef :: (.bool false) :: le) s) ∧
 (∀ g r s tm le x0_ x1_ x2_ x3_ x4_ x5_ x6_ x7_ x8_ x9_ x10_ x11_, (qPdqI_57_14 g).run r tm (x0_ :: x1_ :: x2_ :: x3_ :: x4_ :: x5_ :: x6_ :: x7_ :: x8_ :: x9_ :: x10_ :: x11_ :: le) s = xPick x11_ (fun _ => g.run r (sp 25 x0_ tm) (x0_ :: x0_ :: x1_ :: x2_ :: x3_ :: x4_ :: x5_ :: x6_ :: x7_ :: x8_ :: x9_ :: x10_ :: x11_ :: le) s) (fun _ => g.run r (sp 25 (V.bool false) tm) ((V.bool false) :: x0_ :: x1_ :: x2_ :: x3_ :: x4_ :: x5_ :: x6_ :: x7_ :: x8_ :: x9_ :: x10_ :: x11_ :: le) s)))))) := by
 and_intros <;> (intros; kernel_rfl)
theorem rgPdqI_1 : ∀ r s tm, cPdqI_1.run r tm s = .nrm (sp 8 (V.bool true) tm) s := reg1 1
theorem rgPdqI_3 : ∀ r s tm, cPdqI_3.run r tm s = .nrm (sp 9 (V.bool true) tm) s := reg1 1
theorem rgPdqI_8 : ∀ r s tm, cPdqI_8.run r tm s = xBin ⟨9, []⟩ false .sub (gp 2 tm) (gp 1 tm) fun v2 => .nrm (sp 10 v2 tm) s := reg1 4
theorem rgPdqI_11 : ∀ r s tm, cPdqI_11.run r tm s = xBin ⟨9, []⟩ false .leq (gp 10 tm) (V.nat .i64 12) fun v1 => .nrm (sp 19 v1 tm) s := reg1 2
theorem rgPdqI_14 : ∀ r s tm, cPdqI_14.run r tm s = foldF (r.call 160 [(gp 0 tm), (gp 1 tm), (gp 2 tm)] s) fun _ s => .nrm tm s := reg1 4
theorem rgPdqI_19 : ∀ r s tm, cPdqI_19.run r tm s = xBin ⟨7, []⟩ true .eql (gp 3 tm) (V.nat .i64 0) fun v1 => .nrm (sp 20 v1 tm) s := reg1 2
theorem rgPdqI_22 : ∀ r s tm, cPdqI_22.run r tm s = foldF (r.call 161 [(gp 0 tm), (gp 1 tm), (gp 2 tm)] s) fun _ s => .nrm tm s := reg1 4
theorem rgPdqI_27 : ∀ r s tm, cPdqI_27.run r tm s = xUn .not (gp 8 tm) fun v1 => .nrm (sp 21 v1 tm) s := reg1 2
theorem rgPdqI_30 : ∀ r s tm, cPdqI_30.run r tm s = foldF (r.call 162 [(gp 0 tm), (gp 1 tm), (gp 2 tm)] s) fun _ s => .nrm tm s := reg1 4
theorem rgPdqI_31 : ∀ r s tm, cPdqI_31.run r tm s = xBin ⟨9, []⟩ false .sub (gp 3 tm) (V.nat .i64 1) fun v1 => .nrm (sp 3 v1 tm) s := reg1 3
theorem rgPdqI_34 : ∀ r s tm, cPdqI_34.run r tm s = foldF (r.call 163 [(gp 0 tm), (gp 1 tm), (gp 2 tm)] s) fun v3 s => xExtract 0 v3 fun v5 => xExtract 1 v3 fun v6 => .nrm (sp 12 v6 (sp 11 v5 tm)) s := reg1 9
theorem rgPdqI_37 : ∀ r s tm, cPdqI_37.run r tm s = xBin ⟨7, []⟩ true .eql (gp 12 tm) (V.nat .i64 2) fun v1 => .nrm (sp 22 v1 tm) s := reg1 2
theorem rgPdqI_40 : ∀ r s tm, cPdqI_40.run r tm s = foldF (r.call 164 [(gp 0 tm), (gp 1 tm), (gp 2 tm)] s) fun _ s => .nrm tm s := reg1 4
theorem rgPdqI_42 : ∀ r s tm, cPdqI_42.run r tm s = xBin ⟨9, []⟩ false .sub (gp 2 tm) (V.nat .i64 1) fun v1 => xBin ⟨9, []⟩ false .sub (gp 11 tm) (gp 1 tm) fun v4 => xBin ⟨9, []⟩ false .sub v1 v4 fun v5 => .nrm (sp 11 v5 tm) s := reg1 7
theorem rgPdqI_43 : ∀ r s tm, cPdqI_43.run r tm s = .nrm (sp 12 (V.nat .i64 1) tm) s := reg1 1
theorem rgPdqI_47 : ∀ r s tm, cPdqI_47.run r tm s = (qPdqI_47_0 (qPdqI_47_2 (qPdqI_47_3 (qPdqI_47_5 (qPdqI_47_7 nilL))))).run r tm [] s := reg_run (by kernel_rfl) (chS rfl (by kernel_rfl) (chS rfl (by kernel_rfl) (chS rfl (by kernel_rfl) (chS rfl (by kernel_rfl) chL))))
theorem rgPdqI_50 : ∀ r s tm, cPdqI_50.run r tm s = foldF (r.call 165 [(gp 0 tm), (gp 1 tm), (gp 2 tm)] s) fun v3 s => .nrm (sp 24 v3 tm) s := reg1 4
theorem rgPdqI_57 : ∀ r s tm, cPdqI_57.run r tm s = (qPdqI_57_0 (qPdqI_57_3 (qPdqI_57_14 nilL))).run r.det tm [] s := reg_drun (by kernel_rfl) (dchS rfl (by kernel_rfl) (dchS rfl (by kernel_rfl) dchL))
theorem rgPdqI_60 : ∀ r s tm, cPdqI_60.run r tm s = foldF (r.call 167 [(gp 0 tm), (gp 1 tm), (gp 2 tm), (gp 11 tm)] s) fun v4 s => .nrm (sp 13 v4 tm) s := reg1 6
theorem rgPdqI_62 : ∀ r s tm, cPdqI_62.run r tm s = .nrm (sp 1 (gp 13 tm) tm) s := reg1 2
theorem rgPdqI_66 : ∀ r s tm, cPdqI_66.run r tm s = foldF (r.call 168 [(gp 0 tm), (gp 1 tm), (gp 2 tm), (gp 11 tm)] s) fun v4 s => xExtract 0 v4 fun v6 => xExtract 1 v4 fun v7 => .nrm (sp 15 v7 (sp 14 v6 tm)) s := reg1 10
theorem rgPdqI_68 : ∀ r s tm, cPdqI_68.run r tm s = .nrm (sp 9 (gp 15 tm) tm) s := reg1 2
theorem rgPdqI_70 : ∀ r s tm, cPdqI_70.run r tm s = xBin ⟨9, []⟩ false .sub (gp 14 tm) (gp 1 tm) fun v2 => xBin ⟨9, []⟩ false .sub (gp 2 tm) (gp 14 tm) fun v5 => .nrm (sp 17 v5 (sp 16 v2 tm)) s := reg1 8
theorem rgPdqI_72 : ∀ r s tm, cPdqI_72.run r tm s = xBin ⟨9, []⟩ false .quo (gp 10 tm) (V.nat .i64 8) fun v1 => .nrm (sp 18 v1 tm) s := reg1 3
theorem rgPdqI_74 : ∀ r s tm, cPdqI_74.run r tm s = xBin ⟨9, []⟩ false .lss (gp 16 tm) (gp 17 tm) fun v2 => .nrm (sp 26 v2 tm) s := reg1 3
theorem rgPdqI_77 : ∀ r s tm, cPdqI_77.run r tm s = xBin ⟨9, []⟩ false .geq (gp 16 tm) (gp 18 tm) fun v2 => .nrm (sp 8 v2 tm) s := reg1 4
theorem rgPdqI_79 : ∀ r s tm, cPdqI_79.run r tm s = foldF (r.call 123 [(gp 0 tm), (gp 1 tm), (gp 14 tm), (gp 3 tm)] s) fun _ s => .nrm tm s := reg1 5
theorem rgPdqI_80 : ∀ r s tm, cPdqI_80.run r tm s = xBin ⟨9, []⟩ false .add (gp 14 tm) (V.nat .i64 1) fun v1 => .nrm (sp 1 v1 tm) s := reg1 3
theorem rgPdqI_82 : ∀ r s tm, cPdqI_82.run r tm s = xBin ⟨9, []⟩ false .geq (gp 17 tm) (gp 18 tm) fun v2 => .nrm (sp 8 v2 tm) s := reg1 4
theorem rgPdqI_84 : ∀ r s tm, cPdqI_84.run r tm s = xBin ⟨9, []⟩ false .add (gp 14 tm) (V.nat .i64 1) fun v2 => foldF (r.call 123 [(gp 0 tm), v2, (gp 2 tm), (gp 3 tm)] s) fun _ s => .nrm tm s := reg1 6
theorem rgPdqI_85 : ∀ r s tm, cPdqI_85.run r tm s = .nrm (sp 2 (gp 14 tm) tm) s := reg1 2
theorem szPdqI_5 : sizeC uPdqI_5 = 214 := by kernel_rfl
theorem lpPdqI_5 : ∀ r s tm, cPdqI_5.run r tm s = seqA (fun tm s => r.code fiPdqI uPdqI_5 tm s) (blockN 1 (seqA (fun tm s => seqA (fun tm s => seqA (fun tm s => seqA (fun tm s => seqA (fun tm s => seqA (fun tm s => seqA (fun tm s => seqA (fun tm s => seqA (fun tm s => seqA (fun tm s => seqA (fun tm s => seqA (fun tm s => seqA (fun tm s => condV (gp 26 tm) (seqA (fun tm s => seqA (fun tm s => cPdqI_80.run r tm s) (cPdqI_79.run r tm s)) (cPdqI_77.run r tm s)) (seqA (fun tm s => seqA (fun tm s => cPdqI_85.run r tm s) (cPdqI_84.run r tm s)) (cPdqI_82.run r tm s))) (cPdqI_74.run r tm s)) (cPdqI_72.run r tm s)) (cPdqI_70.run r tm s)) (cPdqI_68.run r tm s)) (cPdqI_66.run r tm s)) (seqA (fun tm s => condV (gp 25 tm) (seqA (fun tm s => seqA (fun tm s => .ext 1 tm s) (cPdqI_62.run r tm s)) (cPdqI_60.run r tm s)) (.nrm tm s)) (cPdqI_57.run r tm s))) (seqA (fun tm s => condV (gp 23 tm) (seqA (fun tm s => condV (gp 24 tm) (.ret tm s) (.nrm tm s)) (cPdqI_50.run r tm s)) (.nrm tm s)) (cPdqI_47.run r tm s))) (seqA (fun tm s => condV (gp 22 tm) (seqA (fun tm s => seqA (fun tm s => cPdqI_43.run r tm s) (cPdqI_42.run r tm s)) (cPdqI_40.run r tm s)) (.nrm tm s)) (cPdqI_37.run r tm s))) (cPdqI_34.run r tm s)) (seqA (fun tm s => condV (gp 21 tm) (seqA (fun tm s => cPdqI_31.run r tm s) (cPdqI_30.run r tm s)) (.nrm tm s)) (cPdqI_27.run r tm s))) (seqA (fun tm s => condV (gp 20 tm) (seqA (fun tm s => .ret tm s) (cPdqI_22.run r tm s)) (.nrm tm s)) (cPdqI_19.run r tm s))) (seqA (fun tm s => condV (gp 19 tm) (seqA (fun tm s => .ret tm s) (cPdqI_14.run r tm s)) (.nrm tm s)) (cPdqI_11.run r tm s))) (cPdqI_8.run r tm s))) := by intros; kernel_rfl
theorem allPdqI : type_of% (And.intro rgPdqI_1 <| And.intro rgPdqI_3 <| And.intro rgPdqI_8 <| And.intro rgPdqI_11 <| And.intro rgPdqI_14 <| And.intro rgPdqI_19 <| And.intro rgPdqI_22 <| And.intro rgPdqI_27 <| And.intro rgPdqI_30 <| And.intro rgPdqI_31 <| And.intro rgPdqI_34 <| And.intro rgPdqI_37 <| And.intro rgPdqI_40 <| And.intro rgPdqI_42 <| And.intro rgPdqI_43 <| And.intro rgPdqI_47 <| And.intro rgPdqI_50 <| And.intro rgPdqI_57 <| And.intro rgPdqI_60 <| And.intro rgPdqI_62 <| And.intro rgPdqI_66 <| And.intro rgPdqI_68 <| And.intro rgPdqI_70 <| And.intro rgPdqI_72 <| And.intro rgPdqI_74 <| And.intro rgPdqI_77 <| And.intro rgPdqI_79 <| And.intro rgPdqI_80 <| And.intro rgPdqI_82 <| And.intro rgPdqI_84 <| And.intro rgPdqI_85 <| ePdqIx) := And.intro rgPdqI_1 <| And.intro rgPdqI_3 <| And.intro rgPdqI_8 <| And.intro rgPdqI_11 <| And.intro rgPdqI_14 <| And.intro rgPdqI_19 <| And.intro rgPdqI_22 <| And.intro rgPdqI_27 <| And.intro rgPdqI_30 <| And.intro rgPdqI_31 <| And.intro rgPdqI_34 <| And.intro rgPdqI_37 <| And.intro rgPdqI_40 <| And.intro rgPdqI_42 <| And.intro rgPdqI_43 <| And.intro rgPdqI_47 <| And.intro rgPdqI_50 <| And.intro rgPdqI_57 <| And.intro rgPdqI_60 <| And.intro rgPdqI_62 <| And.intro rgPdqI_66 <| And.intro rgPdqI_68 <| And.intro rgPdqI_70 <| And.intro rgPdqI_72 <| And.intro rgPdqI_74 <| And.intro rgPdqI_77 <| And.intro rgPdqI_79 <| And.intro rgPdqI_80 <| And.intro rgPdqI_82 <| And.intro rgPdqI_84 <| And.intro rgPdqI_85 <| ePdqIx
/- math/bits.Len: parameters 1, slots in the frame: [(0, 0), (1, 1), (2, 2)] -/
def fiLen : FI := ⟨248, 8, 4⟩
noncomputable def bodyLen := bodyOf Tryz.prog 124
noncomputable def cLen_1 := comp pc0 fiLen (subC [0] bodyLen)
noncomputable def cLen_5 := comp pc0 fiLen (subC [1, 0, 0, 0] bodyLen)
noncomputable def cLen_9 := comp pc0 fiLen (subC [1, 1, 0] bodyLen)
noncomputable def cLen_0 := comp pc0 fiLen bodyLen
noncomputable def finLen := finN (resC pc0 fiLen (resOf Tryz.prog 124)).run
theorem eLenx :
 ((∀ r s x0, (fnC pc0 124).run r [x0] s = outF (bindR (fun tm s => finLen tm s) (cLen_0.run r (sp 0 x0 T.new) s))) ∧
 ((∀ s tm, finLen tm s = finV (gp 240 tm) (resV [(gp 2 tm)] s)) ∧
 (∀ r s tm, cLen_0.run r tm s = seqA (fun tm s => seqA (fun tm s => seqA (fun tm s => .ret tm s) (cLen_9.run r tm s)) (condV (V.bool false) (seqA (fun tm s => .ret tm s) (cLen_5.run r tm s)) (.nrm tm s))) (cLen_1.run r tm s)))) := by
 and_intros <;> (intros; kernel_rfl)
theorem rgLen_1 : ∀ r s tm, cLen_1.run r tm s = .nrm (sp 2 (V.nat .i64 0) tm) s := reg1 1
theorem rgLen_5 : ∀ r s tm, cLen_5.run r tm s = xIntConv .u32 (gp 0 tm) fun v1 => foldF (r.call 169 [v1] s) fun v2 s => .nrm (sp 2 v2 tm) s := reg1 4
theorem rgLen_9 : ∀ r s tm, cLen_9.run r tm s = foldF (r.call 170 [(gp 0 tm)] s) fun v1 s => .nrm (sp 2 v1 tm) s := reg1 3
theorem allLen : type_of% (And.intro rgLen_1 <| And.intro rgLen_5 <| And.intro rgLen_9 <| eLenx) := And.intro rgLen_1 <| And.intro rgLen_5 <| And.intro rgLen_9 <| eLenx
/- slices.insertionSortOrdered[int]: parameters 3, slots in the frame: [(0, 0), (1, 1), (2, 2), (3, 3), (4, 4), (5, 5), (6, 6), (7, 7), (8, 12), (9, 30)] -/
def fiInsI : FI := ⟨562948879675136, 49, 4⟩
noncomputable def bodyInsI := bodyOf Tryz.prog 160
noncomputable def cInsI_1 := comp pc0 fiInsI (subC [0] bodyInsI)
noncomputable def cInsI_6 := comp pc0 fiInsI (subC [1, 0, 0, 0, 0] bodyInsI)
noncomputable def cInsI_13 := comp pc0 fiInsI (subC [1, 0, 0, 1, 0, 0, 0] bodyInsI)
noncomputable def uInsI_18 := subC [1, 0, 0, 1, 0, 0, 1, 0, 0, 0, 0] bodyInsI
noncomputable def cInsI_18 := comp pc0 fiInsI uInsI_18
noncomputable def qInsI_18_14 := dqOf pc0 fiInsI uInsI_18 14 1 [30, 29, 28, 27, 26, 25, 24, 23, 22, 21, 20, 19, 18, 17]
noncomputable def qInsI_18_4 := dqOf pc0 fiInsI uInsI_18 4 10 [20, 19, 18, 17]
noncomputable def qInsI_18_0 := dqOf pc0 fiInsI uInsI_18 0 4 []
noncomputable def cInsI_24 := comp pc0 fiInsI (subC [1, 0, 0, 1, 0, 0, 1, 0, 0, 1, 0, 0] bodyInsI)
noncomputable def cInsI_25 := comp pc0 fiInsI (subC [1, 0, 0, 1, 0, 0, 1, 0, 0, 1, 1] bodyInsI)
noncomputable def uInsI_15 := subC [1, 0, 0, 1, 0, 0, 1, 0] bodyInsI
noncomputable def cInsI_15 := comp pc0 fiInsI uInsI_15
noncomputable def cInsI_26 := comp pc0 fiInsI (subC [1, 0, 0, 1, 1] bodyInsI)
noncomputable def uInsI_3 := subC [1, 0] bodyInsI
noncomputable def cInsI_3 := comp pc0 fiInsI uInsI_3
noncomputable def cInsI_0 := comp pc0 fiInsI bodyInsI
noncomputable def finInsI := finN (resC pc0 fiInsI (resOf Tryz.prog 160)).run
theorem eInsIx :
 (((∀ r s x0 x1 x2, (fnC pc0 160).run r [x0, x1, x2] s = outF (bindR (fun tm s => finInsI tm s) (cInsI_0.run r (sp 2 x2 (sp 1 x1 (sp 0 x0 T.new))) s))) ∧
 ((∀ s tm, finInsI tm s = finV (gp 240 tm) (resV [] s)) ∧
 (∀ r s tm, cInsI_0.run r tm s = seqA (fun tm s => blockN 0 (cInsI_3.run r tm s)) (cInsI_1.run r tm s)))) ∧
 (((∀ g r s tm le, (qInsI_18_0 g).run r tm (le) s = xBin ⟨9, []⟩ false .gtr (gp 7 tm) (gp 1 tm) fun v2 => g.run r tm (v2 :: v2 :: (gp 1 tm) :: (gp 7 tm) :: le) s) ∧
 (∀ g r s tm le, (qInsI_18_4 g).run r tm ((.bool true) :: le) s = xIdxAddrS 1 (gp 0 tm) (gp 7 tm) fun v6 => xLoad false 1 v6 s fun v7 s => xBin ⟨9, []⟩ false .sub (gp 7 tm) (V.nat .i64 1) fun v10 => xIdxAddrS 1 (gp 0 tm) v10 fun v11 => xLoad false 1 v11 s fun v12 s => foldF (r.call 166 [v7, v12] s) fun v13 s => g.run r tm (v13 :: v12 :: v11 :: v10 :: (gp 7 tm) :: (gp 0 tm) :: v7 :: v6 :: (gp 7 tm) :: (gp 0 tm) :: (.bool true) :: le) s)) ∧
 ((∀ g r s tm le, (qInsI_18_4 g).run r tm ((.bool false) :: le) s = g.run r tm (Go.Ev.undef :: Go.Ev.undef :: Go.Ev.undef :: Go.Ev.undef :: Go.Ev.undef :: Go.Ev.undef :: Go.Ev.undef :: Go.Ev.undef :: Go.Ev.undef :: Go.Ev.undef :: (.bool false) :: le) s) ∧
 (∀ g r s tm le x0_ x1_ x2_ x3_ x4_ x5_ x6_ x7_ x8_ x9_ x10_, (qInsI_18_14 g).run r tm (x0_ :: x1_ :: x2_ :: x3_ :: x4_ :: x5_ :: x6_ :: x7_ :: x8_ :: x9_ :: x10_ :: le) s = xPick x10_ (fun _ => g.run r (sp 9 x0_ tm) (x0_ :: x0_ :: x1_ :: x2_ :: x3_ :: x4_ :: x5_ :: x6_ :: x7_ :: x8_ :: x9_ :: x10_ :: le) s) (fun _ => g.run r (sp 9 (V.bool false) tm) ((V.bool false) :: x0_ :: x1_ :: x2_ :: x3_ :: x4_ :: x5_ :: x6_ :: x7_ :: x8_ :: x9_ :: x10_ :: le) s))))) := by
 and_intros <;> (intros; kernel_rfl)
theorem rgInsI_1 : ∀ r s tm, cInsI_1.run r tm s = xBin ⟨9, []⟩ false .add (gp 1 tm) (V.nat .i64 1) fun v1 => .nrm (sp 6 v1 tm) s := reg1 3
theorem rgInsI_6 : ∀ r s tm, cInsI_6.run r tm s = xBin ⟨9, []⟩ false .lss (gp 6 tm) (gp 2 tm) fun v2 => .nrm (sp 8 v2 tm) s := reg1 3
theorem rgInsI_13 : ∀ r s tm, cInsI_13.run r tm s = .nrm (sp 7 (gp 6 tm) tm) s := reg1 2
theorem rgInsI_18 : ∀ r s tm, cInsI_18.run r tm s = (qInsI_18_0 (qInsI_18_4 (qInsI_18_14 nilL))).run r.det tm [] s := reg_drun (by kernel_rfl) (dchS rfl (by kernel_rfl) (dchS rfl (by kernel_rfl) dchL))
theorem rgInsI_24 : ∀ r s tm, cInsI_24.run r tm s = xBin ⟨9, []⟩ false .sub (gp 7 tm) (V.nat .i64 1) fun v4 => xBin ⟨9, []⟩ false .sub (gp 7 tm) (V.nat .i64 1) fun v7 => xIdxAddrS 1 (gp 0 tm) v7 fun v8 => xLoad false 1 v8 s fun v9 s => xIdxAddrS 1 (gp 0 tm) (gp 7 tm) fun v12 => xLoad false 1 v12 s fun v13 s => xIdxAddrS 1 (gp 0 tm) (gp 7 tm) fun v14 => xStore 1 v14 v9 s fun _ s => xIdxAddrS 1 (gp 0 tm) v4 fun v16 => xStore 1 v16 v13 s fun _ s => .nrm tm s := dreg1 18
theorem rgInsI_25 : ∀ r s tm, cInsI_25.run r tm s = xBin ⟨9, []⟩ false .sub (gp 7 tm) (V.nat .i64 1) fun v1 => .nrm (sp 7 v1 tm) s := reg1 3
theorem rgInsI_26 : ∀ r s tm, cInsI_26.run r tm s = xBin ⟨9, []⟩ false .add (gp 6 tm) (V.nat .i64 1) fun v1 => .nrm (sp 6 v1 tm) s := reg1 3
theorem szInsI_15 : sizeC uInsI_15 = 47 := by kernel_rfl
theorem szInsI_3 : sizeC uInsI_3 = 68 := by kernel_rfl
theorem lpInsI_15 : ∀ r s tm, cInsI_15.run r tm s = seqA (fun tm s => r.code fiInsI uInsI_15 tm s) (seqA (fun tm s => seqA (fun tm s => cInsI_25.run r tm s) (blockN 3 (cInsI_24.run r tm s))) (seqA (fun tm s => condV (gp 9 tm) (.nrm tm s) (.ext 2 tm s)) (cInsI_18.run r tm s))) := by intros; kernel_rfl
theorem lpInsI_3 : ∀ r s tm, cInsI_3.run r tm s = seqA (fun tm s => r.code fiInsI uInsI_3 tm s) (seqA (fun tm s => seqA (fun tm s => cInsI_26.run r tm s) (blockN 1 (seqA (fun tm s => blockN 2 (cInsI_15.run r tm s)) (cInsI_13.run r tm s)))) (seqA (fun tm s => condV (gp 8 tm) (.nrm tm s) (.ext 0 tm s)) (cInsI_6.run r tm s))) := by intros; kernel_rfl
theorem allInsI : type_of% (And.intro rgInsI_1 <| And.intro rgInsI_6 <| And.intro rgInsI_13 <| And.intro rgInsI_18 <| And.intro rgInsI_24 <| And.intro rgInsI_25 <| And.intro rgInsI_26 <| eInsIx) := And.intro rgInsI_1 <| And.intro rgInsI_6 <| And.intro rgInsI_13 <| And.intro rgInsI_18 <| And.intro rgInsI_24 <| And.intro rgInsI_25 <| And.intro rgInsI_26 <| eInsIx
/- cmp.Less[int]: parameters 2, slots in the frame: [(0, 0), (1, 1), (2, 2), (3, 3), (4, 4)] -/
def fiLessI : FI := ⟨131040, 17, 4⟩
noncomputable def bodyLessI := bodyOf Tryz.prog 166
noncomputable def cLessI_1 := comp pc0 fiLessI (subC [0] bodyLessI)
noncomputable def uLessI_3 := subC [1, 0] bodyLessI
noncomputable def cLessI_3 := comp pc0 fiLessI uLessI_3
noncomputable def qLessI_3_11 := qOf pc0 fiLessI uLessI_3 11 2 [16, 15, 14, 13, 12, 11, 10, 9, 8, 7, 6]
noncomputable def qLessI_3_8 := qOf pc0 fiLessI uLessI_3 8 3 [13, 12, 11, 10, 9, 8, 7, 6]
noncomputable def qLessI_3_6 := qOf pc0 fiLessI uLessI_3 6 2 [11, 10, 9, 8, 7, 6]
noncomputable def qLessI_3_3 := qOf pc0 fiLessI uLessI_3 3 3 [8, 7, 6]
noncomputable def qLessI_3_0 := qOf pc0 fiLessI uLessI_3 0 3 []
noncomputable def cLessI_0 := comp pc0 fiLessI bodyLessI
noncomputable def finLessI := finN (resC pc0 fiLessI (resOf Tryz.prog 166)).run
theorem eLessIx :
 ((((∀ r s x0 x1, (fnC pc0 166).run r [x0, x1] s = outF (bindR (fun tm s => finLessI tm s) (cLessI_0.run r (sp 1 x1 (sp 0 x0 T.new)) s))) ∧
 (∀ s tm, finLessI tm s = finV (gp 240 tm) (resV [(gp 4 tm)] s))) ∧
 ((∀ r s tm, cLessI_0.run r tm s = seqA (fun tm s => seqA (fun tm s => .ret tm s) (cLessI_3.run r tm s)) (cLessI_1.run r tm s)) ∧
 ((∀ g r s tm le, (qLessI_3_0 g).run r tm (le) s = foldF (r.call 194 [(gp 0 tm)] s) fun v1 s => g.run r tm (v1 :: v1 :: (gp 0 tm) :: le) s) ∧
 (∀ g r s tm le, (qLessI_3_3 g).run r tm ((.bool true) :: le) s = foldF (r.call 194 [(gp 1 tm)] s) fun v4 s => xUn .not v4 fun v5 => g.run r tm (v5 :: v4 :: (gp 1 tm) :: (.bool true) :: le) s)))) ∧
 (((∀ g r s tm le, (qLessI_3_3 g).run r tm ((.bool false) :: le) s = g.run r tm (Go.Ev.undef :: Go.Ev.undef :: Go.Ev.undef :: (.bool false) :: le) s) ∧
 (∀ g r s tm le x0_ x1_ x2_ x3_, (qLessI_3_6 g).run r tm (x0_ :: x1_ :: x2_ :: x3_ :: le) s = xPick x3_ (fun _ => g.run r tm (x0_ :: x0_ :: x0_ :: x1_ :: x2_ :: x3_ :: le) s) (fun _ => g.run r tm ((V.bool false) :: (V.bool false) :: x0_ :: x1_ :: x2_ :: x3_ :: le) s))) ∧
 ((∀ g r s tm le, (qLessI_3_8 g).run r tm ((.bool true) :: le) s = g.run r tm (Go.Ev.undef :: Go.Ev.undef :: Go.Ev.undef :: (.bool true) :: le) s) ∧
 ((∀ g r s tm le, (qLessI_3_8 g).run r tm ((.bool false) :: le) s = xBin ⟨9, []⟩ false .lss (gp 0 tm) (gp 1 tm) fun v10 => g.run r tm (v10 :: (gp 1 tm) :: (gp 0 tm) :: (.bool false) :: le) s) ∧
 (∀ g r s tm le x0_ x1_ x2_ x3_, (qLessI_3_11 g).run r tm (x0_ :: x1_ :: x2_ :: x3_ :: le) s = xPick x3_ (fun _ => g.run r (sp 4 (V.bool true) tm) ((V.bool true) :: (V.bool true) :: x0_ :: x1_ :: x2_ :: x3_ :: le) s) (fun _ => g.run r (sp 4 x0_ tm) (x0_ :: x0_ :: x0_ :: x1_ :: x2_ :: x3_ :: le) s)))))) := by
 and_intros <;> (intros; kernel_rfl)
theorem rgLessI_1 : ∀ r s tm, cLessI_1.run r tm s = .nrm (sp 4 (V.bool false) tm) s := reg1 1
theorem rgLessI_3 : ∀ r s tm, cLessI_3.run r tm s = (qLessI_3_0 (qLessI_3_3 (qLessI_3_6 (qLessI_3_8 (qLessI_3_11 nilL))))).run r tm [] s := reg_run (by kernel_rfl) (chS rfl (by kernel_rfl) (chS rfl (by kernel_rfl) (chS rfl (by kernel_rfl) (chS rfl (by kernel_rfl) chL))))
theorem allLessI : type_of% (And.intro rgLessI_1 <| And.intro rgLessI_3 <| eLessIx) := And.intro rgLessI_1 <| And.intro rgLessI_3 <| eLessIx
/- math/bits.Len64: parameters 1, slots in the frame: [(0, 0), (1, 1), (2, 2), (3, 4), (4, 8), (5, 14)] -/
def fiLen64 : FI := ⟨33537768, 25, 4⟩
noncomputable def bodyLen64 := bodyOf Tryz.prog 170
noncomputable def cLen64_1 := comp pc0 fiLen64 (subC [0] bodyLen64)
noncomputable def cLen64_4 := comp pc0 fiLen64 (subC [1, 0, 0] bodyLen64)
noncomputable def cLen64_7 := comp pc0 fiLen64 (subC [1, 0, 1, 0, 0] bodyLen64)
noncomputable def cLen64_8 := comp pc0 fiLen64 (subC [1, 0, 1, 0, 1] bodyLen64)
noncomputable def cLen64_12 := comp pc0 fiLen64 (subC [1, 1, 0, 0] bodyLen64)
noncomputable def cLen64_15 := comp pc0 fiLen64 (subC [1, 1, 0, 1, 0, 0] bodyLen64)
noncomputable def cLen64_16 := comp pc0 fiLen64 (subC [1, 1, 0, 1, 0, 1] bodyLen64)
noncomputable def cLen64_20 := comp pc0 fiLen64 (subC [1, 1, 1, 0, 0] bodyLen64)
noncomputable def cLen64_23 := comp pc0 fiLen64 (subC [1, 1, 1, 0, 1, 0, 0] bodyLen64)
noncomputable def cLen64_24 := comp pc0 fiLen64 (subC [1, 1, 1, 0, 1, 0, 1] bodyLen64)
noncomputable def cLen64_27 := comp pc0 fiLen64 (subC [1, 1, 1, 1, 0] bodyLen64)
noncomputable def cLen64_0 := comp pc0 fiLen64 bodyLen64
noncomputable def finLen64 := finN (resC pc0 fiLen64 (resOf Tryz.prog 170)).run
theorem eLen64x :
 ((∀ r s x0, (fnC pc0 170).run r [x0] s = outF (bindR (fun tm s => finLen64 tm s) (cLen64_0.run r (sp 0 x0 T.new) s))) ∧
 ((∀ s tm, finLen64 tm s = finV (gp 240 tm) (resV [(gp 2 tm)] s)) ∧
 (∀ r s tm, cLen64_0.run r tm s = seqA (fun tm s => seqA (fun tm s => seqA (fun tm s => seqA (fun tm s => seqA (fun tm s => .ret tm s) (cLen64_27.run r tm s)) (seqA (fun tm s => condV (gp 5 tm) (seqA (fun tm s => cLen64_24.run r tm s) (cLen64_23.run r tm s)) (.nrm tm s)) (cLen64_20.run r tm s))) (seqA (fun tm s => condV (gp 4 tm) (seqA (fun tm s => cLen64_16.run r tm s) (cLen64_15.run r tm s)) (.nrm tm s)) (cLen64_12.run r tm s))) (seqA (fun tm s => condV (gp 3 tm) (seqA (fun tm s => cLen64_8.run r tm s) (cLen64_7.run r tm s)) (.nrm tm s)) (cLen64_4.run r tm s))) (cLen64_1.run r tm s)))) := by
 and_intros <;> (intros; kernel_rfl)
theorem rgLen64_1 : ∀ r s tm, cLen64_1.run r tm s = .nrm (sp 2 (V.nat .i64 0) tm) s := reg1 1
theorem rgLen64_4 : ∀ r s tm, cLen64_4.run r tm s = xBin ⟨9, []⟩ false .geq (gp 0 tm) (V.nat .u64 4294967296) fun v1 => .nrm (sp 3 v1 tm) s := reg1 2
theorem rgLen64_7 : ∀ r s tm, cLen64_7.run r tm s = xShift .shr (gp 0 tm) (V.nat .u64 32) fun v1 => .nrm (sp 0 v1 tm) s := reg1 3
theorem rgLen64_8 : ∀ r s tm, cLen64_8.run r tm s = .nrm (sp 2 (V.nat .i64 32) tm) s := reg1 1
theorem rgLen64_12 : ∀ r s tm, cLen64_12.run r tm s = xBin ⟨9, []⟩ false .geq (gp 0 tm) (V.nat .u64 65536) fun v1 => .nrm (sp 4 v1 tm) s := reg1 2
theorem rgLen64_15 : ∀ r s tm, cLen64_15.run r tm s = xShift .shr (gp 0 tm) (V.nat .u64 16) fun v1 => .nrm (sp 0 v1 tm) s := reg1 3
theorem rgLen64_16 : ∀ r s tm, cLen64_16.run r tm s = xBin ⟨9, []⟩ false .add (gp 2 tm) (V.nat .i64 16) fun v1 => .nrm (sp 2 v1 tm) s := reg1 3
theorem rgLen64_20 : ∀ r s tm, cLen64_20.run r tm s = xBin ⟨9, []⟩ false .geq (gp 0 tm) (V.nat .u64 256) fun v1 => .nrm (sp 5 v1 tm) s := reg1 2
theorem rgLen64_23 : ∀ r s tm, cLen64_23.run r tm s = xShift .shr (gp 0 tm) (V.nat .u64 8) fun v1 => .nrm (sp 0 v1 tm) s := reg1 3
theorem rgLen64_24 : ∀ r s tm, cLen64_24.run r tm s = xBin ⟨9, []⟩ false .add (gp 2 tm) (V.nat .i64 8) fun v1 => .nrm (sp 2 v1 tm) s := reg1 3
theorem rgLen64_27 : ∀ r s tm, cLen64_27.run r tm s = xIntConv .u8 (gp 0 tm) fun v2 => xIndexS (V.str [0, 1, 2, 2, 3, 3, 3, 3, 4, 4, 4, 4, 4, 4, 4, 4, 5, 5, 5, 5, 5, 5, 5, 5, 5, 5, 5, 5, 5, 5, 5, 5, 6, 6, 6, 6, 6, 6, 6, 6, 6, 6, 6, 6, 6, 6, 6, 6, 6, 6, 6, 6, 6, 6, 6, 6, 6, 6, 6, 6, 6, 6, 6, 6, 7, 7, 7, 7, 7, 7, 7, 7, 7, 7, 7, 7, 7, 7, 7, 7, 7, 7, 7, 7, 7, 7, 7, 7, 7, 7, 7, 7, 7, 7, 7, 7, 7, 7, 7, 7, 7, 7, 7, 7, 7, 7, 7, 7, 7, 7, 7, 7, 7, 7, 7, 7, 7, 7, 7, 7, 7, 7, 7, 7, 7, 7, 7, 7, 8, 8, 8, 8, 8, 8, 8, 8, 8, 8, 8, 8, 8, 8, 8, 8, 8, 8, 8, 8, 8, 8, 8, 8, 8, 8, 8, 8, 8, 8, 8, 8, 8, 8, 8, 8, 8, 8, 8, 8, 8, 8, 8, 8, 8, 8, 8, 8, 8, 8, 8, 8, 8, 8, 8, 8, 8, 8, 8, 8, 8, 8, 8, 8, 8, 8, 8, 8, 8, 8, 8, 8, 8, 8, 8, 8, 8, 8, 8, 8, 8, 8, 8, 8, 8, 8, 8, 8, 8, 8, 8, 8, 8, 8, 8, 8, 8, 8, 8, 8, 8, 8, 8, 8, 8, 8, 8, 8, 8, 8, 8, 8, 8, 8, 8, 8, 8, 8, 8, 8, 8, 8, 8, 8, 8, 8, 8, 8]) v2 fun v3 => xIntConv .i64 v3 fun v4 => xBin ⟨9, []⟩ false .add (gp 2 tm) v4 fun v5 => .nrm (sp 2 v5 tm) s := reg1 7
theorem allLen64 : type_of% (And.intro rgLen64_1 <| And.intro rgLen64_4 <| And.intro rgLen64_7 <| And.intro rgLen64_8 <| And.intro rgLen64_12 <| And.intro rgLen64_15 <| And.intro rgLen64_16 <| And.intro rgLen64_20 <| And.intro rgLen64_23 <| And.intro rgLen64_24 <| And.intro rgLen64_27 <| eLen64x) := And.intro rgLen64_1 <| And.intro rgLen64_4 <| And.intro rgLen64_7 <| And.intro rgLen64_8 <| And.intro rgLen64_12 <| And.intro rgLen64_15 <| And.intro rgLen64_16 <| And.intro rgLen64_20 <| And.intro rgLen64_23 <| And.intro rgLen64_24 <| And.intro rgLen64_27 <| eLen64x
/- cmp.isNaN[int]: parameters 1, slots in the frame: [(0, 0), (1, 1), (2, 2)] -/
def fiisNaN : FI := ⟨56, 6, 4⟩
noncomputable def bodyisNaN := bodyOf Tryz.prog 194
noncomputable def cisNaN_1 := comp pc0 fiisNaN (subC [0] bodyisNaN)
noncomputable def cisNaN_3 := comp pc0 fiisNaN (subC [1, 0] bodyisNaN)
noncomputable def cisNaN_0 := comp pc0 fiisNaN bodyisNaN
noncomputable def finisNaN := finN (resC pc0 fiisNaN (resOf Tryz.prog 194)).run
theorem eisNaNx :
 ((∀ r s x0, (fnC pc0 194).run r [x0] s = outF (bindR (fun tm s => finisNaN tm s) (cisNaN_0.run r (sp 0 x0 T.new) s))) ∧
 ((∀ s tm, finisNaN tm s = finV (gp 240 tm) (resV [(gp 2 tm)] s)) ∧
 (∀ r s tm, cisNaN_0.run r tm s = seqA (fun tm s => seqA (fun tm s => .ret tm s) (cisNaN_3.run r tm s)) (cisNaN_1.run r tm s)))) := by
 and_intros <;> (intros; kernel_rfl)
theorem rgisNaN_1 : ∀ r s tm, cisNaN_1.run r tm s = .nrm (sp 2 (V.bool false) tm) s := reg1 1
theorem rgisNaN_3 : ∀ r s tm, cisNaN_3.run r tm s = xBin ⟨7, []⟩ false .neq (gp 0 tm) (gp 0 tm) fun v2 => .nrm (sp 2 v2 tm) s := reg1 4
theorem allisNaN : type_of% (And.intro rgisNaN_1 <| And.intro rgisNaN_3 <| eisNaNx) := And.intro rgisNaN_1 <| And.intro rgisNaN_3 <| eisNaNx

end Go.Proofs.YtobflfopdndfdaaGreatDoor.oev
